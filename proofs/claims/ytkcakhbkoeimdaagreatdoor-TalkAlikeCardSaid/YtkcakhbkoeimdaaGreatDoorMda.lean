import Derived.Calls
import Derived.KernelRfl
import Derived.Below
import Derived.Laws.Cells
import Derived.Lib.FrozenHead
import Derived.ChangeKeysEq
import Derived.Laws.CopyRow
set_option linter.unusedSimpArgs false
set_option linter.unusedVariables false
section
namespace Go.Ev
inductive Ty where
 | unit | bool | int (k:IntKind) | str | pair (a b:Ty) | st (a:Ty) | arr (n:Nat) (a:Ty) | sl (a:Ty) | ptr (a:Ty) | fn (a b:Ty)
def zCZ:IntKind→Nat
 | .i8=>0 | .i16=>1 | .i32=>2 | .i64=>3 | .u8=>4 | .u16=>5 | .u32=>6 | .u64=>7
def Ty.beq:Ty→Ty→Bool
 | .unit,b=>match b with | .unit=>true | _=>false
 | .bool,b=>match b with | .bool=>true | _=>false
 | .int k,b=>match b with | .int l=>Nat.beq (zCZ k) (zCZ l) | _=>false
 | .str,b=>match b with | .str=>true | _=>false
 | .pair x y,b=>match b with | .pair z w=>bif x.beq z then y.beq w else false | _=>false
 | .st x,b=>match b with | .st z=>x.beq z | _=>false
 | .arr n x,b=>match b with | .arr m z=>bif Nat.beq n m then x.beq z else false | _=>false
 | .sl x,b=>match b with | .sl z=>x.beq z | _=>false
 | .ptr x,b=>match b with | .ptr z=>x.beq z | _=>false
 | .fn x y,b=>match b with | .fn z w=>bif x.beq z then y.beq w else false | _=>false
theorem Ty.beq_eq:∀ {a b:Ty},a.beq b = true→a = b:=by
 intro a
 induction a with
 | int k =>
  intro b h
  cases b with
  | int l =>
   have:zCZ k = zCZ l:=Nat.eq_of_beq_eq_true h
   cases k <;> cases l <;> first | rfl | (exact absurd this (by decide))
  | _=>cases h
 | pair x y hx hy =>
  intro b h
  cases b with
  | pair z w =>
   simp only [Ty.beq] at h
   cases h1:x.beq z with
   | true=>rw [h1] at h; rw [hx h1,hy h]
   | false=>rw [h1] at h; cases h
  | _=>cases h
 | fn x y hx hy =>
  intro b h
  cases b with
  | fn z w =>
   simp only [Ty.beq] at h
   cases h1:x.beq z with
   | true=>rw [h1] at h; rw [hx h1,hy h]
   | false=>rw [h1] at h; cases h
  | _=>cases h
 | arr n x hx =>
  intro b h
  cases b with
  | arr m z =>
   simp only [Ty.beq] at h
   cases h1:Nat.beq n m with
   | true=>rw [h1] at h; rw [hx h,Nat.eq_of_beq_eq_true h1]
   | false=>rw [h1] at h; cases h
  | _=>cases h
 | st x hx=>intro b h; cases b with | st z=>rw [hx h] | _=>cases h
 | sl x hx=>intro b h; cases b with | sl z=>rw [hx h] | _=>cases h
 | ptr x hx=>intro b h; cases b with | ptr z=>rw [hx h] | _=>cases h
 | _=>intro b h; cases b <;> first | rfl | cases h
theorem Ty.beq_self:∀ (a:Ty),a.beq a = true:=by
 intro a
 induction a with
 | int k=>exact Nat.beq_refl _
 | arr n x hx=>simp only [Ty.beq,hx,cond_true,Nat.beq_refl]
 | pair x y hx hy=>simp only [Ty.beq,hx,hy,cond_true]
 | fn x y hx hy=>simp only [Ty.beq,hx,hy,cond_true]
 | st x hx=>exact hx
 | sl x hx=>exact hx
 | ptr x hx=>exact hx
 | _=>rfl
instance:DecidableEq Ty:=fun a b=>match h:a.beq b with
 | true=>isTrue (Ty.beq_eq h)
 | false=>isFalse fun e=>by rw [e,Ty.beq_self] at h; cases h
inductive TT where
 | nil | node (l:TT) (k:Nat) (τ:Ty) (r:TT)
def qm:TT→Nat→Option Ty
 | .nil,_=>none
 | .node l k τ r,t=>bif Nat.beq k t then some τ else bif Nat.blt t k then qm l t else qm r t
def TT.all (p:Nat→Ty→Bool):TT→Bool
 | .nil=>true
 | .node l k τ r=>l.all p && (p k τ && r.all p)
theorem TT.all_look {p:Nat→Ty→Bool} {t:Nat} {τ:Ty}:∀ {T:TT},T.all p = true→qm T t = some τ→p t τ = true
 | .nil,_,h=>by cases h
 | .node l k σ r,h,hl=>by
  simp only [TT.all,Bool.and_eq_true] at h
  simp only [qm] at hl
  cases h1:Nat.beq k t with
  | true=>rw [h1] at hl; cases hl; rw [← Nat.eq_of_beq_eq_true h1]; exact h.2.1
  | false =>
   rw [h1] at hl
   cases h2:Nat.blt t k with
   | true=>rw [h2] at hl; exact TT.all_look h.1 hl
   | false=>rw [h2] at hl; exact TT.all_look h.2.2 hl
@[reducible] def Ty.I:Ty→Type
 | .unit=>Unit
 | .bool=>Bool
 | .int _=>Int
 | .str=>ByteArray
 | .pair a b=>a.I × b.I
 | .st a=>a.I
 | .arr _ a=>List a.I
 | .sl a=>List a.I
 | .ptr a=>Option a.I
 | .fn a b=>Option (a.I→Option b.I)
def ze:(τ:Ty)→τ.I
 | .unit=>()
 | .bool=>false
 | .int _=>(0:Int)
 | .str=>(⟨#[]⟩:ByteArray)
 | .pair a b=>(ze a,ze b)
 | .st a=>ze a
 | .arr n a=>List.replicate n (ze a)
 | .sl _=>[]
 | .ptr _=>none
 | .fn _ _=>none
def qK (τ σ:Ty) (x:τ.I):Option σ.I:=if h:τ = σ then some (h ▸ x) else none
inductive AV where
 | dat (τ:Ty) (x:τ.I)
 | clip (τ:Ty) (xs:List τ.I)
 | tup (vs:List AV)
 | bp (id:Nat) (path:List Nat)
 | rp (id i:Nat) (path:List Nat)
 | ow (id:Nat)
 | om (id:Nat)
 | fld (a:Ty) (vs:List AV)
 | ds (id i:Nat) (p:List Nat)
 | dp (id i:Nat) (p:List Nat) (j:Nat) (q:List Nat)
 | clo (f:Nat) (ids:List Nat)
 | gs (id n:Nat)
 | dead
inductive Obj where
 | bx (v:AV) (fz:Bool)
 | row (τ:Ty) (xs:List τ.I) (fz:Bool)
 | drow (τ:Ty) (xs:List τ.I) (k:Nat)
 | mp (κ σ:Ty) (es:List (κ.I × σ.I))
 | gone
 | hole
def look {α:Type}:List (Nat × α)→Nat→Option α
 | [],_=>none
 | (k,v) :: r,t=>bif Nat.beq k t then some v else look r t
def ins (d:Nat) (v:AV):List (Nat × AV)→List (Nat × AV)
 | []=>[(d,v)]
 | (k,u) :: r=>bif Nat.beq k d then (d,v) :: r else bif Nat.blt d k then (d,v) :: (k,u) :: r else (k,u) :: ins d v r
structure St where
 fr:List (Nat × AV)
 h:List Obj
def St.put (st:St) (dst:Option Nat) (v:AV):St :=
 match dst with
 | some d=>⟨ins d v st.fr,st.h⟩
 | none=>st
structure Fun where
 id:FuncId
 a:Ty
 r:Ty
 md:Nat
 spec:a.I→Option r.I
def atN {α:Type}:List α→Nat→Option α
 | [],_=>none
 | x :: _,0=>some x
 | _ :: l,i + 1=>atN l i
def AV.ids1:AV→List Nat
 | .bp id _ | .rp id _ _ | .ow id | .om id | .ds id _ _ | .dp id _ _ _ _ | .gs id _=>[id]
 | .clo _ l=>l
 | _=>[]
def AV.ids:AV→List Nat
 | .fld _ vs=>vs.flatMap AV.ids1
 | v=>v.ids1
def jE (t:Nat):List Nat→Bool
 | []=>false
 | x :: l=>cond (Nat.beq x t) true (jE t l)
def zDb (h:List Obj) (i:Nat):List Nat:=match atN h i with
 | some (.bx v _)=>v.ids
 | _=>[]
def AV.one:AV→Bool
 | .tup _=>false
 | _=>true
def zlW (h:List Obj) (L:List Nat):Bool:=L.all fun i=>match atN h i with
 | some (.bx v _)=>v.one && v.ids.all fun j=>jE j L
 | some _=>true
 | none=>false
structure Hd where
 g:(R:Type)→List AV→List Obj→(AV→List Obj→Option R)→Option R
 nat:∀ (R:Type) (args:List AV) (h:List Obj) (k:AV→List Obj→Option R),g R args h k = (g (AV × List Obj) args h fun v h=>some (v,h)).bind fun p=>k p.1 p.2
 still:Bool
 keep:still = true→∀ (args:List AV) (h h2:List Obj) (v:AV) (h':List Obj) (L:List Nat),g (AV × List Obj) args h (fun v h=>some (v,h)) = some (v,h')→args.all AV.one = true→(args.all fun v=>v.ids.all fun i=>jE i L) = true→zlW h L = true →
  (∀ i,jE i L = true→atN h2 i = atN h i)→h' = h ∧ g (AV × List Obj) args h2 (fun v h=>some (v,h)) = some (v,h2)
structure Env where
 types:TT
 funs:List (Nat × Fun)
 glob:List (Nat × AV)
 nt:Nat:=0
 deep:Bool:=false
 ext:List (Nat × Bool):=[]
 jn:List Nat:=[]
 hnd:Nat→Option Hd:=fun _=>none
 ng:Bool:=false
 al:Bool:=false
def Ty.dl:Ty→Bool
 | .sl _=>true
 | .pair a b=>a.dl || b.dl
 | .st a=>a.dl
 | .arr _ a=>a.dl
 | _=>false
def Ty.dch:Ty→Bool
 | .unit=>true
 | .pair (.sl _) b=>b.dch
 | .pair a b=>!a.dl && b.dch
 | _=>false
def Ty.dst:Ty→Bool
 | .sl _=>true
 | .st a=>a.dch
 | _=>false
def Ty.deep (τ:Ty):Bool:=τ.dl && τ.dst
def Ty.plain:Ty→Bool
 | .unit | .bool | .int _ | .str=>true
 | .pair a b=>a.plain && b.plain
 | .st a=>a.plain
 | .arr _ a=>a.plain
 | _=>false
def qQ (τ:Ty) (xs:List τ.I):Obj:=cond τ.deep (.drow τ xs 0) (.row τ xs false)
def Ty.agg:Ty→Bool
 | .st _ | .arr _ _=>true
 | _=>false
def nc:Ty→Nat
 | .unit=>0
 | .pair a b=>nc a + nc b
 | .st a=>nc a
 | .arr n a=>n * nc a
 | _=>1
def Ty.np:Ty→Bool
 | .pair _ _=>false
 | _=>true
def Env.is (E:Env) (t:Nat) (τ:Ty):Bool:=match qm E.types t with | some σ=>decide (σ = τ) && τ.np | none=>false
def Env.isM (E:Env) (t:Nat) (κ σ:Ty):Bool:=match qm E.types t with | some ρ=>decide (ρ = .pair κ σ) | none=>false
def Env.flat (E:Env) (t:Nat):Bool:=match qm E.types t with | some (.sl _) | some (.pair _ _) | some (.ptr _)=>true | _=>false
def zne {α:Type} (q:Value→Option α):List Value→Option (α × List Value)
 | v :: l=>match q v with | some x=>some (x,l) | none=>none
 | []=>none
def zkO:(τ:Ty)→List Value→Option (τ.I × List Value)
 | .unit,l=>some ((),l)
 | .bool,l=>zne (fun v=>match v with | .bool b=>some b | _=>none) l
 | .int k,l=>zne (fun v=>match v with | .int k' n=>bif decide (k = k') then some n else none | _=>none) l
 | .str,l=>zne (fun v=>match v with | .string s=>some s | _=>none) l
 | .pair a b,l=>match zkO a l with
  | some (x,l)=>match zkO b l with | some (y,l)=>some ((x,y),l) | none=>none
  | none=>none
 | .st a,l=>zkO a l
 | .sl _,l=>zne (fun v=>match v with | .slice none 0 0=>some [] | _=>none) l
 | .ptr _,l=>zne (fun v=>match v with | .pointer none=>some none | _=>none) l
 | .fn _ _,l=>zne (fun v=>match v with | .nilFunc=>some none | _=>none) l
 | .arr n a,l=>n.rec (motive:=fun _=>List Value→Option (List a.I × List Value)) (fun l=>some ([],l))
  (fun _ ih l=>match zkO a l with
   | some (x,l)=>match ih l with | some (xs,l)=>some (x :: xs,l) | none=>none
   | none=>none) l
def zhw (θ:Option Ty):Value→Option AV
 | .bool b=>some (.dat .bool b)
 | .int k n=>some (.dat (.int k) n)
 | .string s=>some (.dat .str s)
 | .agg cs=>match θ with
  | some (.st a)=>match zkO a cs.toList with | some (x,[])=>some (.dat (.st a) x) | _=>none
  | some (.arr n a)=>match zkO (.arr n a) cs.toList with | some (x,[])=>some (.dat (.arr n a) x) | _=>none
  | _=>none
 | .slice none 0 0=>match θ with | some (.sl a)=>some (.clip a []) | _=>none
 | .pointer none=>match θ with | some (.ptr a)=>some (.dat (.ptr a) none) | _=>none
 | .nilFunc=>match θ with | some (.fn a b)=>some (.dat (.fn a b) none) | _=>none
 | _=>none
def rd (E:Env) (st:St) (θ:Option Ty):Operand→Option AV
 | .tmp t=>look st.fr t
 | .const v=>zhw θ v
 | .global g=>look E.glob g
 | .func f=>(look E.funs f).map fun F=>.dat (.fn F.a F.r) (some F.spec)
def nth:(τ:Ty)→τ.I→Nat→Option AV
 | .pair a _,x,0=>some (.dat a x.1)
 | .pair _ b,x,i + 1=>nth b x.2 i
 | _,_,_=>none
def zbf:(τ:Ty)→τ.I→Nat→(σ:Ty)→σ.I→Option τ.I
 | .pair a b,x,0,σ,y=>(qK σ a y).map fun y=>((y,x.2):a.I × b.I)
 | .pair a b,x,i + 1,σ,y=>(zbf b x.2 i σ y).map fun y=>((x.1,y):a.I × b.I)
 | _,_,_,_,_=>none
def zW:(p:List Nat)→(τ:Ty)→τ.I→Option AV
 | [],τ,x=>some (.dat τ x)
 | i :: p,.st a,x=>match nth a x i with | some (.dat σ y)=>zW p σ y | _=>none
 | i :: p,.arr _ a,x=>zW p a (x.getD i (ze a))
 | _ :: _,_,_=>none
def j6:(p:List Nat)→(τ:Ty)→τ.I→(σ:Ty)→σ.I→Option τ.I
 | [],τ,_,σ,y=>qK σ τ y
 | i :: p,.st a,x,σ,y=>match nth a x i with
  | some (.dat ρ z)=>(j6 p ρ z σ y).bind fun z=>zbf a x i ρ z
  | _=>none
 | i :: p,.arr _ a,x,σ,y=>(j6 p a (x.getD i (ze a)) σ y).map fun z=>x.set i z
 | _ :: _,_,_,_,_=>none
def zf {α:Type}:List α→Nat→α→List α
 | [],_,_=>[]
 | _ :: l,0,x=>x :: l
 | y :: l,i + 1,x=>y :: zf l i x
def qD (q:Bool) (st:St):AV→Option ((τ:Ty) × τ.I × St)
 | .dat τ x=>some ⟨τ,x,st⟩
 | .clip τ xs=>some ⟨.sl τ,xs,st⟩
 | .ow id=>match atN st.h id with
  | some (.row τ xs true)=>some ⟨.sl τ,xs,st⟩
  | some (.row τ xs false)=>cond q none (some ⟨.sl τ,xs,⟨st.fr,zf st.h id (.row τ xs true)⟩⟩)
  | some (.drow τ xs _)=>cond q none (some ⟨.sl τ,xs,⟨st.fr,zf st.h id (.row τ xs true)⟩⟩)
  | _=>none
 | .bp id []=>match atN st.h id with
  | some (.bx (.dat τ x) true)=>some ⟨.ptr τ,some x,st⟩
  | some (.bx (.dat τ x) false)=>cond q none (some ⟨.ptr τ,some x,⟨st.fr,zf st.h id (.bx (.dat τ x) true)⟩⟩)
  | _=>none
 | _=>none
def yw (q:Bool) (σ:Ty) (st:St) (v:AV):Option (σ.I × St) :=
 match qD q st v with
 | some ⟨τ,x,st⟩=>match qK τ σ x with | some x=>some (x,st) | none=>none
 | none=>none
def jl (q:Bool):(τ:Ty)→List AV→St→Option (τ.I × St)
 | .unit,[],st=>some ((),st)
 | .pair a b,v :: vs,st=>match yw q a st v with
  | some (x,st)=>match jl q b vs st with | some (xs,st)=>some ((x,xs),st) | none=>none
  | none=>none
 | _,_,_=>none
def frz (q:Bool) (st:St):AV→Option ((τ:Ty) × τ.I × St)
 | .fld a vs=>match jl q a vs st with | some (x,st)=>some ⟨.st a,x,st⟩ | none=>none
 | v=>qD q st v
def zgQ (q:Bool) (σ:Ty) (st:St) (v:AV):Option (σ.I × St) :=
 match frz q st v with
 | some ⟨τ,x,st⟩=>match qK τ σ x with | some x=>some (x,st) | none=>none
 | none=>none
def jF (q:Bool):(τ:Ty)→List AV→St→Option (τ.I × St)
 | .unit,[],st=>some ((),st)
 | .pair a b,v :: vs,st=>match zgQ q a st v with
  | some (x,st)=>match jF q b vs st with | some (xs,st)=>some ((x,xs),st) | none=>none
  | none=>none
 | _,_,_=>none
def zc4 (h:List Obj):AV→Option ((τ:Ty) × τ.I)
 | .dat τ x=>some ⟨τ,x⟩
 | .clip τ xs=>some ⟨.sl τ,xs⟩
 | .ow id=>match atN h id with
  | some (.row τ xs _)=>some ⟨.sl τ,xs⟩
  | some (.drow τ xs _)=>some ⟨.sl τ,xs⟩
  | _=>none
 | .bp id []=>match atN h id with
  | some (.bx (.dat τ x) _)=>some ⟨.ptr τ,some x⟩
  | _=>none
 | _=>none
def zo3 (h:List Obj) (σ:Ty) (v:AV):Option σ.I :=
 match zc4 h v with
 | some ⟨τ,x⟩=>qK τ σ x
 | none=>none
def zlX (h:List Obj):(τ:Ty)→List AV→Option τ.I
 | .unit,[]=>some ()
 | .pair a b,v :: vs=>match zo3 h a v with
  | some x=>match zlX h b vs with | some xs=>some (x,xs) | none=>none
  | none=>none
 | _,_=>none
def view (h:List Obj):AV→Option ((τ:Ty) × τ.I)
 | .fld a vs=>match zlX h a vs with | some x=>some ⟨.st a,x⟩ | none=>none
 | v=>zc4 h v
def zJb (h:List Obj) (σ:Ty) (v:AV):Option σ.I :=
 match view h v with
 | some ⟨τ,x⟩=>qK τ σ x
 | none=>none
def znf (h:List Obj):(τ:Ty)→List AV→Option τ.I
 | .unit,[]=>some ()
 | .pair a b,v :: vs=>match zJb h a v with
  | some x=>match znf h b vs with | some xs=>some (x,xs) | none=>none
  | none=>none
 | _,_=>none
def zoq (h:List Obj) (σ:Ty):AV→Option (σ.I × List Obj)
 | .dat τ x=>cond τ.dl none (match qK τ σ x with | some x=>some (x,h) | none=>none)
 | .ow id=>match atN h id with
  | some (.row τ xs false)=>match qK (.sl τ) σ xs with | some x=>some (x,zf h id .gone) | none=>none
  | _=>none
 | _=>none
def zzG (σ:Ty) (vs:List AV) (h:List Obj):Option (σ.I × List Obj) :=
 match σ,vs with
 | .unit,[]=>some ((),h)
 | .pair a b,v :: vs=>match zoq h a v with
  | some (x,h)=>match zzG b vs h with | some (xs,h)=>some ((x,xs),h) | none=>none
  | none=>none
 | _,_=>none
def zvY (σ:Ty) (v:AV) (h:List Obj):Option (σ.I × List Obj) :=
 match σ,v with
 | .st a,.fld b vs=>cond (decide (a = b)) (zzG a vs h) none
 | .sl τ,.ow id=>zoq h (.sl τ) (.ow id)
 | _,_=>none
def zb3:(τ:Ty)→τ.I→List AV
 | .pair a b,x=>.dat a x.1 :: zb3 b x.2
 | _,_=>[]
def unT:List AV→AV
 | [v]=>v
 | vs=>.tup vs
def zaK (h:List Obj):(τ:Ty)→τ.I→List AV × List Obj
 | .pair (.sl a) b,x=>match zaK (h ++ [cond a.deep (.drow a x.1 (List.length x.1)) (.row a x.1 false)]) b x.2 with | (vs,h')=>(.ow h.length :: vs,h')
 | .pair a b,x=>match zaK h b x.2 with | (vs,h')=>(.dat a x.1 :: vs,h')
 | _,_=>([],h)
def zkg (md:Nat) (τ:Ty) (x:τ.I) (h:List Obj):AV × List Obj :=
 match md,τ,x with
 | 1,.pair (.sl a) b,x=>(unT (.ow h.length :: zb3 b x.2),h ++ [qQ a x.1])
 | 3,.pair (.st a) b,x=>match zaK h a x.1 with | (vs,h')=>(unT (.fld a vs :: zb3 b x.2),h')
 | 2,.pair (.sl a) b,x=>(unT (.clip a x.1 :: zb3 b x.2),h)
 | 4,.pair (.sl a) b,x=>match zaK h (.pair (.sl a) .unit) (x.1,()) with | (vs,h')=>(unT (vs ++ zb3 b x.2),h')
 | _,τ,x=>(unT (zb3 τ x),h)
def eqI:(τ:Ty)→τ.I→τ.I→Bool
 | .unit,_,_=>true
 | .bool,x,y=>x == y
 | .int _,x,y=>(x:Int) == y
 | .str,x,y=>(x:ByteArray).toList == y.toList
 | .pair a b,x,y=>cond (eqI a x.1 y.1) (eqI b x.2 y.2) false
 | .st a,x,y=>eqI a x y
 | .arr _ a,x,y=>(List.zip x y).all fun p=>eqI a p.1 p.2
 | _,_,_=>false
def Ty.eqIn:Ty→Bool
 | .unit | .bool | .int _ | .str=>true
 | .pair a b=>a.eqIn && b.eqIn
 | .st a=>a.eqIn
 | .arr _ a=>a.eqIn
 | _=>false
def Ty.dep:Ty→Nat
 | .pair a b=>max a.dep b.dep
 | .st a=>a.dep + 1
 | .arr _ a=>a.dep + 1
 | _=>0
def Ty.eqOk (τ:Ty):Bool:=τ.eqIn && Nat.ble τ.dep 1000
def zDc (op:BinOp) (x y:Int):Option Bool :=
 match op with
 | .eql=>some (x == y) | .neq=>some (x != y) | .lss=>some (decide (x < y)) | .leq=>some (decide (x ≤ y))
 | .gtr=>some (decide (x > y)) | .geq=>some (decide (x ≥ y)) | _=>none
def zDd (op:BinOp) (k:IntKind) (x y:Int):Option Int :=
 match op with
 | .add=>some (k.wrap (x + y)) | .sub=>some (k.wrap (x - y)) | .mul=>some (k.wrap (x * y))
 | .and=>some (k.wrap (BitVec.ofInt k.bits x &&& BitVec.ofInt k.bits y).toNat)
 | .or=>some (k.wrap (BitVec.ofInt k.bits x ||| BitVec.ofInt k.bits y).toNat)
 | .xor=>some (k.wrap (BitVec.ofInt k.bits x ^^^ BitVec.ofInt k.bits y).toNat)
 | .andNot=>some (k.wrap (BitVec.ofInt k.bits x &&& ~~~BitVec.ofInt k.bits y).toNat)
 | _=>none
section
variable {R:Type}
def kB (b:Bool) (st:St) (k:AV→St→Option R):Option R:=cond b (k (.dat .bool true) st) (k (.dat .bool false) st)
def kAV (v:AV) (st:St) (k:AV→St→Option R):Option R :=
  match v with
  | .dat .bool b=>kB b st k
  | v=>k v st
def zqn (E:Env) (op:BinOp) (t:TypeId) (x y:AV) (st:St) (k:AV→St→Option R):Option R :=
  match x,y with
  | .dat (.int a) x,.dat (.int b) y =>
    match op with
    | .shl=>cond (decide (y < 0)) none (k (.dat (.int a) (a.wrap (x * 2 ^ (min (Int.toNat y) a.bits)))) st)
    | .shr=>cond (decide (y < 0)) none (k (.dat (.int a) (Int.fdiv x (2 ^ (min (Int.toNat y) a.bits)))) st)
    | op=>cond (decide (a = b)) (
      match op with
      | .quo=>cond ((y:Int) == 0) none (k (.dat (.int a) (a.wrap (Int.tdiv x y))) st)
      | .rem=>cond ((y:Int) == 0) none (k (.dat (.int a) (Int.tmod x y)) st)
      | op=>match zDc op x y with
        | some c=>kB c st k
        | none=>match zDd op a x y with
          | some n=>k (.dat (.int a) n) st
          | none=>none) none
  | .dat .str x,.dat .str y =>
    match op with
    | .eql=>kB ((x:ByteArray).toList == y.toList) st k
    | .neq=>kB (!((x:ByteArray).toList == y.toList)) st k
    | .lss=>kB (Op.bytesLess x.toList y.toList) st k
    | .leq=>kB (Op.bytesLess x.toList y.toList || x.toList == y.toList) st k
    | .gtr=>kB (!(Op.bytesLess x.toList y.toList || x.toList == y.toList)) st k
    | .geq=>kB (!Op.bytesLess x.toList y.toList) st k
    | .add=>cond (decide ((x.size + y.size:Nat) ≤ 9223372036854775807)) (k (.dat .str (x ++ y)) st) none
    | _=>none
  | .dat (.ptr a) x,.dat (.ptr _) none=>cond (E.is t (.ptr a)) (match op with | .eql=>kB x.isNone st k | .neq=>kB x.isSome st k | _=>none) none
  | .dat (.fn a b) x,.dat (.fn _ _) none=>cond (E.is t (.fn a b)) (match op with | .eql=>kB x.isNone st k | .neq=>kB x.isSome st k | _=>none) none
  | .dat τ x,.dat σ y=>cond (match τ with | .st _ | .arr _ _ | .bool=>τ.eqOk && E.is t τ | _=>false) (match qK σ τ y with
    | some y=>match op with | .eql=>kB (eqI τ x y) st k | .neq=>kB (!eqI τ x y) st k | _=>none
    | none=>none) none
  | _,_=>none
def zxm:Operand→Bool
  | .const (.slice none 0 0)=>true
  | _=>false
def zC0 (E:Env) (op:BinOp) (t:TypeId) (x:AV) (st:St) (k:AV→St→Option R):Option R :=
  match x with
  | .dat (.sl τ) xs=>cond (E.is t (.sl τ)) (cond (List.isEmpty xs) none (match op with | .eql=>kB false st k | .neq=>kB true st k | _=>none)) none
  | _=>none
def zb4 (nil:Bool) (E:Env) (op:BinOp) (t:TypeId) (x y:AV) (st:St) (k:AV→St→Option R):Option R:=cond nil (zC0 E op t x st k) (zqn E op t x y st k)
def zsC (op:UnOp) (x:AV) (st:St) (k:AV→St→Option R):Option R :=
  match op,x with
  | .not,.dat .bool b=>kB (!b) st k
  | .neg,.dat (.int a) x=>k (.dat (.int a) (a.wrap (0 - (x:Int)))) st
  | .xor,.dat (.int a) x=>k (.dat (.int a) (a.wrap (BitVec.ofInt a.bits (if a.signed then -1 else a.max) ^^^ BitVec.ofInt a.bits x).toNat)) st
  | _,_=>none
def dsF (id i:Nat):(a:Ty)→a.I→Nat→List AV
  | .pair (.sl _) b,x,f=>.ds id i [f] :: dsF id i b x.2 (f + 1)
  | .pair a b,x,f=>.dat a x.1 :: dsF id i b x.2 (f + 1)
  | _,_,_=>[]
def fn1:Ty→Option (Ty × Ty)
  | .st (.pair (.fn x y) .unit)=>some (x,y)
  | _=>none
def zjX (E:Env) (t:TypeId) (f:Nat) (l:List Nat) (st:St) (k:AV→St→Option R):Option R :=
  match qm E.types t with
  | some (.fn _ _)=>k (.clo f l) st
  | some τ=>match fn1 τ with
    | some (x,y)=>k (.fld (.pair (.fn x y) .unit) [.clo f l]) st
    | none=>none
  | none=>none
def jU (E:Env) (t:TypeId) (a:AV) (st:St) (k:AV→St→Option R):Option R :=
  match a with
  | .dat (.ptr τ) x=>Option.bind x fun x=>cond (E.is t τ) (kAV (.dat τ x) st k) none
  | .bp id p=>match atN st.h id with
    | some (.bx (.dat τ x) _)=>match zW p τ x with | some (.dat σ y)=>cond (E.is t σ) (kAV (.dat σ y) st k) none | _=>none
    | some (.bx (.fld b vs) _)=>match p with
      | []=>cond (E.is t (.st b)) (k (.fld b vs) st) none
      | i :: p=>match atN vs i with
        | some (.dat τ x)=>match zW p τ x with | some (.dat σ y)=>cond (E.is t σ) (kAV (.dat σ y) st k) none | _=>none
        | some (.ow j)=>match p with | []=>cond (E.flat t) (k (.ow j) st) none | _=>none
        | some (.ds j l q)=>match p with | []=>cond (E.flat t) (k (.ds j l q) st) none | _=>none
        | some (.clo f l)=>match p with | []=>zjX E t f l st k | _=>none
        | _=>none
    | some (.bx v _)=>match p with | []=>cond (E.flat t) (k v st) none | _=>none
    | _=>none
  | .rp id i p=>match atN st.h id with
    | some (.row τ xs _)=>match zW p τ (xs.getD i (ze τ)) with | some (.dat σ y)=>cond (E.is t σ) (kAV (.dat σ y) st k) none | _=>none
    | some (.drow τ xs n)=>match zW p τ (xs.getD i (ze τ)) with
      | some (.dat σ y)=>cond (E.is t σ) (cond σ.dl (cond (decide (n ≤ i)) (cond E.al none (k (.dat σ y) st)) (match σ,y,p with | .sl _,_,p=>k (.ds id i p) st | .st a,y,[]=>k (.fld a (dsF id i a y 0)) st | _,_,_=>none)) (kAV (.dat σ y) st k)) none
      | _=>none
    | _=>none
  | .dp id i p j q=>match atN st.h id with
    | some (.drow τ xs _)=>match zW p τ (xs.getD i (ze τ)) with
      | some (.dat (.sl σ) ys)=>match zW q σ (List.getD ys j (ze σ)) with | some (.dat ρ y)=>cond (E.is t ρ) (kAV (.dat ρ y) st k) none | _=>none
      | _=>none
    | _=>none
  | _=>none
def j7 (h:List Obj) (i:Nat):Bool:=match atN h i with
  | some (.bx _ _) | some (.row _ _ _) | some (.drow _ _ _) | some (.mp _ _ _)=>true
  | _=>false
def Ty.chn:Ty→Bool
  | .unit=>true
  | .pair _ b=>b.chn
  | _=>false
def zqo:(a:Ty)→a.I→List AV
  | .pair a b,x=>.dat a x.1 :: zqo b x.2
  | _,_=>[]
def zb5:Ty→Nat→Ty→Bool
  | .pair a _,0,τ=>decide (a = τ)
  | .pair _ b,i + 1,τ=>zb5 b i τ
  | _,_,_=>false
def zbg (h:List Obj) (i:Nat):Option Ty:=match atN h i with
  | some (.row τ _ _)=>some τ
  | some (.drow τ _ _)=>some τ
  | _=>none
def zng (h:List Obj) (a:Ty) (i j:Nat):Bool:=match zbg h j with | some τ=>zb5 a i (.sl τ) | none=>false
def zgR (E:Env) (t:TypeId) (id:Nat) (p:List Nat) (v:AV) (st:St) (k:AV→St→Option R):Option R :=
  match frz false st v with
  | some ⟨σ,y,st⟩=>match atN st.h id with
    | some (.bx (.dat τ x) false)=>match j6 p τ x σ y with
      | some x=>cond (E.is t σ) (k (.tup []) ⟨st.fr,zf st.h id (.bx (.dat τ x) false)⟩) none
      | none=>none
    | _=>none
  | none=>none
def zc5 (E:Env) (t:TypeId) (id:Nat) (b:Ty) (vs:List AV) (v:AV) (p:List Nat) (st:St) (k:AV→St→Option R):Option R :=
  match p with
  | []=>match v with
    | .fld c us=>cond (decide (b = c) && E.is t (.st b)) (k (.tup []) ⟨st.fr,zf st.h id (.bx (.fld b us) false)⟩) none
    | .dat (.st c) x=>cond (decide (b = c) && E.is t (.st b)) (k (.tup []) ⟨st.fr,zf st.h id (.bx (.fld c (zqo c x)) false)⟩) none
    | _=>none
  | i :: p=>match p,v with
    | [],.ow j=>cond (E.flat t && zng st.h b i j) (k (.tup []) ⟨st.fr,zf st.h id (.bx (.fld b (zf vs i (.ow j))) false)⟩) none
    | _,_=>match frz false st v with
      | some ⟨σ,y,st⟩=>match atN st.h id with
        | some (.bx (.fld c vs) false)=>match atN vs i with
          | some (.dat τ x)=>match j6 p τ x σ y with
            | some x=>cond (E.is t σ) (k (.tup []) ⟨st.fr,zf st.h id (.bx (.fld c (zf vs i (.dat τ x))) false)⟩) none
            | none=>none
          | some (.ow _)=>match p with
            | []=>cond (E.is t σ && zb5 c i σ) (k (.tup []) ⟨st.fr,zf st.h id (.bx (.fld c (zf vs i (.dat σ y))) false)⟩) none
            | _=>none
          | _=>none
        | _=>none
      | none=>none
def zhT (E:Env) (t:TypeId) (id i:Nat) (v:AV) (st:St) (k:AV→St→Option R):Option R :=
  match atN st.h id with
  | some (.drow τ xs n)=>match zvY τ v st.h with
    | some (x,h)=>cond (decide (i = n)) (cond (E.is t τ) (k (.tup []) ⟨st.fr,zf h id (.drow τ (xs.set i x) (n + 1))⟩) none) none
    | none=>none
  | _=>none
def zgt (E:Env) (t:TypeId) (id i:Nat) (p:List Nat) (v:AV) (st:St) (k:AV→St→Option R):Option R :=
  match frz false st v with
  | some ⟨σ,y,st⟩=>match atN st.h id with
    | some (.drow τ xs n)=>match j6 p τ (xs.getD i (ze τ)) σ y with
      | some x=>cond (E.is t σ) (k (.tup []) ⟨st.fr,zf st.h id (cond σ.dl (.row τ (xs.set i x) false) (.drow τ (xs.set i x) n))⟩) none
      | none=>none
    | _=>none
  | none=>none
def qY (E:Env) (t:TypeId) (a v:AV) (st:St) (k:AV→St→Option R):Option R :=
  match a with
  | .bp id p=>match atN st.h id with
    | some (.bx (.dat τ x) fz)=>cond E.deep (match τ,x,p,v,fz with
      | .st b,x,[i],.ow j,false=>cond b.chn (zc5 E t id b (zqo b x) (.ow j) [i] st k) none
      | .st b,x,[],.fld c vs,false=>cond b.chn (zc5 E t id b (zqo b x) (.fld c vs) [] st k) none
      | _,_,p,v,_=>zgR E t id p v st k) (zgR E t id p v st k)
    | some (.bx (.fld b vs) false)=>zc5 E t id b vs v p st k
    | some (.bx _ false)=>match p with
      | []=>cond (E.flat t) (match v with
        | .ow i=>cond (j7 st.h i) (k (.tup []) ⟨st.fr,zf st.h id (.bx (.ow i) false)⟩) none
        | .om i=>cond (j7 st.h i) (k (.tup []) ⟨st.fr,zf st.h id (.bx (.om i) false)⟩) none
        | .clip τ xs=>k (.tup []) ⟨st.fr,zf st.h id (.bx (.clip τ xs) false)⟩
        | _=>none) none
      | _=>none
    | _=>none
  | .rp id i p=>match atN st.h id with
    | some (.drow _ _ _)=>cond E.deep (match p,v with
      | [],.fld b vs=>zhT E t id i (.fld b vs) st k
      | [],.ow j=>zhT E t id i (.ow j) st k
      | p,v=>zgt E t id i p v st k) (zgt E t id i p v st k)
    | _=>match frz false st v with
      | some ⟨σ,y,st⟩=>match atN st.h id with
        | some (.row τ xs false)=>match j6 p τ (xs.getD i (ze τ)) σ y with
          | some x=>cond (E.is t σ) (k (.tup []) ⟨st.fr,zf st.h id (.row τ (xs.set i x) false)⟩) none
          | none=>none
        | _=>none
      | none=>none
  | .dp id i p j q=>match frz false st v with
    | some ⟨ρ,y,st⟩=>match atN st.h id with
      | some (.drow τ xs n)=>match zW p τ (xs.getD i (ze τ)) with
        | some (.dat (.sl σ) ys)=>match j6 q σ (List.getD ys j (ze σ)) ρ y with
          | some z=>match j6 p τ (xs.getD i (ze τ)) (.sl σ) (List.set ys j z) with
            | some x=>cond (E.is t ρ) (k (.tup []) ⟨st.fr,zf st.h id (.drow τ (xs.set i x) n)⟩) none
            | none=>none
          | none=>none
        | _=>none
      | _=>none
    | none=>none
  | _=>none
def za8 (q:Bool):(τ:Ty)→τ.I→List (Nat × Option AV)→St→Option (τ.I × St)
  | _,x,[],st=>some (x,st)
  | τ,x,(i,some v) :: ps,st=>match frz q st v with
    | some ⟨σ,y,st⟩=>match (match τ,x with
        | .st a,x=>zbf a x i σ y
        | .arr n a,x=>match qK σ a y with | some y=>cond (decide (i < n)) (some (zf x i y)) none | none=>none
        | _,_=>none) with
      | some x=>za8 q τ x ps st
      | none=>none
    | none=>none
  | _,_,(_,none) :: _,_=>none
def vQ (q:Bool) (τ:Ty):List τ.I→List (Nat × Option AV)→St→Option (List τ.I × St)
  | xs,[],st=>some (xs,st)
  | xs,(i,some v) :: ps,st=>match zgQ q τ st v with
    | some (x,st)=>cond (decide (i < xs.length)) (vQ q τ (zf xs i x) ps st) none
    | none=>none
  | _,(_,none) :: _,_=>none
def zcL (n:Int) (len:Nat) (k:Nat→Option R):Option R:=cond (decide (0 ≤ n)) (cond (decide (n < (len:Int))) (k n.toNat) none) none
def slT:Ty→Option Ty
  | .sl τ=>some τ
  | _=>none
def qA (E:Env) (t:TypeId) (x i:AV) (st:St) (k:AV→St→Option R):Option R :=
  match x,i with
  | .dat (.sl τ) xs,.dat (.int _) n=>cond (E.is t (.sl τ)) (zcL n (List.length xs) fun n=>k (.dat (.ptr τ) (some (List.getD xs n (ze τ)))) st) none
  | .clip τ xs,.dat (.int _) n=>cond (E.is t (.sl τ)) (zcL n xs.length fun n=>k (.dat (.ptr τ) (some (xs.getD n (ze τ)))) st) none
  | .gs id m,.dat (.int _) n=>match atN st.h id,((qm E.types t).bind slT).bind fn1 with
    | some (.bx _ _),some _=>zcL n m fun n=>k (.bp id [n]) st
    | _,_=>none
  | .ow id,.dat (.int _) n=>match atN st.h id with
    | some (.row τ xs _)=>cond (E.is t (.sl τ)) (zcL n xs.length fun n=>k (.rp id n []) st) none
    | some (.drow τ xs _)=>cond (E.is t (.sl τ)) (zcL n xs.length fun n=>k (.rp id n []) st) none
    | _=>none
  | .ds id i p,.dat (.int _) n=>match atN st.h id with
    | some (.drow τ xs _)=>match zW p τ (xs.getD i (ze τ)) with
      | some (.dat (.sl σ) ys)=>cond (E.is t (.sl σ)) (zcL n (List.length ys) fun n=>k (.dp id i p n []) st) none
      | _=>none
    | _=>none
  | .rp id i p,.dat (.int _) n=>match atN st.h id with
    | some (.row τ xs _)=>match zW p τ (xs.getD i (ze τ)) with
      | some (.dat (.arr m σ) _)=>cond (E.is t (.arr m σ)) (zcL n m fun n=>k (.rp id i (p ++ [n])) st) none
      | _=>none
    | some (.drow τ xs _)=>match zW p τ (xs.getD i (ze τ)) with
      | some (.dat (.arr m σ) _)=>cond (E.is t (.arr m σ)) (zcL n m fun n=>k (.rp id i (p ++ [n])) st) none
      | _=>none
    | _=>none
  | .dp id i p j q,.dat (.int _) n=>match atN st.h id with
    | some (.drow τ xs _)=>match zW p τ (xs.getD i (ze τ)) with
      | some (.dat (.sl σ) ys)=>match zW q σ (List.getD ys j (ze σ)) with
        | some (.dat (.arr m ρ) _)=>cond (E.is t (.arr m ρ)) (zcL n m fun n=>k (.dp id i p j (q ++ [n])) st) none
        | _=>none
      | _=>none
    | _=>none
  | .dat (.ptr (.arr m τ)) xs,.dat (.int _) n=>Option.bind xs fun xs=>cond (E.is t (.arr m τ)) (zcL n m fun n=>k (.dat (.ptr τ) (some (List.getD xs n (ze τ)))) st) none
  | .bp id p,.dat (.int _) n=>match atN st.h id with
    | some (.bx (.dat σ y) _)=>match zW p σ y with
      | some (.dat (.arr m τ) _)=>cond (E.is t (.arr m τ)) (zcL n m fun n=>k (.bp id (p ++ [n])) st) none
      | _=>none
    | some (.bx (.fld _ vs) _)=>match p with
      | f :: p=>match atN vs f with
        | some (.dat σ y)=>match zW p σ y with
          | some (.dat (.arr m τ) _)=>cond (E.is t (.arr m τ)) (zcL n m fun n=>k (.bp id (f :: p ++ [n])) st) none
          | _=>none
        | _=>none
      | []=>none
    | _=>none
  | _,_=>none
def zfI (E:Env) (t:TypeId) (x i:AV) (st:St) (k:AV→St→Option R):Option R :=
  match x,i with
  | .dat (.arr m τ) xs,.dat (.int _) n=>cond (E.is t (.arr m τ)) (zcL n m fun n=>kAV (.dat τ (List.getD xs n (ze τ))) st k) none
  | .dat .str s,.dat (.int _) n=>cond (E.is t .str) (zcL n (ByteArray.size s) fun n=>k (.dat (.int .u8) (((((s:ByteArray).data.toList).getD n 0).toNat:Nat):Int)) st) none
  | _,_=>none
def Ty.join:Ty→Ty→Ty
  | .pair a b,c=>.pair a (b.join c)
  | .unit,c=>c
  | τ,_=>τ
def zuh:(a:Ty)→a.I→(c:Ty)→c.I→(a.join c).I
  | .pair _ b,x,c,y=>(x.1,zuh b x.2 c y)
  | .unit,_,_,y=>y
  | .bool,x,_,_=>x | .int _,x,_,_=>x | .str,x,_,_=>x | .st _,x,_,_=>x | .arr _ _,x,_,_=>x | .sl _,x,_,_=>x | .ptr _,x,_,_=>x | .fn _ _,x,_,_=>x
def chain (q:Bool):List AV→St→Option ((τ:Ty) × τ.I × St)
  | [],st=>some ⟨.unit,(),st⟩
  | v :: vs,st=>match frz q st v with
    | some ⟨a,x,st⟩=>match chain q vs st with | some ⟨b,y,st⟩=>some ⟨.pair a b,(x,y),st⟩ | none=>none
    | none=>none
def zsD:List (Option AV)→Option (List Nat)
  | []=>some []
  | some (.bp id []) :: l=>(zsD l).map fun r=>id :: r
  | _ :: _=>none
def zaL (q:Bool) (E:Env) (ty:TypeId) (fn:Fn) (first caps:List (Option AV)) (st:St) (k:AV→St→Option R):Option R :=
  match fn,qm E.types ty with
  | .func f,some (.fn a r)=>match E.hnd f with
   | some _=>cond q none (cond first.isEmpty (match zsD caps with | some l=>k (.clo f l) st | none=>none) none)
   | none=>match look E.funs f,chain q (first.filterMap id) st with
    | some F,some ⟨b,x,st⟩=>match chain q (caps.filterMap id) st with
      | some ⟨c,y,st⟩ =>
        if h:F.a = b.join (a.join c) ∧ F.r = r then
          cond (first.all Option.isSome && caps.all Option.isSome) (k (.dat (.fn a r) (some fun z=>h.2 ▸ F.spec (h.1 ▸ zuh b x _ (zuh a z c y)))) st) none
        else none
      | none=>none
    | _,_=>none
  | _,_=>none
def lim:Nat:=4294967296
def zMh (n a:Nat):Nat:=(n + (a - 1)) / a * a
def Ty.lay:Ty→Nat × Nat × (Nat→Nat)
  | .unit=>(1,0,fun o=>o)
  | .bool=>(1,1,fun o=>o)
  | .int k=>(k.bits / 8,k.bits / 8,fun o=>o)
  | .str=>(8,16,fun o=>o)
  | .pair a b=>(max a.lay.1 b.lay.1,0,fun o=>b.lay.2.2 (zMh o a.lay.1 + a.lay.2.1))
  | .st a=>(a.lay.1,zMh (a.lay.2.2 0) a.lay.1,fun o=>o)
  | .arr n a=>(a.lay.1,n * a.lay.2.1,fun o=>o)
  | .sl _=>(8,24,fun o=>o)
  | .ptr _=>(8,8,fun o=>o)
  | .fn _ _=>(8,8,fun o=>o)
def Ty.bts (τ:Ty):Nat:=τ.lay.2.1
def zDe:Nat:=140737488355328
def AV.has1 (i:Nat):AV→Bool
  | .bp id _ | .rp id _ _ | .ow id | .om id | .ds id _ _ | .dp id _ _ _ _ | .gs id _=>Nat.beq id i
  | .clo _ l=>l.any fun id=>Nat.beq id i
  | _=>false
def AV.has (i:Nat):AV→Bool
  | .tup _=>true
  | .fld _ vs=>vs.any (AV.has1 i)
  | v=>v.has1 i
def j8 (big:Bool) (σ:Ty) (n:Nat):Bool:=cond big (decide (n * σ.bts ≤ zDe)) (decide (n ≤ lim))
def yW (big:Bool) (σ:Ty) (x:AV) (ys:List σ.I) (st:St) (k:AV→St→Option R):Option R :=
  match x with
  | .clip τ xs=>match qK (.sl τ) (.sl σ) xs with
    | some xs=>cond (j8 big σ (List.length xs + ys.length)) (
        cond (List.isEmpty xs) (k (.ow st.h.length) ⟨st.fr,st.h ++ [qQ σ ys]⟩)
          (cond ys.isEmpty (k (.clip σ xs) st) (k (.ow st.h.length) ⟨st.fr,st.h ++ [qQ σ (xs ++ ys)]⟩))) none
    | none=>none
  | .ow id=>match atN st.h id with
    | some (.row τ xs false)=>match qK (.sl τ) (.sl σ) xs with
      | some xs=>cond (j8 big σ (List.length xs + ys.length)) (k (.ow st.h.length) ⟨st.fr,zf st.h id .gone ++ [.row σ (xs ++ ys) false]⟩) none
      | none=>none
    | some (.drow τ xs n)=>match qK (.sl τ) (.sl σ) xs with
      | some xs=>cond (j8 big σ (List.length xs + ys.length)) (k (.ow st.h.length) ⟨st.fr,zf st.h id .gone ++ [.drow σ (xs ++ ys) n]⟩) none
      | none=>none
    | _=>none
  | _=>none
def y7 (E:Env) (t u:TypeId) (id:Nat) (τ:Ty) (xs:List τ.I) (n jd:Nat) (σ:Ty) (ys:List σ.I) (m:Nat) (st:St) (k:AV→St→Option R):Option R :=
  match qK (.sl τ) (.sl σ) xs with
  | some xs=>cond (E.is t (.sl σ) && (E.is u (.sl σ) && !Nat.beq id jd)) (cond (decide (List.length xs + ys.length ≤ lim)) (cond (decide (n = List.length xs)) (cond (decide (m = List.length ys))
      (k (.ow st.h.length) ⟨st.fr,zf (zf st.h id .gone) jd .gone ++ [.drow σ (xs ++ ys) (n + m)]⟩) none) none) none) none
  | none=>none
def za1 (E:Env) (t u:TypeId) (x y:AV) (st:St) (k:AV→St→Option R):Option R :=
  match frz false st y with
  | some ⟨.sl τ,ys,st⟩=>cond (E.is t (.sl τ) && E.is u (.sl τ)) (yW (E.jn.any (Nat.beq 999998)) τ x ys st k) none
  | some ⟨.str,s,st⟩=>cond (E.is t (.sl (.int .u8)) && E.is u .str) (yW (E.jn.any (Nat.beq 999998)) (.int .u8) x ((ByteArray.data s).toList.map fun b=>(b.toNat:Int)) st k) none
  | _=>none
def zdW (E:Env) (t u:TypeId) (x y:AV) (st:St) (k:AV→St→Option R):Option R :=
  match E.deep,x,y with
  | true,.ow id,.ow jd=>match atN st.h id,atN st.h jd with
    | some (.drow τ xs n),some (.drow σ ys (m + 1))=>y7 E t u id τ xs n jd σ ys (m + 1) st k
    | _,_=>za1 E t u (.ow id) (.ow jd) st k
  | _,x,y=>za1 E t u x y st k
def bnd (x:Option (Option AV)) (d:Nat) (most:Nat) (k:Nat→Option R):Option R :=
  match x with
  | none=>k d
  | some (some (.dat (.int _) n))=>cond (decide (0 ≤ (n:Int))) (cond (decide ((n:Int) ≤ (most:Int))) (k (Int.toNat n)) none) none
  | _=>none
def zlY (τ:Ty) (xs:List τ.I) (lo hi mx:Option (Option AV)) (st:St) (k:AV→St→Option R):Option R :=
  match mx with
  | none=>bnd hi xs.length xs.length fun h=>bnd lo 0 h fun l=>k (.dat (.sl τ) (List.drop l (List.take h xs))) st
  | some m=>match hi with
    | none=>none
    | some hv=>bnd (some m) 0 xs.length fun m=>bnd (some hv) 0 m fun h=>bnd lo 0 h fun l=>cond (decide (h = m)) (k (.clip τ (List.drop l (List.take h xs))) st) none
def zfJ (q:Bool) (E:Env) (t:TypeId) (x:AV) (lo hi mx:Option (Option AV)) (st:St) (k:AV→St→Option R):Option R :=
  match frz q st x with
  | some ⟨.str,s,st⟩=>match mx with
    | none=>cond (E.is t .str) (bnd hi (ByteArray.size s) (ByteArray.size s) fun h=>bnd lo 0 h fun l=>k (.dat .str (ByteArray.extract s l h)) st) none
    | some _=>none
  | some ⟨.sl τ,xs,st⟩=>cond (E.is t (.sl τ)) (zlY τ xs lo hi mx st k) none
  | _=>none
def zc6 (E:Env) (t:TypeId) (x:AV) (st:St) (k:AV→St→Option R):Option R :=
  match x with
  | .dat .str s=>cond (E.is t .str) (k (.dat (.int .i64) (ByteArray.size s:Int)) st) none
  | .dat (.sl τ) xs=>cond (E.is t (.sl τ)) (k (.dat (.int .i64) (List.length xs:Int)) st) none
  | .clip τ xs=>cond (E.is t (.sl τ)) (k (.dat (.int .i64) (xs.length:Int)) st) none
  | .ow id=>match atN st.h id with
    | some (.row τ xs _)=>cond (E.is t (.sl τ)) (k (.dat (.int .i64) (xs.length:Int)) st) none
    | some (.drow τ xs _)=>cond (E.is t (.sl τ)) (k (.dat (.int .i64) (xs.length:Int)) st) none
    | _=>none
  | .ds id i p=>match atN st.h id with
    | some (.drow τ xs _)=>match zW p τ (xs.getD i (ze τ)) with
      | some (.dat (.sl σ) ys)=>cond (E.is t (.sl σ)) (k (.dat (.int .i64) (List.length ys:Int)) st) none
      | _=>none
    | _=>none
  | .om id=>match atN st.h id with | some (.mp κ σ es)=>cond (E.isM t κ σ) (k (.dat (.int .i64) (es.length:Int)) st) none | _=>none
  | .gs id n=>match atN st.h id,(qm E.types t).bind slT with | some (.bx _ _),some _=>k (.dat (.int .i64) (n:Int)) st | _,_=>none
  | _=>none
def zcM (κ:Ty) {β:Type} (d:β):List (κ.I × β)→κ.I→β
  | [],_=>d
  | e :: es,x=>cond (eqI κ x e.1) e.2 (zcM κ d es x)
def zaM (κ:Ty) {β:Type}:List (κ.I × β)→κ.I→Bool
  | [],_=>false
  | e :: es,x=>cond (eqI κ x e.1) true (zaM κ es x)
def yJ (κ:Ty) {β:Type}:List (κ.I × β)→κ.I→β→List (κ.I × β)
  | [],x,y=>[(x,y)]
  | e :: es,x,y=>cond (eqI κ x e.1) ((e.1,y) :: es) (e :: yJ κ es x y)
def zui:Ty→Bool
  | .int _ | .str | .bool=>true
  | _=>false
def zaw (E:Env) (t:TypeId) (m i:AV) (ok:Bool) (st:St) (k:AV→St→Option R):Option R :=
  match m with
  | .om id=>match atN st.h id with
    | some (.mp κ σ es)=>match i with
      | .dat ρ x=>match qK ρ κ x with
        | some x=>cond (zui κ && E.isM t κ σ && σ.np) (match ok with
          | false=>kAV (.dat σ (zcM κ (ze σ) es x)) st k
          | true=>k (.tup [.dat σ (zcM κ (ze σ) es x),.dat .bool (zaM κ es x)]) st) none
        | none=>none
      | _=>none
    | _=>none
  | _=>none
def za2 (E:Env) (t:TypeId) (m i v:AV) (st:St) (k:AV→St→Option R):Option R :=
  match m with
  | .om id=>match atN st.h id with
    | some (.mp κ σ es)=>match i,v with
      | .dat ρ x,.dat τ y=>match qK ρ κ x,qK τ σ y with
        | some x,some y=>cond (zui κ && E.isM t κ σ && σ.np) (k (.tup []) ⟨st.fr,zf st.h id (.mp κ σ (yJ κ es x y))⟩) none
        | _,_=>none
      | _,_=>none
    | _=>none
  | _=>none
def Ty.ownC:Ty→Bool
  | .unit=>true
  | .pair (.sl σ) b=>σ.plain && b.ownC
  | .pair a b=>a.plain && b.ownC
  | _=>false
def Ty.ownE:Ty→Bool
  | .sl σ=>σ.plain
  | .st a=>a.ownC
  | _=>false
def Ty.ownF:Ty→Bool
  | .unit=>true
  | .pair (.sl σ) b=>(bif σ.deep then σ.ownE else σ.plain) && b.ownF
  | .pair a b=>a.plain && b.ownF
  | _=>false
def Ty.ownRes:Ty→Bool
  | .pair (.st a) b=>a.ownF && b.plain
  | _=>false
def zbV (q:Bool) (a r:Ty) (md:Nat) (g:a.I→Option r.I) (args:List (Option AV)) (st:St) (k:AV→St→Option R):Option R :=
  cond (args.all Option.isSome) (cond (r.plain && Nat.beq md 0) (match znf st.h a (args.filterMap id) with
    | some x=>(g x).bind fun y=>match zkg 0 r y st.h with
      | (v,h)=>kAV v ⟨st.fr,h⟩ k
    | none=>none) (cond (r.ownRes && Nat.beq md 3) (match znf st.h a (args.filterMap id) with
    | some x=>(g x).bind fun y=>match zkg 3 r y st.h with
      | (v,h)=>kAV v ⟨st.fr,h⟩ k
    | none=>none) (match jF q a (args.filterMap id) st with
    | some (x,st)=>(g x).bind fun y=>match zkg (bif q && Nat.beq md 1 then 0 else md) r y st.h with
      | (v,h)=>kAV v ⟨st.fr,h⟩ k
    | none=>none))) none
def extA (add:Bool) (x y:Int):Int:=cond add ((x + y) % 18446744073709551616) ((x - y) % 18446744073709551616)
def extB (add:Bool) (x y:Int):Int:=cond add ((x + y) / 18446744073709551616) (cond (decide (x < y)) 1 0)
def znh (add:Bool) (args:List (Option AV)) (st:St) (k:AV→St→Option R):Option R :=
  match args with
  | [some (.dat (.int .u64) x),some (.dat (.int .u64) y),some (.dat (.int .u64) c)]=>cond (decide (0 ≤ (x:Int))) (cond (decide (0 ≤ (y:Int))) (cond (decide ((y:Int) < 18446744073709551616)) (cond ((c:Int) == 0) (k (.tup [.dat (.int .u64) (extA add x y),.dat (.int .u64) (extB add x y)]) st) none) none) none) none
  | _=>none
def zfK (g:(R:Type)→List AV→List Obj→(AV→List Obj→Option R)→Option R) (args:List (Option AV)) (st:St) (k:AV→St→Option R):Option R :=
  cond (args.all Option.isSome) (g R (args.filterMap id) st.h fun v h=>kAV v ⟨st.fr,h⟩ k) none
def zfb (q:Bool) (E:Env) (c:Call) (st:St) (k:AV→St→Option R):Option R :=
  match c.callee with
  | .value (.func f)=>match E.hnd f with
   | some H=>cond q none (zfK H.g (c.args.toList.map (rd E st none)) st k)
   | none=>match look E.funs f with
    | some F=>zbV q F.a F.r F.md F.spec (c.args.toList.map (rd E st none)) st k
    | none=>match look E.ext f with
      | some add=>znh add (c.args.toList.map (rd E st none)) st k
      | none=>none
  | .value f=>match rd E st none f with
    | some (.dat (.fn a r) g)=>Option.bind g fun g=>zbV q a r 0 g (c.args.toList.map (rd E st none)) st k
    | some (.clo f l)=>match E.hnd f with
      | some H=>cond q none (zfK H.g (c.args.toList.map (rd E st none) ++ l.map fun id=>some (.bp id [])) st k)
      | none=>none
    | _=>none
  | .builtin .len=>match c.args.toList,c.argTypes.toList with
    | [x],[t]=>match rd E st none x with | some v=>zc6 E t v st k | none=>none
    | _,_=>none
  | .builtin .append=>match c.args.toList,c.argTypes.toList with
    | [x,y],[t,u]=>match rd E st (qm E.types t) x,rd E st (qm E.types u) y with | some v,some u'=>cond q none (zdW E t u v u' st k) | _,_=>none
    | _,_=>none
  | .builtin .max=>match c.args.toList with
    | [x,y]=>match rd E st none x,rd E st none y with
      | some (.dat (.int a) x),some (.dat (.int b) y)=>cond (decide (a = b)) (k (.dat (.int a) (if (x:Int) < y then y else x)) st) none
      | _,_=>none
    | _=>none
  | .builtin .min=>match c.args.toList with
    | [x,y]=>match rd E st none x,rd E st none y with
      | some (.dat (.int a) x),some (.dat (.int b) y)=>cond (decide (a = b)) (k (.dat (.int a) (if (y:Int) < x then y else x)) st) none
      | _,_=>none
    | _=>none
  | _=>none
def bytesOf (xs:List Int):ByteArray:=xs.foldl (fun r n=>r.push (UInt8.ofNat n.toNat)) ByteArray.empty
def zdS (q:Bool) (E:Env) (src dst:TypeId) (x:AV) (st:St) (k:AV→St→Option R):Option R :=
  match qm E.types src,qm E.types dst,x with
  | some (.int _),some (.int b),.dat (.int _) n=>k (.dat (.int b) (b.wrap n)) st
  | some .str,some .str,.dat .str s=>k (.dat .str s) st
  | some .str,some (.sl (.int .u8)),.dat .str s=>cond q none (k (.ow st.h.length) ⟨st.fr,st.h ++ [.row (.int .u8) ((ByteArray.data s).toList.map fun b=>(b.toNat:Int)) true]⟩)
  | some (.sl (.int .u8)),some .str,.dat (.sl (.int .u8)) xs=>k (.dat .str (bytesOf xs)) st
  | some (.sl (.int .u8)),some .str,.ow id=>match atN st.h id with | some (.row (.int .u8) xs _)=>k (.dat .str (bytesOf xs)) st | _=>none
  | _,_,_=>none
def qB (E:Env) (t:TypeId) (x:AV) (f:Nat) (st:St) (k:AV→St→Option R):Option R :=
  match x with
  | .dat (.ptr (.st a)) y=>Option.bind y fun y=>cond (E.is t (.st a)) (match nth a y f with | some (.dat σ z)=>k (.dat (.ptr σ) (some z)) st | _=>none) none
  | .bp id p=>match atN st.h id with
    | some (.bx (.dat σ y) _)=>match zW p σ y with
      | some (.dat (.st a) z)=>cond (E.is t (.st a)) (match nth a z f with | some _=>k (.bp id (p ++ [f])) st | none=>none) none
      | _=>none
    | some (.bx (.fld b vs) _)=>match p with
      | []=>cond (E.is t (.st b)) (match atN vs f with | some _=>k (.bp id [f]) st | none=>none) none
      | i :: p=>match atN vs i with
        | some (.dat σ y)=>match zW p σ y with
          | some (.dat (.st a) z)=>cond (E.is t (.st a)) (match nth a z f with | some _=>k (.bp id (i :: p ++ [f])) st | none=>none) none
          | _=>none
        | _=>none
    | _=>none
  | .rp id i p=>match atN st.h id with
    | some (.row σ xs _)=>match zW p σ (xs.getD i (ze σ)) with
      | some (.dat (.st a) z)=>cond (E.is t (.st a)) (match nth a z f with | some _=>k (.rp id i (p ++ [f])) st | none=>none) none
      | _=>none
    | some (.drow σ xs _)=>match zW p σ (xs.getD i (ze σ)) with
      | some (.dat (.st a) z)=>cond (E.is t (.st a)) (match nth a z f with | some _=>k (.rp id i (p ++ [f])) st | none=>none) none
      | _=>none
    | _=>none
  | .dp id i p j q=>match atN st.h id with
    | some (.drow τ xs _)=>match zW p τ (xs.getD i (ze τ)) with
      | some (.dat (.sl σ) ys)=>match zW q σ (List.getD ys j (ze σ)) with
        | some (.dat (.st a) z)=>cond (E.is t (.st a)) (match nth a z f with | some _=>k (.dp id i p j (q ++ [f])) st | none=>none) none
        | _=>none
      | _=>none
    | _=>none
  | _=>none
def jZ (h:List Obj):Ty→List AV × List Obj
  | .pair (.sl a) b=>match jZ (h ++ [qQ a []]) b with | (vs,h')=>(.ow h.length :: vs,h')
  | .pair a b=>match jZ h b with | (vs,h')=>(.dat a (ze a) :: vs,h')
  | _=>([],h)
def zax (q:Bool) (a:Ty):List AV→List (Nat × Option AV)→St→Option (List AV × St)
  | vs,[],st=>some (vs,st)
  | vs,(i,some (.ow j)) :: ps,st=>cond (zng st.h a i j) (zax q a (zf vs i (.ow j)) ps st) none
  | vs,(i,some v) :: ps,st=>match v with
    | .clip σ []=>cond (zb5 a i (.sl σ)) (zax q a (zf vs i (.ow st.h.length)) ps ⟨st.fr,st.h ++ [qQ σ []]⟩) none
    | v=>match frz q st v with
      | some ⟨σ,y,st⟩=>cond (zb5 a i σ) (zax q a (zf vs i (.dat σ y)) ps st) none
      | none=>none
  | _,(_,none) :: _,_=>none
def zdX:Ty→Nat→Option Ty
  | .pair a _,0=>some a
  | .pair _ b,i + 1=>zdX b i
  | _,_=>none
def zam (v:AV) (st:St) (k:AV→St→Option R):Option R:=k (.bp st.h.length []) ⟨st.fr,st.h ++ [.bx v false]⟩
def zkh (E:Env) (ty:TypeId) (v:AV) (st:St) (k:AV→St→Option R):Option R :=
  match v,qm E.types ty with
  | .clip _ [],some (.sl a)=>k (.ow st.h.length) ⟨st.fr,st.h ++ [qQ a []]⟩
  | v,_=>k v st
def zaB (E:Env) (x:Operand) (ty:TypeId) (st:St) (k:AV→St→Option R):Option R :=
  match x with
  | .const c=>match rd E st (qm E.types ty) (.const c) with | some v=>zkh E ty v st k | none=>none
  | x=>match rd E st (qm E.types ty) x with | some v=>k v st | none=>none
def zb6 (q:Bool) (τ:Ty) (n:Nat) (ps:List (Nat × Option AV)) (st:St) (k:AV→St→Option R):Option R :=
  match vQ q τ (List.replicate n (ze τ)) ps st with
  | some (xs,st)=>cond (decide (n * nc τ ≤ 16777216)) (k (.ow st.h.length) ⟨st.fr,st.h ++ [qQ τ xs]⟩) none
  | none=>none
def zHv (E:Env) (τ:Ty):Option Ty:=match E.deep,τ with | true,.st a=>cond a.dl (some a) none | _,_=>none
def zxn (E:Env) (h:List Obj) (τ:Ty) (n:Nat) (ps:List (Nat × Option AV)):Option (τ.I × List Obj):=match E.deep,τ.deep,n,ps with
  | true,true,1,[(0,some v)]=>zvY τ v h
  | _,_,_,_=>none
def zDf (τ:Ty):List (Nat × Option AV)→Option (Ty × Ty × Nat × List Nat)
  | [(0,some (.clo f l))]=>match fn1 τ with | some (x,y)=>some (x,y,f,l) | none=>none
  | _=>none
def zqp (τ:Ty):Nat→Nat→List (Nat × Option AV)→Option (Ty × List AV)
  | 0,_,[]=>some (.unit,[])
  | n + 1,i,(j,some (.fld a [.clo f l])) :: ps=>cond (Nat.beq i j && decide (τ = .st a)) (match fn1 τ,zqp τ n (i + 1) ps with
    | some (x,y),some (b,vs)=>some (.pair (.fn x y) b,.clo f l :: vs)
    | _,_=>none) none
  | _,_,_=>none
def zMi (τ:Ty) (n:Nat) (ps:List (Nat × Option AV)):Option (Ty × List AV):=cond (Nat.beq n 0) none (zqp τ n 0 ps)
def qJ (q:Bool) (E:Env) (op:Op) (ty:TypeId) (st:St) (k:AV→St→Option R):Option R :=
  match op with
  | .move x | .assign x=>zaB E x ty st k
  | .pick c a b=>match rd E st none c with
    | some (.dat .bool t)=>cond t (match rd E st none a with | some v=>kAV v st k | none=>none) (match rd E st none b with | some v=>kAV v st k | none=>none)
    | _=>none
  | .alloc e=>match qm E.types e with
    | some (.sl a)=>zam (.ow st.h.length) ⟨st.fr,st.h ++ [qQ a []]⟩ k
    | some (.pair _ _)=>none
    | some (.st a)=>cond (E.deep && a.dl) (match jZ st.h a with | (vs,h)=>zam (.fld a vs) ⟨st.fr,h⟩ k) (zam (.dat (.st a) (ze (.st a))) st k)
    | some τ=>zam (.dat τ (ze τ)) st k
    | none=>none
  | .box e x=>match rd E st (qm E.types e) x with
    | some (.dat τ y)=>cond (E.is e τ) (zam (.dat τ y) st k) none
    | some (.clip τ y)=>cond (E.is e (.sl τ)) (zam (.clip τ y) st k) none
    | some (.ow i)=>cond (E.flat e && j7 st.h i) (zam (.ow i) st k) none
    | some (.fld b vs)=>cond (E.is e (.st b)) (zam (.fld b vs) st k) none
    | _=>none
  | .build t ps=>match qm E.types t with
    | some τ=>match zHv E τ with
     | some a=>match jZ st.h a with
      | (vs,h)=>match zax q a vs (ps.toList.map fun p=>(p.1,rd E st (zdX a p.1) p.2)) ⟨st.fr,h⟩ with
        | some (vs,st)=>k (.fld a vs) st
        | none=>none
     | none=>match zDf τ (ps.toList.map fun p=>(p.1,rd E st none p.2)) with
      | some (x,y,f,l)=>k (.fld (.pair (.fn x y) .unit) [.clo f l]) st
      | none=>match za8 q τ (ze τ) (ps.toList.map fun p=>(p.1,rd E st none p.2)) st with
       | some (x,st)=>cond τ.agg (k (.dat τ x) st) none
       | none=>none
    | none=>none
  | .buildSlice t n ps=>match qm E.types t with
    | some (.sl τ)=>match zxn E st.h τ n (ps.toList.map fun p=>(p.1,rd E st (some τ) p.2)) with
      | some (x,h)=>cond (decide (nc τ ≤ 16777216)) (k (.ow h.length) ⟨st.fr,h ++ [.drow τ [x] 1]⟩) none
      | none=>match zMi τ n (ps.toList.map fun p=>(p.1,rd E st (some τ) p.2)) with
        | some (a,vs)=>cond q none (cond (decide (n ≤ 16777216) && Nat.beq (nc τ) 1) (k (.gs st.h.length n) ⟨st.fr,st.h ++ [.bx (.fld a vs) false]⟩) none)
        | none=>zb6 q τ n (ps.toList.map fun p=>(p.1,rd E st (some τ) p.2)) st k
    | _=>none
  | .load t a=>match rd E st none a with | some v=>jU E t v st k | none=>none
  | .store t a x=>match rd E st none a,rd E st (qm E.types t) x with | some v,some u=>qY E t v u st k | _,_=>none
  | .nilCheck x=>match rd E st none x with
    | some (.dat (.ptr τ) y)=>Option.bind y fun y=>k (.dat (.ptr τ) (some y)) st
    | some (.dat (.fn a b) y)=>Option.bind y fun y=>k (.dat (.fn a b) (some y)) st
    | some (.bp id p)=>cond (j7 st.h id) (k (.bp id p) st) none
    | some (.rp id i p)=>cond (j7 st.h id) (k (.rp id i p) st) none
    | some (.dp id i p j q)=>match atN st.h id with | some (.drow _ _ _)=>k (.dp id i p j q) st | _=>none
    | _=>none
  | .binOp o t x y _=>match rd E st (qm E.types t) x,rd E st (qm E.types t) y with | some v,some u=>zb4 (zxm y) E o t v u st k | _,_=>none
  | .unOp o _ x=>match rd E st none x with | some v=>zsC o v st k | none=>none
  | .convert s d x=>match rd E st none x with | some v=>zdS q E s d v st k | none=>none
  | .makeFunc fn first caps=>zaL q E ty fn (first.toList.map (rd E st none)) (caps.toList.map (rd E st none)) st k
  | .makeMap t none=>match qm E.types t with
    | some (.pair κ σ)=>k (.om st.h.length) ⟨st.fr,st.h ++ [.mp κ σ []]⟩
    | _=>none
  | .makeSlice t l c=>match qm E.types t,rd E st none l,rd E st none c with
    | some (.sl τ),some (.dat (.int _) n),some (.dat (.int _) m) =>
      cond (decide (0 ≤ (n:Int))) (cond (decide ((n:Int) ≤ m)) (cond (decide ((m:Int) ≤ (lim:Int))) (k (.ow st.h.length) ⟨st.fr,st.h ++ [qQ τ (List.replicate (Int.toNat n) (ze τ))]⟩) none) none) none
    | _,_,_=>none
  | .slice t x lo hi mx=>match rd E st none x with | some v=>zfJ q E t v (lo.map (rd E st none)) (hi.map (rd E st none)) (mx.map (rd E st none)) st k | none=>none
  | .fieldAddr t x f=>match rd E st none x with | some v=>qB E t v f st k | none=>none
  | .field t x f=>match rd E st none x with
    | some (.dat (.st a) y)=>cond (E.is t (.st a)) (match nth a y f with | some (.dat σ z)=>kAV (.dat σ z) st k | _=>none) none
    | some (.fld a vs)=>cond (E.is t (.st a)) (match atN vs f with | some (.dat σ z)=>kAV (.dat σ z) st k | some (.ow j)=>k (.ow j) st | _=>none) none
    | _=>none
  | .indexAddr t x i=>match rd E st none x,rd E st none i with | some v,some u=>qA E t v u st k | _,_=>none
  | .index t x i=>match rd E st none x,rd E st none i with | some v,some u=>zfI E t v u st k | _,_=>none
  | .lookup t m i ok=>match rd E st none m,rd E st none i with | some v,some u=>zaw E t v u ok st k | _,_=>none
  | .mapUpdate t m i x=>match rd E st none m,rd E st none i,rd E st none x with | some v,some u,some y=>za2 E t v u y st k | _,_,_=>none
  | .extract t i=>match rd E st none t with
    | some (.tup vs)=>match atN vs i with | some v=>kAV v st k | none=>none
    | _=>none
  | .call c=>zfb q E c st k
  | _=>none
def zni (all:List Oper) (j:Nat):Option Tmp:=(atN all j).bind (·.dst)
def zqq (E:Env) (o:Oper):Bool:=match o.dst with | some d=>Nat.blt d E.nt | none=>true
def zbh (all:List Oper) (fr:List (Nat × AV)) (o:Oper):Option Bool :=
  match o.guard with
  | none=>some true
  | some (j,w)=>match (zni all j).bind (look fr) with
    | some (.dat .bool b)=>some (b == w)
    | some (.tup [])=>some false
    | _=>none
noncomputable def zeN (a b:Option R):Option R:=@ite _ (a = b) (Classical.propDecidable _) a none
noncomputable def zxo (E:Env) (op:Op) (ty:TypeId) (st:St) (k:AV→St→Option R):Option R :=
  cond E.ng (qJ false E op ty st k) <| match op with
  | .binOp .eql t x y o=>match zxm y,rd E st (qm E.types t) x with
    | true,some (.dat (.sl τ) xs)=>cond (E.is t (.sl τ)) (cond (List.isEmpty xs) (zeN (k (.dat .bool true) st) (k (.dat .bool false) st)) (k (.dat .bool false) st)) none
    | _,_=>qJ false E (.binOp .eql t x y o) ty st k
  | op=>qJ false E op ty st k
noncomputable def zhU (E:Env) (all:List Oper):List Oper→St→(St→Option R)→Option R
  | [],st,k=>k st
  | o :: rest,st,k=>cond (zqq E o) (
    match zbh all st.fr o with
    | some b=>cond b (zxo E o.op o.type st fun v st=>zhU E all rest (st.put o.dst v) k) (zhU E all rest (st.put o.dst (.tup [])) k)
    | none=>none) none
def zHw (acc:List Nat) (es:List Edge):Nat:=es.foldl (fun s e=>cond (Region.binds .any e) ((s ||| 2 ^ e.on) ||| (atN acc e.on).getD 0) s) 0
def zjY:List Oper→List Nat→List Nat
  | [],acc=>acc
  | o :: r,acc=>zjY r (acc ++ [zHw acc o.after.toList])
def zde (o:Oper):List Nat:=o.op.operands.toList.filterMap fun x=>match x with | .tmp t=>some t | _=>none
def zlP (bs:List Nat) (bj j:Nat) (o:Oper):List Oper→Nat→Bool
  | [],_=>true
  | u :: r,i=>(match u.dst with
      | some d=>(Nat.beq i j || (match o.dst with | some e=>!Nat.beq d e | none=>true)) && (!jE d (zde o) || ((Nat.testBit bj i && Nat.blt i j) || (Nat.blt j i && Nat.testBit ((atN bs i).getD 0) j)))
      | none=>true) && zlP bs bj j o r (i + 1)
def znj (bs:List Nat) (all:List Oper):List Oper→Nat→Bool
  | [],_=>true
  | o :: r,j=>(zlP bs ((atN bs j).getD 0) j o all 0 && (match o.guard with | some (g,_)=>Nat.testBit ((atN bs j).getD 0) g && Nat.blt g j | none=>true) && (o.after.toList.all fun e=>!Region.binds .any e || Nat.blt e.on j)) && znj bs all r (j + 1)
def zxp (bs:List Nat) (all:List Oper):Bool:=znj bs all all 0
def AV.pure1:AV→Bool
  | .dat .. | .clip ..=>true
  | _=>false
def AV.pure:AV→Bool
  | .tup vs=>vs.all AV.pure1
  | v=>v.pure1
def zfc (h:List Obj) (v:AV):AV × Bool :=
  cond v.pure (v,false) (match frz true ⟨[],h⟩ v with | some ⟨τ,x,_⟩=>(.dat τ x,true) | none=>(v,true))
def zeX (st:St):List Nat→List (Nat × AV) × Bool × Bool
  | []=>([],true,false)
  | t :: l=>match look st.fr t with
    | none=>zeX st l
    | some v =>
      let q:=zeX st l
      ((t,(zfc st.h v).1) :: q.1,(zfc st.h v).1.pure && q.2.1,(zfc st.h v).2 || q.2.2)
def AV.sh1 (n:Nat):AV→AV
  | .bp id p=>.bp (n + id) p
  | .rp id i p=>.rp (n + id) i p
  | .ow id=>.ow (n + id)
  | .om id=>.om (n + id)
  | .ds id i p=>.ds (n + id) i p
  | .dp id i p j q=>.dp (n + id) i p j q
  | .clo f l=>.clo f (l.map (n + ·))
  | .gs id m=>.gs (n + id) m
  | v=>v
def AV.sh (n:Nat):AV→AV
  | .fld a vs=>.fld a (vs.map (AV.sh1 n))
  | v=>v.sh1 n
def AV.shT (n:Nat):AV→AV
  | .tup vs=>.tup (vs.map (AV.sh n))
  | v=>v.sh n
def Obj.sh (n:Nat):Obj→Obj
  | .bx v f=>.bx (v.sh n) f
  | o=>o
def zzH (h:List Obj) (a:Ty):List AV→List (Nat × Option AV)→Option (List AV)
  | vs,[]=>some vs
  | vs,(i,some (.ow j)) :: ps=>cond (zng h a i j) (zzH h a (zf vs i (.ow j)) ps) none
  | vs,(i,some (.dat σ y)) :: ps=>cond (zb5 a i σ) (zzH h a (zf vs i (.dat σ y)) ps) none
  | _,_=>none
def zxq (E:Env) (op:Op) (st:St):Option (Ty × List AV × List Obj) :=
  match op with
  | .build t ps=>match qm E.types t with
    | some τ=>match zHv E τ with
      | some a=>match zzH st.h a ((jZ [] a).1.map (AV.sh1 st.h.length)) (ps.toList.map fun p=>(p.1,rd E st (zdX a p.1) p.2)) with
        | some vs=>some (a,vs,(jZ [] a).2.map (Obj.sh st.h.length))
        | none=>none
      | none=>none
    | none=>none
  | _=>none
structure Did where
  i:Nat
  rd:Bool
  wr:Bool
  ch:Bool
  lk:List Nat
  cg:Option (List Nat)
def zqr:Option (List Nat)→List Nat→Bool
  | none,_=>false
  | some l,k=>k.all fun x=>!jE x l
def zlu (bj:Nat) (d:Did):List Did→Bool
  | []=>true
  | e :: l=>cond (Nat.testBit bj e.i) (zlu bj d l) (cond (e.ch && (d.wr || (d.rd && !zqr e.cg d.lk))) false (cond (d.ch && (e.wr || (e.rd && !zqr d.cg e.lk))) false (zlu bj d l)))
def zay (st:St) (o:Oper):List Nat:=(zde o).flatMap fun t=>match look st.fr t with | some v=>v.ids | none=>[]
def zKy (E:Env) (st:St) (a v:AV):Option (List Nat) :=
  match a,v with
  | .bp id _,.dat _ _=>some [id]
  | .bp id [],.fld _ _=>match atN st.h id with
    | some (.bx (.fld _ _) false)=>some [id]
    | some (.bx (.dat (.st _) _) false)=>cond E.deep (some [id]) none
    | _=>none
  | _,_=>none
def zzI (E:Env) (st:St) (op:Op):Option (List Nat) :=
  match op with
  | .store t a x=>match rd E st none a,rd E st (qm E.types t) x with
    | some v,some u=>zKy E st v u
    | _,_=>none
  | .buildSlice t n ps=>match qm E.types t with
    | some (.sl τ)=>match zxn E st.h τ n (ps.toList.map fun p=>(p.1,rd E st (some τ) p.2)),ps.toList.map fun p=>(p.1,rd E st (some τ) p.2) with
      | some _,[(0,some v)]=>some v.ids
      | none,vs=>match zMi τ n vs with | some _=>some [] | none=>none
      | _,_=>none
    | _=>none
  | _=>none
def yk:Op→Bool
  | .load .. | .fieldAddr .. | .indexAddr .. | .nilCheck .. | .binOp .. | .lookup .. | .move (.tmp _) | .assign (.tmp _) | .extract ..=>true
  | .call c=>(match c.callee with | .builtin .len=>true | _=>false)
  | _=>false
def zhx (E:Env) (op:Op) (st:St):Option (Hd × List AV) :=
  match op with
  | .call c=>match c.callee with
    | .value (.func f)=>match E.hnd f with
      | some H=>cond (H.still && (c.args.toList.map (rd E st none)).all Option.isSome) (some (H,(c.args.toList.map (rd E st none)).filterMap id)) none
      | none=>none
    | _=>none
  | _=>none
def zgS (h:List Obj):Nat→List Nat→List Nat
  | 0,L=>L
  | n + 1,L=>zgS h n (L ++ L.flatMap (zDb h))
def znk {α:Type}:List α→Bool
  | []=>true
  | _=>false
def evD (E:Env) (all:List Oper) (bs:List Nat):List Oper→Nat→List Did→St→(St→Option R)→Option R
  | [],_,_,st,k=>k st
  | o :: rest,j,seen,st,k=>cond (zqq E o) (
    match zbh all st.fr o with
    | none=>none
    | some b=>cond b (
        match zeX st (zde o) with
        | (fr',pu,rs)=>cond pu
          (qJ false E o.op o.type ⟨fr',[]⟩ fun v st' =>
            cond (zlu ((atN bs j).getD 0) ⟨j,rs,!znk st'.h,false,zay st o,none⟩ seen)
              (evD E all bs rest (j + 1) (⟨j,rs,!znk st'.h,false,zay st o,none⟩ :: seen) ((⟨st.fr,st.h ++ st'.h.map (Obj.sh st.h.length)⟩:St).put o.dst (v.shT st.h.length)) k) none)
          (match zxq E o.op st with
          | some (a,vs,z)=>cond (zlu ((atN bs j).getD 0) ⟨j,true,!znk z,false,zay st o,none⟩ seen)
              (evD E all bs rest (j + 1) (⟨j,true,!znk z,false,zay st o,none⟩ :: seen) ((⟨st.fr,st.h ++ z⟩:St).put o.dst (.fld a vs)) k) none
          | none=>match zhx E o.op st with
           | some (_,vs)=>cond (zlW st.h (zgS st.h 2 (zay st o)) && (vs.all AV.one && vs.all fun v=>v.ids.all fun i=>jE i (zay st o)))
            (cond (zlu ((atN bs j).getD 0) ⟨j,true,false,false,zgS st.h 2 (zay st o),none⟩ seen)
              (qJ false E o.op o.type st fun v st'=>evD E all bs rest (j + 1) (⟨j,true,false,false,zgS st.h 2 (zay st o),none⟩ :: seen) (st'.put o.dst v) k) none) none
           | none=>cond (yk o.op)
            (cond (zlu ((atN bs j).getD 0) ⟨j,true,false,false,zay st o,none⟩ seen)
              (qJ false E o.op o.type st fun v st'=>evD E all bs rest (j + 1) (⟨j,true,false,false,zay st o,none⟩ :: seen) (st'.put o.dst v) k) none)
            (cond (zlu ((atN bs j).getD 0) ⟨j,true,true,true,[],zzI E st o.op⟩ seen)
              (qJ false E o.op o.type st fun v st'=>evD E all bs rest (j + 1) (⟨j,true,true,true,[],zzI E st o.op⟩ :: seen) (st'.put o.dst v) k) none)))
        (evD E all bs rest (j + 1) seen (st.put o.dst (.tup [])) k)) none
inductive Ex where
  | normal | exit (id:Nat) | ret
def zMj (all:List Oper) (o:Oper):List Nat :=
  (o.op.operands.toList.filterMap fun x=>match x with | .tmp t=>some t | _=>none) ++ (match o.guard with | some (j,_)=>(zni all j).toList | none=>[])
def zJc (m t:Nat):Nat:=m ||| (1 <<< t)
def zMk (m t:Nat):Nat:=bif Nat.testBit m t then m ^^^ (1 <<< t) else m
def zG4 (all:List Oper):List Oper→Nat→Nat
  | [],m=>m
  | o :: rest,m =>
    let m:=zG4 all rest m
    let m:=match o.dst with | some d=>zMk m d | none=>m
    (zMj all o).foldl zJc m
def lv (fin:Nat):Code→(Nat→Nat)→Nat→Nat
  | .region _ ops _,_,n=>zG4 ops.toList ops.toList n
  | .seq a b,x,n=>lv fin a x (lv fin b x n)
  | .cond c a b,x,n=>(lv fin a x n ||| lv fin b x n) ||| (match c with | .tmp t=>1 <<< t | _=>0)
  | .block id b,x,n=>lv fin b (fun i=>bif Nat.beq i id then n else x i) n
  | .loop b,x,_=>lv fin b x 0
  | .exit id,x,_=>x id
  | .scope b,x,n=>lv fin b x n
  | .ret,_,_=>fin
  | _,_,n=>n
def zDg (m:Nat) (fr:List (Nat × AV)):List (Nat × AV):=fr.filter fun p=>Nat.testBit m p.1
def zDh:List Nat→List Nat→List Nat
  | seen,[]=>seen
  | seen,i :: l=>zDh (bif seen.contains i then seen else seen ++ [i]) l
def zLy:List (Nat × AV)→List Nat→List Nat
  | [],seen=>seen
  | (_,v) :: r,seen=>zLy r (zDh seen v.ids)
def zDi (h:List Obj):Nat→Nat→List Nat→List Nat
  | 0,_,seen=>seen
  | n + 1,i,seen=>match atN seen i with
    | none=>seen
    | some id=>zDi h n (i + 1) (match atN h id with | some (.bx v _)=>zDh seen v.ids | _=>seen)
def zan:List Nat→Nat→Nat
  | [],_=>0
  | x :: l,i=>bif Nat.beq x i then 0 else zan l i + 1
def AV.ren1 (l:List Nat):AV→AV
  | .bp id p=>.bp (zan l id) p
  | .rp id i p=>.rp (zan l id) i p
  | .ow id=>.ow (zan l id)
  | .om id=>.om (zan l id)
  | .ds id i p=>.ds (zan l id) i p
  | .dp id i p j q=>.dp (zan l id) i p j q
  | .clo f k=>.clo f (k.map (zan l))
  | .gs id m=>.gs (zan l id) m
  | v=>v
def AV.ren (l:List Nat):AV→AV
  | .fld a vs=>.fld a (vs.map (AV.ren1 l))
  | v=>v.ren1 l
def Obj.ren (l:List Nat):Obj→Obj
  | .bx v f=>.bx (v.ren l) f
  | o=>o
def AV.okG1 (l:List Nat):AV→Bool
  | .bp id _ | .rp id _ _ | .ow id | .om id | .ds id _ _ | .dp id _ _ _ _ | .gs id _=>jE id l
  | .clo _ k=>k.all fun id=>jE id l
  | _=>true
def AV.okG (l:List Nat):AV→Bool
  | .tup vs=>vs.all AV.pure1
  | .fld _ vs=>vs.all (AV.okG1 l)
  | v=>v.okG1 l
def Obj.okG (l:List Nat):Obj→Bool
  | .bx v _=>v.okG l
  | _=>true
def zsE:List Nat→Bool
  | []=>true
  | x :: l=>!jE x l && zsE l
def zDj (l:List Nat) (st:St):St :=
  cond (zsE l && (st.fr.all (fun p=>p.2.okG l) && l.all fun i=>match atN st.h i with | some o=>o.okG l | none=>true))
    ⟨st.fr.map fun p=>(p.1,p.2.ren l),l.map fun i=>((atN st.h i).getD .gone).ren l⟩ st
def St.gc (st:St):St:=zDj (zDi st.h st.h.length 0 (zLy st.fr [])) st
def St.gcE (E:Env) (st:St):St:=cond E.ng st (St.gc st)
def zlv (E:Env) (j7:Nat) (B:(Ex→St→Option R)→St→Option R) (k:Ex→St→Option R):Nat→St→Option R
  | 0,_=>none
  | n + 1,st=>B (fun e st'=>match e with | .normal=>zlv E j7 B k n (St.gcE E ⟨zDg j7 st'.fr,st'.h⟩) | e=>k e st') st
def mark (_:Nat) (st:St):St:=st
def zM4 (t n:Nat) (st:St) (k:St→Option R):Option R:=match n with
  | 0=>none
  | _ + 1=>k (mark t st)
def jr (E:Env) (K id ln:Nat) (k:St→Option R):St→Option R:=cond (jE id E.jn) (fun st=>zM4 id K (St.gcE E ⟨zDg ln st.fr,st.h⟩) k) k
noncomputable def evC (E:Env) (K fin:Nat):Code→(lx:Nat→Nat)→(ln:Nat)→(Ex→St→Option R)→St→Option R
  | .skip,_,_,k,st=>k .normal st
  | .region id ops d,_,ln,k,st=>cond d (cond (zxp (zjY ops.toList []) ops.toList) (evD E ops.toList (zjY ops.toList []) ops.toList 0 [] st (jr E K id ln (k .normal))) none) (zhU E ops.toList ops.toList st (jr E K id ln (k .normal)))
  | .seq a b,lx,ln,k,st=>evC E K fin a lx (lv fin b lx ln) (fun e st=>match e with | .normal=>evC E K fin b lx ln k st | e=>k e st) st
  | .cond c a b,lx,ln,k,st=>match rd E st none c with
    | some (.dat .bool t)=>cond t (evC E K fin a lx ln k st) (evC E K fin b lx ln k st)
    | _=>none
  | .block id b,lx,ln,k,st=>evC E K fin b (fun i=>bif Nat.beq i id then ln else lx i) ln (fun e st=>match e with | .exit i=>bif Nat.beq i id then k .normal st else k (.exit i) st | e=>k e st) st
  | .loop b,lx,ln,k,st =>
    let j7:=lv fin (.loop b) lx ln
    zlv E j7 (evC E K fin b lx j7) k K (St.gcE E ⟨zDg j7 st.fr,st.h⟩)
  | .exit id,_,_,k,st=>k (.exit id) st
  | .scope b,lx,ln,k,st=>evC E K fin b lx ln k st
  | .label _,_,_,k,st=>k .normal st
  | .ret,_,_,k,st=>k .ret st
  | _,_,_,_,_=>none
end
noncomputable def zki (R:Type) (E:Env) (K fin:Nat):List Nat→List Nat→Code→(Nat→Nat)→Nat→(Ex→St→Option R)→Option (Code × (Nat→Nat) × Nat × (Ex→St→Option R))
  | [],_,c,lx,ln,k=>some (c,lx,ln,k)
  | i :: p,ns,.seq a b,lx,ln,k=>bif Nat.beq i 0 then zki R E K fin p ns a lx (lv fin b lx ln) (fun e st=>match e with | .normal=>evC E K fin b lx ln k st | e=>k e st)
    else zki R E K fin p ns b lx ln k
  | i :: p,ns,.cond _ a b,lx,ln,k=>bif Nat.beq i 0 then zki R E K fin p ns a lx ln k else zki R E K fin p ns b lx ln k
  | _ :: p,ns,.block id b,lx,ln,k=>zki R E K fin p ns b (fun i=>bif Nat.beq i id then ln else lx i) ln (fun e st=>match e with | .exit i=>bif Nat.beq i id then k .normal st else k (.exit i) st | e=>k e st)
  | _ :: p,ns,.loop b,lx,ln,k =>
    let j7:=lv fin (.loop b) lx ln
    match ns with
    | n :: ns=>zki R E K fin p ns b lx j7 (fun e st'=>match e with | .normal=>zlv E j7 (evC E K fin b lx j7) k n (St.gcE E ⟨zDg j7 st'.fr,st'.h⟩) | e=>k e st')
    | []=>none
  | _ :: p,ns,.scope b,lx,ln,k=>zki R E K fin p ns b lx ln k
  | _,_,_,_,_,_=>none
def zc7 (E:Env) (st:St):ResultVar→Option AV
 | .tmp t=>look st.fr t
 | .cell a t=>match look st.fr a with
  | some (.bp id [])=>match atN st.h id with
   | some (.bx (.dat τ x) _)=>cond (E.is t τ) (some (.dat τ x)) none
   | some (.bx (.fld b vs) _)=>cond (E.is t (.st b)) (some (.fld b vs)) none
   | some (.bx v _)=>cond (E.flat t) (some v) none
   | _=>none
  | _=>none
def zfL (rs:List ResultVar):Nat:=rs.foldl (fun m r=>zJc m (match r with | .tmp t=>t | .cell a _=>a)) 0
def params:(τ:Ty)→τ.I→Nat→List (Nat × AV)
 | .pair a b,x,i=>(i,.dat a x.1) :: params b x.2 (i + 1)
 | _,_,_=>[]
def zJd (σ:Ty) (v:AV) (h:List Obj):Option (List σ.I × List Obj) :=
 match v with
 | .ow id=>match atN h id with
  | some (.row τ xs false)=>match qK (.sl τ) (.sl σ) xs with | some xs=>some (xs,zf h id .gone) | none=>none
  | some (.drow τ xs n)=>match qK (.sl τ) (.sl σ) xs with | some xs=>cond (decide (n = 0)) (some (xs,zf h id .gone)) none | none=>none
  | _=>none
 | _=>none
def zvZ (h:List Obj) (σ:Ty):AV→Option (σ.I × List Obj)
 | .dat τ x=>cond τ.dl none (match qK τ σ x with | some x=>some (x,h) | none=>none)
 | .ow id=>match atN h id with
  | some (.row τ xs false)=>cond τ.deep none (match qK (.sl τ) σ xs with | some x=>some (x,zf h id .gone) | none=>none)
  | some (.drow τ xs n)=>match qK (.sl τ) σ xs with | some x=>cond (decide (n = List.length xs)) (some (x,zf h id .gone)) none | none=>none
  | _=>none
 | _=>none
def ownC (σ:Ty) (vs:List AV) (h:List Obj):Option (σ.I × List Obj) :=
 match σ,vs with
 | .unit,[]=>some ((),h)
 | .pair a b,v :: vs=>match zvZ h a v with
  | some (x,h)=>match ownC b vs h with | some (xs,h)=>some ((x,xs),h) | none=>none
  | none=>none
 | _,_=>none
def zHx {ρ:Type} (h:List Obj) (σ:Ty) (v:AV) (k:σ.I→List Obj→Option ρ):Option ρ :=
 match v with
 | .dat τ x=>cond τ.dl none (match qK τ σ x with | some x=>k x h | none=>none)
 | .ow id=>match atN h id with
  | some (.row τ xs false)=>cond τ.deep none (match qK (.sl τ) σ xs with | some x=>k x (zf h id .gone) | none=>none)
  | some (.drow τ xs n)=>match qK (.sl τ) σ xs with | some x=>cond (decide (n = List.length xs)) (k x (zf h id .gone)) none | none=>none
  | _=>none
 | _=>none
def zxr {ρ:Type} (σ:Ty) (vs:List AV) (h:List Obj) (k:σ.I→List Obj→Option ρ):Option ρ :=
 match σ,vs with
 | .unit,[]=>k () h
 | .pair a b,v :: vs=>zHx h a v fun x h=>zxr b vs h fun xs h=>k (x,xs) h
 | _,_=>none
def zHy (md:Nat) (r:Ty) (vs:List AV) (st:St):Option r.I :=
 match md,r,vs with
 | 1,.pair (.sl a) b,v :: vs=>match zJd a v st.h with
  | some (x,h)=>match jF false b vs ⟨st.fr,h⟩ with | some p=>some (x,p.1) | none=>none
  | none=>none
 | 3,.pair (.st a) b,.fld c vs :: us=>cond (decide (a = c)) (zxr a vs st.h fun x h=>match jF false b us ⟨st.fr,h⟩ with | some p=>some (x,p.1) | none=>none) none
 | 4,.pair (.sl a) b,v :: us=>zxr (.pair (.sl a) .unit) [v] st.h fun x h=>match jF false b us ⟨st.fr,h⟩ with | some p=>some (x.1,p.1) | none=>none
 | 0,r,vs=>match jF false r vs st with | some p=>some p.1 | none=>none
 | _,_,_=>none
def zMl (E:Env) (f:Func) (md:Nat) (r:Ty) (e:Ex) (st:St):Option r.I :=
 match e with
 | .exit _=>none
 | _=>cond ((f.results.toList.map (zc7 E st)).all Option.isSome) (zHy md r ((f.results.toList.map (zc7 E st)).filterMap id) st) none
noncomputable def evF (E:Env) (K:Nat) (f:Func) (md:Nat) (a r:Ty) (x:a.I):Option r.I :=
 match f.body with
 | some c=>evC { E with nt:=f.ntmps } K (zfL f.results.toList) c (fun _=>0) (zfL f.results.toList) (zMl E f md r) ⟨params a x 0,[]⟩
 | none=>none
noncomputable def evL (E:Env) (K:Nat) (f:Func) (md:Nat) (r:Ty) (p ns:List Nat) (n:Nat) (st:St):Option r.I :=
 match f.body with
 | some c=>match zki r.I { E with nt:=f.ntmps } K (zfL f.results.toList) p ns c (fun _=>0) (zfL f.results.toList) (zMl E f md r) with
  | some (.loop b,lx,ln,k)=>zlv { E with nt:=f.ntmps } (lv (zfL f.results.toList) (.loop b) lx ln) (evC { E with nt:=f.ntmps } K (zfL f.results.toList) b lx (lv (zfL f.results.toList) (.loop b) lx ln)) k n st
  | _=>none
 | none=>none
end Go.Ev
end
section
namespace Go.Ev
open Go.RowKit
abbrev FH:=Nat→Option (Array Value)
def FH.le (F F':FH):Prop:=∀ k c,F k = some c→F' k = some c
def FH.ok (F:FH) (w:World):Prop:=∀ k c,F k = some c→∃ el fz,w.heap[k]? = some (.cells c el fz)
def FH.grow (F F':FH) (n:Nat):Prop:=F.le F' ∧ ∀ k,k < n→F' k = F k
theorem FH.le.refl (F:FH):F.le F:=fun _ _ h=>h
theorem FH.le.trans {F F' F'':FH} (h:F.le F') (h':F'.le F''):F.le F'':=fun k c hk=>h' k c (h k c hk)
theorem FH.grow.refl (F:FH) (n:Nat):F.grow F n:=⟨.refl F,fun _ _=>rfl⟩
theorem FH.grow.trans {F F' F'':FH} {n m:Nat} (h:F.grow F' n) (h':F'.grow F'' m) (hm:n ≤ m):F.grow F'' n :=
 ⟨h.1.trans h'.1,fun k hk=>(h'.2 k (by omega)).trans (h.2 k hk)⟩
def At (F:FH) (a:Addr) (cs:List Value):Prop :=
 a.spot = none ∧ ∃ c,F a.block = some c ∧ ∀ (j:Nat) (v:Value),cs[j]? = some v→c[a.off + j]? = some v
theorem At.mono {F F':FH} (h:F.le F') {a:Addr} {cs:List Value}:At F a cs→At F' a cs
 | ⟨h1,c,h2,h3⟩=>⟨h1,c,h _ _ h2,h3⟩
def RepL {α:Type} (R:α→List Value→Prop):List α→List Value→Prop
 | [],cs=>cs = []
 | x :: xs,cs=>∃ c d,cs = c ++ d ∧ R x c ∧ RepL R xs d
theorem RepL.mono {α:Type} {R R':α→List Value→Prop} (h:∀ x c,R x c→R' x c):∀ xs cs,RepL R xs cs→RepL R' xs cs
 | [],_,hc=>hc
 | _ :: xs,_,⟨c,d,e,h1,h2⟩=>⟨c,d,e,h _ _ h1,RepL.mono h xs d h2⟩
def isAggV:Value→Bool
 | .agg _=>true
 | _=>false
def zqs:List Value→Value
 | [v]=>v
 | vs=>.tuple vs.toArray
def zsF (P:Program) (f:FuncId):Prop:=∃ fn,P.funcs[f]? = some fn ∧ (fn.name == "runtime.NumGoroutine") = false ∧ fn.body.isNone = false
def RR (P:Program):(τ:Ty)→(FH→τ.I→List Value→Prop) × (FH→τ.I→List Value→Prop)
 | .unit=>(fun _ _ cs=>cs = [],fun _ _ vs=>vs = [])
 | .bool=>(fun _ b cs=>cs = [.bool b],fun _ _ _=>False)
 | .int k=>(fun _ n cs=>cs = [.int k n],fun _ _ _=>False)
 | .str=>(fun _ s cs=>cs = [.string s],fun _ _ _=>False)
 | .pair a b=>(fun F x cs=>∃ c d,cs = c ++ d ∧ (RR P a).1 F x.1 c ∧ (RR P b).1 F x.2 d,
  fun F x vs=>∃ v r,vs = v :: r ∧ (RR P a).1 F x.1 v.cells.toList ∧ isAggV v = a.agg ∧ (RR P b).2 F x.2 r)
 | .st a=>(fun F x cs=>(RR P a).1 F x cs,fun _ _ _=>False)
 | .arr n a=>(fun F xs cs=>List.length xs = n ∧ RepL ((RR P a).1 F) xs cs,fun _ _ _=>False)
 | .sl a=>(fun F xs cs=>∃ ad cap,cs = [.slice ad (List.length xs) cap] ∧ List.length xs ≤ cap ∧
  (xs ≠ []→∃ d cc,ad = some d ∧ At F d cc ∧ RepL ((RR P a).1 F) xs cc),fun _ _ _=>False)
 | .ptr a=>(fun F x cs=>match x with
  | none=>cs = [.pointer none]
  | some x=>∃ d cc,cs = [.pointer (some d)] ∧ At F d cc ∧ (RR P a).1 F x cc,fun _ _ _=>False)
 | .fn a b=>(fun F g cs=>match g with
  | none=>cs = [.nilFunc]
  | some g=>∃ f first caps,cs = [.func (.func f) first caps] ∧ zsF P f ∧ ∀ x y,g x = some y→∀ F' w vs,F.le F'→F'.ok w→(RR P a).2 F' x vs →
   Calls P f (first ++ vs.toArray ++ caps) w fun e w'=>∃ us F'',e = .returned (zqs us) ∧ Below w.heap.size w w' ∧ F'.grow F'' w.heap.size ∧ F''.ok w' ∧ (RR P b).2 F'' y us,
  fun _ _ _=>False)
def Rep (P:Program) (F:FH) (τ:Ty) (x:τ.I) (cs:List Value):Prop:=(RR P τ).1 F x cs
def zV (P:Program) (F:FH) (τ:Ty) (x:τ.I) (v:Value):Prop:=Rep P F τ x v.cells.toList ∧ isAggV v = τ.agg
def RepA (P:Program) (F:FH) (τ:Ty) (x:τ.I) (vs:List Value):Prop:=(RR P τ).2 F x vs
theorem zG5 (P:Program) {F F':FH} (h:F.le F'):∀ τ:Ty,(∀ x cs,(RR P τ).1 F x cs→(RR P τ).1 F' x cs) ∧ (∀ x vs,(RR P τ).2 F x vs→(RR P τ).2 F' x vs):=by
 intro τ
 induction τ with
 | unit=>exact ⟨fun _ _ h=>h,fun _ _ h=>h⟩
 | bool=>exact ⟨fun _ _ h=>h,fun _ _ h=>h⟩
 | int k=>exact ⟨fun _ _ h=>h,fun _ _ h=>h⟩
 | str=>exact ⟨fun _ _ h=>h,fun _ _ h=>h⟩
 | pair a b iha ihb =>
  exact ⟨fun x cs ⟨c,d,e,h1,h2⟩=>⟨c,d,e,iha.1 _ _ h1,ihb.1 _ _ h2⟩,fun x vs ⟨v,r,e,h1,h2,h3⟩=>⟨v,r,e,iha.1 _ _ h1,h2,ihb.2 _ _ h3⟩⟩
 | st a ih=>exact ⟨fun x cs h1=>ih.1 _ _ h1,fun _ _ h=>h⟩
 | arr n a ih=>exact ⟨fun x cs ⟨h1,h2⟩=>⟨h1,RepL.mono ih.1 _ _ h2⟩,fun _ _ h=>h⟩
 | sl a ih =>
  exact ⟨fun x cs ⟨ad,cap,e,h1,h2⟩=>⟨ad,cap,e,h1,fun hx=>let ⟨d,cc,e1,e2,e3⟩:=h2 hx; ⟨d,cc,e1,e2.mono h,RepL.mono ih.1 _ _ e3⟩⟩,fun _ _ h=>h⟩
 | ptr a ih =>
  refine ⟨fun x cs h1=>?_,fun _ _ h=>h⟩
  cases x with
  | none=>exact h1
  | some x=>obtain ⟨d,cc,e,e1,e2⟩:=h1; exact ⟨d,cc,e,e1.mono h,ih.1 _ _ e2⟩
 | fn a b _ _ =>
  refine ⟨fun x cs h1=>?_,fun _ _ h=>h⟩
  cases x with
  | none=>exact h1
  | some g=>obtain ⟨f,first,caps,e,he,hc⟩:=h1; exact ⟨f,first,caps,e,he,fun x y hg F2 w vs hle=>hc x y hg F2 w vs (h.trans hle)⟩
theorem Rep.mono {P:Program} {F F':FH} (h:F.le F') {τ:Ty} {x:τ.I} {cs:List Value} (hr:Rep P F τ x cs):Rep P F' τ x cs:=(zG5 P h τ).1 _ _ hr
theorem zV.mono {P:Program} {F F':FH} (h:F.le F') {τ:Ty} {x:τ.I} {v:Value} (hr:zV P F τ x v):zV P F' τ x v:=⟨hr.1.mono h,hr.2⟩
theorem RepA.mono {P:Program} {F F':FH} (h:F.le F') {τ:Ty} {x:τ.I} {vs:List Value} (hr:RepA P F τ x vs):RepA P F' τ x vs:=(zG5 P h τ).2 _ _ hr
theorem RepL.length {α:Type} {R:α→List Value→Prop} {n:Nat} (h:∀ x c,R x c→c.length = n):∀ xs cs,RepL R xs cs→cs.length = xs.length * n
 | [],_,e=>by cases e; simp
 | x :: xs,_,⟨c,d,e,h1,h2⟩=>by
  subst e
  have:=RepL.length h xs d h2
  have:=h _ _ h1
  simp only [List.length_append,List.length_cons,Nat.add_mul,Nat.one_mul]
  omega
theorem Rep.length {P:Program} {F:FH}:∀ {τ:Ty} {x:τ.I} {cs:List Value},Rep P F τ x cs→cs.length = nc τ:=by
 intro τ
 induction τ with
 | unit=>intro x cs h; cases h; rfl
 | bool=>intro x cs h; cases h; rfl
 | int k=>intro x cs h; cases h; rfl
 | str=>intro x cs h; cases h; rfl
 | pair a b iha ihb =>
  rintro x cs ⟨c,d,rfl,h1,h2⟩
  have:=iha h1
  have:=ihb h2
  simp only [List.length_append,nc]
  omega
 | st a ih=>intro x cs h; exact ih (x:=x) h
 | arr n a ih =>
  rintro x cs ⟨h1,h2⟩
  have:=RepL.length (n:=nc a) (fun y c hc=>ih (x:=y) hc) _ _ h2
  rw [this,h1]; rfl
 | sl a _=>rintro x cs ⟨ad,cap,rfl,_⟩; rfl
 | ptr a _ =>
  intro x cs h
  cases x with
  | none=>cases h; rfl
  | some x=>obtain ⟨_,_,rfl,_⟩:=h; rfl
 | fn a b _ _ =>
  intro x cs h
  cases x with
  | none=>cases h; rfl
  | some x=>obtain ⟨_,_,_,rfl,_⟩:=h; rfl
theorem RepL.get {α:Type} {R:α→List Value→Prop} {n:Nat} (hn:∀ x c,R x c→c.length = n):∀ (xs:List α) (cs:List Value),RepL R xs cs →
 ∀ (i:Nat) (x:α),xs[i]? = some x→∃ c,R x c ∧ ∀ (j:Nat) (v:Value),c[j]? = some v→cs[i * n + j]? = some v
 | [],_,_,i,x,h=>by simp at h
 | y :: ys,_,⟨c,d,e,h1,h2⟩,0,x,h=>by
  subst e
  obtain rfl:y = x:=by simpa using h
  refine ⟨c,h1,fun j v hj=>?_⟩
  have hlt:j < c.length:=(List.getElem?_eq_some_iff.1 hj).1
  rw [Nat.zero_mul,Nat.zero_add,List.getElem?_append_left hlt]; exact hj
 | y :: ys,_,⟨c,d,e,h1,h2⟩,i + 1,x,h=>by
  subst e
  obtain ⟨c',hc',hj⟩:=RepL.get hn ys d h2 i x (by simpa using h)
  refine ⟨c',hc',fun j v hv=>?_⟩
  have hl:=hn _ _ h1
  have:=hj j v hv
  rw [List.getElem?_append_right (by rw [hl,Nat.add_mul]; omega),hl]
  rw [show (i + 1) * n + j - n = i * n + j by rw [Nat.add_mul]; omega]
  exact this
def zB (cs:List Value) (off:Nat) (new:List Value):List Value:=cs.take off ++ new ++ cs.drop (off + new.length)
theorem zb7 {a b new:List Value} {off:Nat} (h:off + new.length ≤ a.length):zB (a ++ b) off new = zB a off new ++ b:=by
 unfold zB
 rw [List.take_append_of_le_length (by omega),List.drop_append_of_le_length (by omega)]
 simp
theorem yx {a b new:List Value} {off:Nat}:zB (a ++ b) (a.length + off) new = a ++ zB b off new:=by
 unfold zB
 rw [List.take_length_add_append,show a.length + off + new.length = a.length + (off + new.length) by omega,List.drop_length_add_append]
 simp
theorem RepL.set {α:Type} {R:α→List Value→Prop} {n:Nat} (hn:∀ x c,R x c→c.length = n):∀ (xs:List α) (cs:List Value),RepL R xs cs →
 ∀ (i:Nat) (x:α) (c:List Value),i < xs.length→R x c→RepL R (xs.set i x) (zB cs (i * n) c)
 | [],_,_,i,x,c,h,_=>by simp at h
 | y :: ys,_,⟨c0,d,e,h1,h2⟩,0,x,c,h,hc=>by
  subst e
  have hl:=hn _ _ h1
  have hl':=hn _ _ hc
  refine ⟨c,d,?_,hc,h2⟩
  unfold zB
  simp [hl',← hl]
 | y :: ys,_,⟨c0,d,e,h1,h2⟩,i + 1,x,c,h,hc=>by
  subst e
  have hl:=hn _ _ h1
  refine ⟨c0,zB d (i * n) c,?_,h1,RepL.set hn ys d h2 i x c (by simpa using h) hc⟩
  rw [show (i + 1) * n = c0.length + i * n by rw [Nat.add_mul,hl]; omega,yx]
theorem RepL.append {α:Type} {R:α→List Value→Prop}:∀ (xs ys:List α) (cs ds:List Value),RepL R xs cs→RepL R ys ds→RepL R (xs ++ ys) (cs ++ ds)
 | [],ys,cs,ds,h1,h2=>by cases h1; simpa using h2
 | x :: xs,ys,_,ds,⟨c,d,e,h1,h2⟩,h3=>by
  subst e
  exact ⟨c,d ++ ds,by simp,h1,RepL.append xs ys d ds h2 h3⟩
theorem RepL.replicate {α:Type} {R:α→List Value→Prop} {x:α} {c:List Value} (h:R x c):∀ n:Nat,RepL R (List.replicate n x) (List.replicate n c).flatten
 | 0=>rfl
 | n + 1=>⟨c,(List.replicate n c).flatten,by simp [List.replicate_succ],h,RepL.replicate h n⟩
end Go.Ev
end
section
namespace Go.Ev
open Go.RowKit
theorem z7 {α:Type}:∀ (l:List α) (i:Nat),atN l i = l[i]?
 | [],i=>by simp [atN]
 | _ :: _,0=>by simp [atN]
 | _ :: l,i + 1=>by simp [atN,z7 l i]
theorem qS {α:Type}:∀ (l:List α) (i:Nat) (x:α),zf l i x = l.set i x
 | [],_,_=>rfl
 | _ :: _,0,_=>rfl
 | _ :: l,i + 1,x=>by simp [zf,qS l i x]
theorem zbi {k t:Nat} (h:k ≠ t):Nat.beq k t = false:=by
 cases hb:Nat.beq k t with
 | false=>rfl
 | true=>exact absurd (Nat.eq_of_beq_eq_true hb) h
theorem beq_self (k:Nat):Nat.beq k k = true:=Nat.beq_refl k
theorem zjp (d:Nat) (v:AV):∀ (fr:List (Nat × AV)) (t:Nat),look (ins d v fr) t = if d = t then some v else look fr t
 | [],t=>by
  by_cases h:d = t
  ·subst h; simp [ins,look,beq_self]
  ·simp [ins,look,h,zbi h]
 | (k,u) :: r,t=>by
  have ih:=zjp d v r t
  by_cases hk:k = d
  ·subst hk
   by_cases h:k = t
   ·subst h; simp [ins,look,beq_self]
   ·simp [ins,look,h,zbi h,beq_self]
  ·have hk':Nat.beq k d = false:=zbi hk
   cases hb:Nat.blt d k with
   | true =>
    by_cases h:d = t
    ·subst h; simp [ins,look,hk',hb,beq_self]
    ·simp [ins,look,hk',hb,h,zbi h]
   | false =>
    by_cases h:k = t
    ·subst h
     have:d ≠ k:=fun e=>hk e.symm
     simp [ins,look,hk',hb,this,beq_self]
    ·simp [ins,look,hk',hb,zbi h,ih]
theorem zDk (f:AV→AV):∀ (fr:List (Nat × AV)) (t:Nat),look (fr.map fun p=>(p.1,f p.2)) t = (look fr t).map f
 | [],_=>rfl
 | (k,u) :: r,t=>by
  by_cases h:k = t
  ·subst h; simp [look,beq_self]
  ·simp [look,zbi h,zDk f r t]
theorem zor (q:Nat→Bool):∀ (fr:List (Nat × AV)) (t:Nat) (v:AV),look (fr.filter fun p=>q p.1) t = some v→look fr t = some v
 | [],_,_,h=>by simp [look] at h
 | (k,u) :: r,t,v,h=>by
  by_cases hq:q k = true
  ·rw [List.filter_cons_of_pos (by simpa using hq)] at h
   by_cases hk:k = t
   ·subst hk; simpa [look,beq_self] using h
   ·simp only [look,zbi hk,cond_false] at h ⊢
    exact zor q r t v h
  ·rw [List.filter_cons_of_neg (by simpa using hq)] at h
   by_cases hk:k = t
   ·subst hk
    exfalso
    have:∀ (r:List (Nat × AV)),look (r.filter fun p=>q p.1) k = none:=by
     intro r
     induction r with
     | nil=>rfl
     | cons p r ih =>
      obtain ⟨k',u'⟩:=p
      by_cases hq':q k' = true
      ·rw [List.filter_cons_of_pos (by simpa using hq')]
       have:k' ≠ k:=fun e=>hq (e ▸ hq')
       simpa [look,zbi this] using ih
      ·rw [List.filter_cons_of_neg (by simpa using hq')]; exact ih
    rw [this r] at h
    cases h
   ·simp only [look,zbi hk,cond_false]
    exact zor q r t v h
def jt:Ty→Nat→Option (Nat × Ty)
 | .pair a _,0=>some (0,a)
 | .pair a b,i + 1=>(jt b i).map fun p=>(nc a + p.1,p.2)
 | _,_=>none
def qa:List Nat→Ty→Option (Nat × Ty)
 | [],τ=>some (0,τ)
 | i :: p,.st a=>(jt a i).bind fun q=>(qa p q.2).map fun r=>(q.1 + r.1,r.2)
 | i :: p,.arr n a=>if i < n then (qa p a).map fun r=>(i * nc a + r.1,r.2) else none
 | _ :: _,_=>none
theorem zuj {P:Program} {F:FH}:∀ {a:Ty} {x:a.I} {i:Nat} {v:AV} {cs:List Value},nth a x i = some v→Rep P F a x cs →
 ∃ o σ y c,jt a i = some (o,σ) ∧ v = .dat σ y ∧ Rep P F σ y c ∧ ∀ (j:Nat) (u:Value),c[j]? = some u→cs[o + j]? = some u:=by
 intro a
 induction a with
 | pair a b _ ihb =>
  rintro x i v cs h ⟨c,d,rfl,h1,h2⟩
  cases i with
  | zero =>
   simp only [nth,Option.some.injEq] at h
   subst h
   refine ⟨0,a,x.1,c,rfl,rfl,h1,fun j u hj=>?_⟩
   have:=(List.getElem?_eq_some_iff.1 hj).1
   rw [Nat.zero_add,List.getElem?_append_left this]; exact hj
  | succ i =>
   simp only [nth] at h
   obtain ⟨o,σ,y,c',h3,h4,h5,h6⟩:=ihb h h2
   have hl:=Rep.length h1
   refine ⟨nc a + o,σ,y,c',by simp [jt,h3],h4,h5,fun j u hj=>?_⟩
   rw [List.getElem?_append_right (by omega),show nc a + o + j - c.length = o + j by omega]
   exact h6 j u hj
 | _=>intro x i v cs h; simp [nth] at h
theorem zP {τ σ:Ty} {x:τ.I} {y:σ.I} (h:qK τ σ x = some y):∃ e:τ = σ,e ▸ x = y:=by
 unfold qK at h
 split at h
 ·rename_i e; exact ⟨e,by simpa using h⟩
 ·cases h
theorem zxs {P:Program} {F:FH}:∀ {a:Ty} {x x':a.I} {i:Nat} {σ:Ty} {y:σ.I} {cs c:List Value},zbf a x i σ y = some x'→Rep P F a x cs→Rep P F σ y c →
 ∃ o,jt a i = some (o,σ) ∧ Rep P F a x' (zB cs o c) ∧ o + c.length ≤ cs.length:=by
 intro a
 induction a with
 | pair a b _ ihb =>
  rintro x x' i σ y cs c h ⟨c0,d,rfl,h1,h2⟩ hc
  cases i with
  | zero =>
   simp only [zbf,Option.map_eq_some_iff] at h
   obtain ⟨z,hz,rfl⟩:=h
   obtain ⟨rfl,rfl⟩:=zP hz
   have hl:=Rep.length h1
   have hl':=Rep.length hc
   refine ⟨0,rfl,⟨c,d,?_,hc,h2⟩,by simp; omega⟩
   unfold zB
   simp [hl',← hl]
  | succ i =>
   simp only [zbf,Option.map_eq_some_iff] at h
   obtain ⟨z,hz,rfl⟩:=h
   obtain ⟨o,h3,h4,h5⟩:=ihb hz h2 hc
   have hl:=Rep.length h1
   refine ⟨nc a + o,by simp [jt,h3],⟨c0,zB d o c,?_,h1,h4⟩,by simp; omega⟩
   rw [← hl,yx]
 | _=>intro x x' i σ y cs c h; simp [zbf] at h
theorem zg9 {P:Program} {F:FH}:∀ {p:List Nat} {τ:Ty} {x:τ.I} {v:AV} {off:Nat} {σ:Ty} {cs:List Value},zW p τ x = some v→qa p τ = some (off,σ)→Rep P F τ x cs →
 ∃ y c,v = .dat σ y ∧ Rep P F σ y c ∧ ∀ (j:Nat) (u:Value),c[j]? = some u→cs[off + j]? = some u:=by
 intro p
 induction p with
 | nil =>
  intro τ x v off σ cs h ho hr
  simp only [zW,Option.some.injEq] at h
  simp only [qa,Option.some.injEq,Prod.mk.injEq] at ho
  obtain ⟨rfl,rfl⟩:=ho
  exact ⟨x,cs,h.symm,hr,fun j u hj=>by simpa using hj⟩
 | cons i p ih =>
  intro τ x v off σ cs h ho hr
  cases τ with
  | st a =>
   simp only [zW] at h
   split at h
   ·rename_i ρ z hz
    obtain ⟨o,ρ',z',c,h1,h2,h3,h4⟩:=zuj (a:=a) hz hr
    cases h2
    simp only [qa,h1,Option.bind_some,Option.map_eq_some_iff,Prod.mk.injEq,Prod.exists] at ho
    obtain ⟨o',σ',h5,h6,h7⟩:=ho
    subst h7
    obtain ⟨y,c',h8,h9,h10⟩:=ih h h5 h3
    refine ⟨y,c',h8,h9,fun j u hj=>?_⟩
    rw [← h6,Nat.add_assoc]
    exact h4 _ _ (h10 j u hj)
   ·cases h
  | arr n a =>
   simp only [zW] at h
   simp only [qa] at ho
   split at ho
   ·rename_i hin
    simp only [Option.map_eq_some_iff,Prod.mk.injEq,Prod.exists] at ho
    obtain ⟨o',σ',h5,h6,h7⟩:=ho
    subst h7
    obtain ⟨hlen,hl⟩:=hr
    have hx:x[i]? = some (x.getD i (ze a)):=by
     have:i < x.length:=by omega
     simp [List.getD,this]
    obtain ⟨c,hc1,hc2⟩:=RepL.get (n:=nc a) (fun x c h=>Rep.length (P:=P) (F:=F) (x:=x) h) _ _ hl i _ hx
    obtain ⟨y,c',h8,h9,h10⟩:=ih h h5 hc1
    refine ⟨y,c',h8,h9,fun j u hj=>?_⟩
    rw [← h6,Nat.add_assoc]
    exact hc2 _ _ (h10 j u hj)
   ·cases ho
  | _=>simp [zW] at h
theorem jN {cs new:List Value} {o:Nat} (h:o + new.length ≤ cs.length):(zB cs o new).length = cs.length:=by
 unfold zB; simp; omega
theorem zfM {cs new:List Value} {o:Nat} (h:o + new.length ≤ cs.length) (j:Nat) :
 (zB cs o new)[j]? = if o ≤ j ∧ j < o + new.length then new[j - o]? else cs[j]?:=by
 unfold zB
 rw [List.append_assoc]
 by_cases h1:j < o
 ·rw [List.getElem?_append_left (by simp; omega),if_neg (by omega),List.getElem?_take,if_pos h1]
 ·rw [List.getElem?_append_right (by simp; omega)]
  have ht:(cs.take o).length = o:=by simp; omega
  rw [ht]
  by_cases h2:j < o + new.length
  ·rw [List.getElem?_append_left (by omega),if_pos (by omega)]
  ·rw [List.getElem?_append_right (by omega),if_neg (by omega),List.getElem?_drop]
   congr 1
   omega
theorem zb8 {cs c new:List Value} {o off:Nat} (h:∀ (j:Nat) (u:Value),c[j]? = some u→cs[o + j]? = some u) (hlen:off + new.length ≤ c.length) (ho:o + c.length ≤ cs.length) :
 zB cs o (zB c off new) = zB cs (o + off) new:=by
 apply List.ext_getElem?
 intro j
 have hl:=jN hlen
 rw [zfM (cs:=cs) (new:=zB c off new) (o:=o) (by omega),zfM (cs:=cs) (new:=new) (o:=o + off) (by omega),hl]
 by_cases h1:o ≤ j ∧ j < o + c.length
 ·rw [if_pos h1,zfM hlen]
  by_cases h2:off ≤ j - o ∧ j - o < off + new.length
  ·rw [if_pos h2,if_pos (by omega)]
   congr 1
   omega
  ·rw [if_neg h2,if_neg (by omega)]
   have hj:j - o < c.length:=by omega
   have:=h (j - o) c[j - o] (List.getElem?_eq_getElem hj)
   rw [List.getElem?_eq_getElem hj,← this]
   congr 1
   omega
 ·rw [if_neg h1,if_neg (by omega)]
theorem zjq {P:Program} {F:FH}:∀ {p:List Nat} {τ:Ty} {x x':τ.I} {off:Nat} {σ ρ:Ty} {y:ρ.I} {cs c:List Value},j6 p τ x ρ y = some x'→qa p τ = some (off,σ)→Rep P F τ x cs→Rep P F ρ y c →
 ρ = σ ∧ Rep P F τ x' (zB cs off c) ∧ off + c.length ≤ cs.length:=by
 intro p
 induction p with
 | nil =>
  intro τ x x' off σ ρ y cs c h ho hr hc
  simp only [j6] at h
  simp only [qa,Option.some.injEq,Prod.mk.injEq] at ho
  obtain ⟨rfl,rfl⟩:=ho
  obtain ⟨rfl,rfl⟩:=zP h
  have hl:=Rep.length hr
  have hl':=Rep.length hc
  refine ⟨rfl,?_,by omega⟩
  have:zB cs 0 c = c:=by unfold zB; simp [hl',← hl]
  rw [this]; exact hc
 | cons i p ih =>
  intro τ x x' off σ ρ y cs c h ho hr hc
  cases τ with
  | st a =>
   simp only [j6] at h
   split at h
   ·rename_i ρ' z hz
    obtain ⟨o,ρ'',z',c',h1,h2,h3,h4⟩:=zuj (a:=a) hz hr
    cases h2
    simp only [qa,h1,Option.bind_some,Option.map_eq_some_iff,Prod.mk.injEq,Prod.exists] at ho
    obtain ⟨o',σ',h5,h6,h7⟩:=ho
    subst h7
    simp only [Option.bind_eq_some_iff] at h
    obtain ⟨z',hz',hs⟩:=h
    obtain ⟨e1,e2,e3⟩:=ih hz' h5 h3 hc
    obtain ⟨o2,e4,e5,e6⟩:=zxs (P:=P) (F:=F) (a:=a) hs hr e2
    rw [h1] at e4
    obtain ⟨rfl,-⟩:=by simpa using e4
    rw [jN (by omega)] at e6
    refine ⟨e1,?_,by omega⟩
    rw [← h6,← zb8 h4 e3 e6]
    exact e5
   ·cases h
  | arr n a =>
   simp only [j6,Option.map_eq_some_iff] at h
   simp only [qa] at ho
   split at ho
   ·rename_i hin
    simp only [Option.map_eq_some_iff,Prod.mk.injEq,Prod.exists] at ho
    obtain ⟨o',σ',h5,h6,h7⟩:=ho
    subst h7
    obtain ⟨hlen,hl⟩:=hr
    have hx:x[i]? = some (x.getD i (ze a)):=by
     have:i < x.length:=by omega
     simp [List.getD,this]
    have hn:∀ (x:a.I) c,(RR P a).1 F x c→c.length = nc a:=fun x c h=>Rep.length (P:=P) (F:=F) (x:=x) h
    obtain ⟨c1,hc1,hc2⟩:=RepL.get (n:=nc a) hn _ _ hl i _ hx
    obtain ⟨z,hz,rfl⟩:=h
    obtain ⟨e1,e2,e3⟩:=ih hz h5 hc1 hc
    have hl1:=hn _ _ hc1
    have hl2:=hn _ _ e2
    have hL:=RepL.length hn _ _ hl
    have hb:i * nc a + nc a ≤ cs.length:=by
     rw [hL,hlen]
     calc i * nc a + nc a = (i + 1) * nc a:=by rw [Nat.add_mul]; omega
      _ ≤ n * nc a:=Nat.mul_le_mul_right _ (by omega)
    refine ⟨e1,⟨by simpa using hlen,?_⟩,by omega⟩
    rw [← h6,← zb8 hc2 e3 (by omega)]
    exact RepL.set hn _ _ hl i z _ (by omega) e2
   ·cases ho
  | _=>simp [j6] at h
end Go.Ev
end
section
namespace Go.Ev
open Go.RowKit
structure MM where
 f:Nat→Option (Nat × Nat)
 d:Nat→Nat→List Nat→Option (Nat × Nat)
instance:CoeFun MM fun _=>Nat→Option (Nat × Nat):=⟨MM.f⟩
def MM.emp:MM:=⟨fun _=>none,fun _ _ _=>none⟩
def rowTL:Obj→Option (Ty × Nat)
 | .row τ xs _=>some (τ,xs.length)
 | .drow τ xs _=>some (τ,xs.length)
 | _=>none
def bxT:AV→Option Ty
 | .dat τ _=>some τ
 | .fld a _=>some (.st a)
 | _=>none
def zbS (p:List Nat) (τ:Ty) (x:τ.I):Option (Ty × Nat):=match zW p τ x with
 | some (.dat (.sl σ) ys)=>some (σ,List.length ys)
 | _=>none
def zsG (m:MM) (id i:Nat) (p:List Nat) (σ:Ty) (len:Nat) (v:Value):Prop:=match m.d id i p with
 | some (b,n)=>∃ cap,n = cap * nc σ ∧ len ≤ cap ∧ v = .slice (some ⟨b,0,none⟩) len cap
 | none=>len = 0 ∧ ∃ ad,v = .slice ad 0 0
def zb9 (h:List Obj) (m:MM) (id:Nat) (p:List Nat) (v:Value):Prop :=
 atN h id = some .gone ∨ ∃ b n o off,m id = some (b,n) ∧ atN h id = some o ∧ v = .pointer (some ⟨b,off,none⟩) ∧
  (match o with
   | .bx u _=>(match bxT u with
    | some τ=>∃ σ,qa p τ = some (off,σ)
    | none=>p = [] ∧ off = 0)
   | _=>False)
def zDl:Nat→Ty→Bool
 | 0,.unit=>true
 | n + 1,.pair (.fn _ _) b=>zDl n b
 | _,_=>false
def zF (P:Program) (h:List Obj) (m:MM) (F:FH):AV→Value→Prop
 | .dat τ x,v=>zV P F τ x v
 | .clip τ xs,v=>∃ ad,v = .slice ad xs.length xs.length ∧ (xs ≠ []→∃ d cc,ad = some d ∧ At F d cc ∧ RepL (Rep P F τ) xs cc)
 | .bp id p,v=>zb9 h m id p v
 | .clo f l,v=>∃ caps:Array Value,v = .func (.func f) #[] caps ∧ caps.size = l.length ∧ ∀ (i:Nat) (id:Nat),l[i]? = some id→∃ u,caps[i]? = some u ∧ zb9 h m id [] u
 | .gs id k,v=>atN h id = some .gone ∨ ∃ b n a u fz,m id = some (b,n) ∧ atN h id = some (.bx u fz) ∧ bxT u = some (.st a) ∧ zDl k a = true ∧ v = .slice (some ⟨b,0,none⟩) k k
 | .rp id i p,v=>atN h id = some .gone ∨ ∃ b n o τ len off σ,m id = some (b,n) ∧ atN h id = some o ∧ rowTL o = some (τ,len) ∧ i < len ∧ qa p τ = some (off,σ) ∧ v = .pointer (some ⟨b,i * nc τ + off,none⟩)
 | .ow id,v=>atN h id = some .gone ∨ ∃ o τ len,atN h id = some o ∧ rowTL o = some (τ,len) ∧
  (match m id with
   | some (b,n)=>∃ cap,n = cap * nc τ ∧ len ≤ cap ∧ v = .slice (some ⟨b,0,none⟩) len cap
   | none=>len = 0 ∧ ∃ ad,v = .slice ad 0 0)
 | .om id,v=>atN h id = some .gone ∨ ∃ b n κ σ es,m id = some (b,n) ∧ atN h id = some (.mp κ σ es) ∧ v = .map (some b)
 | .ds id i p,v=>∃ o,atN h id = some o ∧ o ≠ .hole ∧ ∀ τ xs k,o = .drow τ xs k→i < k ∧ ∃ σ len,zbS p τ (xs.getD i (ze τ)) = some (σ,len) ∧ zsG m id i p σ len v
 | .dp id i p j q,v=>∃ o,atN h id = some o ∧ o ≠ .hole ∧ ∀ τ xs k,o = .drow τ xs k→i < k ∧ ∃ σ len off ρ b n,zbS p τ (xs.getD i (ze τ)) = some (σ,len) ∧ j < len ∧ m.d id i p = some (b,n) ∧ qa q σ = some (off,ρ) ∧ v = .pointer (some ⟨b,j * nc σ + off,none⟩)
 | .tup _,_=>False
 | .fld _ _,_=>False
 | .dead,_=>True
def vR (P:Program) (h:List Obj) (m:MM) (F:FH) (t:Ty):AV→List Value→Prop
 | .dat τ x,cs=>τ = t ∧ Rep P F τ x cs
 | .ow id,cs=>∃ σ u,t = .sl σ ∧ cs = [u] ∧ zF P h m F (.ow id) u ∧ (atN h id = some .gone ∨ zbg h id = some σ) ∧ ∃ ad l c,u = .slice ad l c
 | .ds id i p,cs=>∃ σ u,t = .sl σ ∧ cs = [u] ∧ zF P h m F (.ds id i p) u ∧ ∃ ad l c,u = .slice ad l c
 | .clo f l,cs=>∃ x y u,t = .fn x y ∧ cs = [u] ∧ zF P h m F (.clo f l) u
 | _,_=>False
def zX (P:Program) (h:List Obj) (m:MM) (F:FH):Ty→List AV→List Value→Prop
 | .unit,[],cs=>cs = []
 | .pair t b,v :: vs,cs=>∃ c d,cs = c ++ d ∧ vR P h m F t v c ∧ zX P h m F b vs d
 | _,_,_=>False
def zE (P:Program) (h:List Obj) (m:MM) (F:FH):AV→Value→Prop
 | .fld a vs,v=>∃ cs:Array Value,v = .agg cs ∧ zX P h m F a vs cs.toList
 | v,u=>zF P h m F v u
def zh (P:Program) (h:List Obj) (m:MM) (F:FH):AV→Value→Prop
 | .tup vs,v=>∃ arr:Array Value,v = .tuple arr ∧ arr.size = vs.length ∧ ∀ (i:Nat) (u:AV),vs[i]? = some u→∃ x,arr[i]? = some x ∧ zE P h m F u x
 | v,u=>zE P h m F v u
def zdf (P:Program) (F:FH) (κ σ:Ty) (es:List (κ.I × σ.I)) (ents:List MapEntry):Prop :=
 es.length = ents.length ∧ ∀ (i:Nat) (p:κ.I × σ.I) (e:MapEntry),es[i]? = some p→ents[i]? = some e→zV P F κ p.1 e.key ∧ zV P F σ p.2 e.val
def zHz (F:FH) (b:Nat) (cs:Array Value) (fr:Nat × Nat):Bool→Prop
 | true=>F b = some cs
 | false=>F b = none ∧ fr = (0,0)
def zkP (P:Program) (F:FH) (w:World) (b n:Nat) (R:List Value→Prop):Prop :=
 ∃ el cs c d,w.heap[b]? = some (.cells cs el (0,0)) ∧ cs.size = n ∧ cs.toList = c ++ d ∧ F b = none ∧ R c
def DSl (P:Program) (F:FH) (w:World) (o:Option (Nat × Nat)) (σ:Ty) (xs:List σ.I) (cs:List Value):Prop:=match o with
 | some (b,n)=>∃ cap,n = cap * nc σ ∧ xs.length ≤ cap ∧ cs = [.slice (some ⟨b,0,none⟩) xs.length cap] ∧ zkP P F w b n (RepL (Rep P F σ) xs)
 | none=>xs = [] ∧ ∃ ad,cs = [.slice ad 0 0]
def DFl (P:Program) (F:FH) (w:World) (o:Option (Nat × Nat)):(τ:Ty)→τ.I→List Value→Prop
 | .sl σ,xs,cs=>DSl P F w o σ xs cs
 | τ,x,cs=>Rep P F τ x cs
def DC (P:Program) (F:FH) (w:World) (D:List Nat→Option (Nat × Nat)):(a:Ty)→Nat→a.I→List Value→Prop
 | .pair a b,i,x,cs=>∃ c d,cs = c ++ d ∧ DFl P F w (D [i]) a x.1 c ∧ DC P F w D b (i + 1) x.2 d
 | .unit,_,_,cs=>cs = []
 | _,_,_,_=>False
def DR (P:Program) (F:FH) (w:World) (D:List Nat→Option (Nat × Nat)):(τ:Ty)→τ.I→List Value→Prop
 | .sl σ,xs,cs=>DSl P F w (D []) σ xs cs
 | .st a,x,cs=>DC P F w D a 0 x cs
 | _,_,_=>False
def z5 {α:Type} (R:Nat→α→List Value→Prop):Nat→List α→List Value→Prop
 | _,[],cs=>cs = []
 | i,x :: xs,cs=>∃ c d,cs = c ++ d ∧ R i x c ∧ z5 R (i + 1) xs d
def DE (P:Program) (F:FH) (w:World) (D:Nat→List Nat→Option (Nat × Nat)) (τ:Ty) (k i:Nat) (x:τ.I) (cs:List Value):Prop :=
 if i < k then DR P F w (D i) τ x cs else Rep P F τ x cs
def RC (P:Program) (F:FH) (w:World) (D:Nat→List Nat→Option (Nat × Nat)) (τ:Ty) (k:Option Nat) (xs:List τ.I) (c:List Value):Prop:=match k with
 | none=>RepL (Rep P F τ) xs c
 | some n=>z5 (DE P F w D τ n) 0 xs c
def zv0 (P:Program) (F:FH) (w:World) (M:Option (Nat × Nat)) (D:Nat→List Nat→Option (Nat × Nat)) (σ:Ty) (xs:List σ.I) (u:Value):Prop :=
 (∀ j p b n,D j p = some (b,n)→σ.deep = true ∧ j < xs.length) ∧ match M with
 | some (b,n)=>∃ cap,n = cap * nc σ ∧ xs.length ≤ cap ∧ u = .slice (some ⟨b,0,none⟩) xs.length cap ∧ zkP P F w b n (RC P F w D σ (bif σ.deep then some xs.length else none) xs)
 | none=>xs = [] ∧ ∃ ad,u = .slice ad 0 0
def zhV (P:Program) (F:FH) (w:World) (M:Nat→Option (Nat × Nat)) (D:Nat→Nat→List Nat→Option (Nat × Nat)):(a:Ty)→Nat→a.I→List Value→Prop
 | .pair (.sl σ) b,i,x,cs=>∃ u d,cs = u :: d ∧ zv0 P F w (M i) (D i) σ x.1 u ∧ zhV P F w M D b (i + 1) x.2 d
 | .pair a b,i,x,cs=>∃ c d,cs = c ++ d ∧ Rep P F a x.1 c ∧ zhV P F w M D b (i + 1) x.2 d
 | .unit,_,_,cs=>cs = []
 | _,_,_,_=>False
structure zDm (F:FH) (w:World) (lo:Nat) (M:Nat→Option (Nat × Nat)) (D:Nat→Nat→List Nat→Option (Nat × Nat)):Prop where
 rM:∀ f b n,M f = some (b,n)→lo ≤ b ∧ b < w.heap.size ∧ F b = none
 rD:∀ f j p b n,D f j p = some (b,n)→lo ≤ b ∧ b < w.heap.size ∧ F b = none
 iM:∀ f f' b n n',M f = some (b,n)→M f' = some (b,n')→f = f'
 iD:∀ f j p b n f' j' p' n',D f j p = some (b,n)→D f' j' p' = some (b,n')→f = f' ∧ j = j' ∧ p = p'
 dis:∀ f b n f' j p n',M f = some (b,n)→D f' j p ≠ some (b,n')
def z6 (P:Program) (h:List Obj) (m:MM) (F:FH) (w:World) (i:Nat):Obj→Prop
 | .bx v fz=>∃ b n el fr cs,m i = some (b,n) ∧ w.heap[b]? = some (.cells cs el fr) ∧
  (match v with
   | .dat τ x=>Rep P F τ x cs.toList
   | .fld a vs=>zX P h m F a vs cs.toList
   | .clip τ xs=>∃ u,cs = #[u] ∧ zE P h m F (.clip τ xs) u
   | .ow id=>∃ u,cs = #[u] ∧ zE P h m F (.ow id) u
   | .om id=>∃ u,cs = #[u] ∧ zE P h m F (.om id) u
   | .dead=>cs.size = 1
   | _=>False) ∧
  zHz F b cs fr fz
 | .row τ xs fz=>match m i with
  | some (b,n)=>∃ el fr cs c d,w.heap[b]? = some (.cells cs el fr) ∧ cs.size = n ∧ cs.toList = c ++ d ∧ RepL (Rep P F τ) xs c ∧
   zHz F b cs fr fz
  | none=>xs = []
 | .drow τ xs k=>k ≤ xs.length ∧ τ.deep = true ∧ (match m i with
  | some (b,n)=>zkP P F w b n (z5 (DE P F w (m.d i) τ k) 0 xs)
  | none=>xs = [])
 | .mp κ σ es=>∃ b n ents clock,m i = some (b,n) ∧ w.heap[b]? = some (.map ents clock) ∧ zdf P F κ σ es ents.toList ∧ F b = none
 | .gone=>True
 | .hole=>m i = none
def Obj.deepAt (j:Nat):Obj→Bool
 | .drow _ _ k=>decide (j < k)
 | _=>false
structure Up where
 n:Nat
 up:List (AV × Value)
 lo:FH
instance:Coe Up Nat:=⟨Up.n⟩
structure Rel (P:Program) (N:Up) (F0:FH) (w0:World) (st:St) (m:MM) (F:FH) (a:Act) (w:World):Prop where
 nt:N ≤ a.tmps.size
 fr:∀ t v,look st.fr t = some v→zh P st.h m F v (a.tmps.getD t undef)
 up:∀ v u,(v,u) ∈ N.up→zh P st.h m F v u
 lo:N.lo.le F
 obs:∀ i o,atN st.h i = some o→z6 P st.h m F w i o
 inj:∀ i j b n n',m i = some (b,n)→m j = some (b,n')→i = j
 rng:∀ i b n,m i = some (b,n)→i < st.h.length ∧ w0.heap.size ≤ b ∧ b < w.heap.size
 dok:∀ i j p b n,m.d i j p = some (b,n)→(∃ o,atN st.h i = some o ∧ o.deepAt j = true) ∧ w0.heap.size ≤ b ∧ b < w.heap.size ∧ F b = none ∧ ∀ i' n',m i' ≠ some (b,n')
 din:∀ i j p b n i' j' p' n',m.d i j p = some (b,n)→m.d i' j' p' = some (b,n')→i = i' ∧ j = j' ∧ p = p'
 fok:F.ok w
 gro:F0.grow F w0.heap.size
 bel:Below w0.heap.size w0 w
 dfr:a.defers = []
theorem zkP.mono {P:Program} {F F':FH} {w w':World} {b n:Nat} {R R':List Value→Prop} (hR:∀ c,R c→R' c) (hw:w'.heap[b]? = w.heap[b]?) (hF:F b = none→F' b = none):zkP P F w b n R→zkP P F' w' b n R'
 | ⟨el,cs,c,d,h1,h2,h3,h4,h5⟩=>⟨el,cs,c,d,by rw [hw]; exact h1,h2,h3,hF h4,hR c h5⟩
theorem DSl.mono {P:Program} {F F':FH} {w w':World} {o:Option (Nat × Nat)} {σ:Ty} {xs:List σ.I} {cs:List Value} (hF:F.le F') (hw:∀ b n,o = some (b,n)→w'.heap[b]? = w.heap[b]? ∧ (F b = none→F' b = none)) (h:DSl P F w o σ xs cs):DSl P F' w' o σ xs cs:=by
 unfold DSl at h ⊢
 cases o with
 | none=>exact h
 | some bn =>
  obtain ⟨b,n⟩:=bn
  obtain ⟨cap,h1,h2,h3,h4⟩:=h
  have:=hw _ _ rfl
  exact ⟨cap,h1,h2,h3,h4.mono (fun c hc=>RepL.mono (fun _ _ h=>Rep.mono hF h) _ _ hc) this.1 this.2⟩
theorem DFl.mono {P:Program} {F F':FH} {w w':World} {o:Option (Nat × Nat)} {τ:Ty} {x:τ.I} {cs:List Value} (hF:F.le F') (hw:∀ b n,o = some (b,n)→w'.heap[b]? = w.heap[b]? ∧ (F b = none→F' b = none)) (h:DFl P F w o τ x cs):DFl P F' w' o τ x cs:=by
 cases τ with
 | sl σ=>exact DSl.mono hF hw h
 | unit=>exact (Rep.mono hF (show Rep P F .unit x cs from h):Rep P F' .unit x cs)
 | bool=>exact (Rep.mono hF (show Rep P F .bool x cs from h):Rep P F' .bool x cs)
 | int k=>exact (Rep.mono hF (show Rep P F (.int k) x cs from h):Rep P F' (.int k) x cs)
 | str=>exact (Rep.mono hF (show Rep P F .str x cs from h):Rep P F' .str x cs)
 | pair a b=>exact (Rep.mono hF (show Rep P F (.pair a b) x cs from h):Rep P F' (.pair a b) x cs)
 | st a=>exact (Rep.mono hF (show Rep P F (.st a) x cs from h):Rep P F' (.st a) x cs)
 | arr n a=>exact (Rep.mono hF (show Rep P F (.arr n a) x cs from h):Rep P F' (.arr n a) x cs)
 | ptr a=>exact (Rep.mono hF (show Rep P F (.ptr a) x cs from h):Rep P F' (.ptr a) x cs)
 | fn a b=>exact (Rep.mono hF (show Rep P F (.fn a b) x cs from h):Rep P F' (.fn a b) x cs)
theorem zLB (P:Program) {F F':FH} {w w':World} {D D':List Nat→Option (Nat × Nat)} (hF:F.le F') (hD:∀ p,D' p = D p) (hw:∀ p b n,D p = some (b,n)→w'.heap[b]? = w.heap[b]? ∧ (F b = none→F' b = none)) :
 ∀ (a:Ty) (i:Nat) (x:a.I) (cs:List Value),DC P F w D a i x cs→DC P F' w' D' a i x cs:=by
 intro a
 induction a with
 | pair a b _ ihb=>intro i x cs ⟨c,d,e,h1,h2⟩; exact ⟨c,d,e,by rw [hD]; exact h1.mono hF fun b n hb=>hw _ b n hb,ihb _ _ _ h2⟩
 | unit=>intro i x cs h; exact h
 | _=>intro i x cs h; exact h.elim
theorem zlQ (P:Program) {F F':FH} {w w':World} {D D':List Nat→Option (Nat × Nat)} (hF:F.le F') (hD:∀ p,D' p = D p) (hw:∀ p b n,D p = some (b,n)→w'.heap[b]? = w.heap[b]? ∧ (F b = none→F' b = none)) :
 ∀ (τ:Ty) (x:τ.I) (cs:List Value),DR P F w D τ x cs→DR P F' w' D' τ x cs:=by
 intro τ x cs h
 cases τ with
 | sl σ=>simp only [DR] at h ⊢; rw [hD]; exact DSl.mono hF (fun b n hb=>hw _ b n hb) h
 | st a=>exact zLB P hF hD hw a 0 x cs h
 | _=>exact h.elim
theorem z5.mono {α:Type} {R R':Nat→α→List Value→Prop}:∀ {xs:List α} {i:Nat} {cs:List Value},(∀ j x c,i ≤ j→j < i + xs.length→R j x c→R' j x c)→z5 R i xs cs→z5 R' i xs cs
 | [],_,_,_,e=>e
 | _ :: xs,i,_,h,⟨c,d,e,h1,h2⟩=>⟨c,d,e,h _ _ _ (Nat.le_refl i) (by simp) h1,z5.mono (fun j x c h3 h4=>h j x c (by omega) (by simp only [List.length_cons]; omega)) h2⟩
theorem DE.mono {P:Program} {F F':FH} {w w':World} {D D':Nat→List Nat→Option (Nat × Nat)} {τ:Ty} {k i:Nat} {x:τ.I} {cs:List Value} (hF:F.le F') (hD:∀ p,D' i p = D i p)
 (hw:∀ p b n,D i p = some (b,n)→w'.heap[b]? = w.heap[b]? ∧ (F b = none→F' b = none)) (h:DE P F w D τ k i x cs):DE P F' w' D' τ k i x cs:=by
 unfold DE at h ⊢
 by_cases hk:i < k
 ·rw [if_pos hk] at h ⊢; exact zlQ P hF hD hw τ _ _ h
 ·rw [if_neg hk] at h ⊢; exact Rep.mono hF h
def Obj.like1:Obj→Obj→Prop
 | .bx v _,.bx v' _=>bxT v = bxT v'
 | .mp κ σ _,.mp κ' σ' _=>κ = κ' ∧ σ = σ'
 | .drow τ xs k,.drow τ' xs' k'=>rowTL (.drow τ xs k) = rowTL (.drow τ' xs' k') ∧ k ≤ k' ∧ ∃ e:τ = τ',∀ i p,i < k→zbS p τ' (xs'.getD i (ze τ')) = zbS p τ (xs.getD i (ze τ))
 | .row τ xs f,o'=>(∃ xs' f',o' = .row τ xs' f') ∧ rowTL (.row τ xs f) = rowTL o'
 | .drow τ xs k,.row τ' xs' f'=>rowTL (.drow τ xs k) = rowTL (.row τ' xs' f')
 | .hole,.hole=>True
 | _,_=>False
def Obj.like (o o':Obj):Prop:=o' = .gone ∨ o.like1 o'
theorem Obj.like1.rowTL {o o':Obj} (h:o.like1 o'):rowTL o = rowTL o':=by
 cases o <;> cases o' <;> first | exact h.elim | rfl | exact h.2 | exact h.1 | exact h | skip
 all_goals (first | exact h.2 | exact h.1 | exact h)
theorem Obj.like1.trans {o o1 o2:Obj} (h:o.like1 o1) (h':o1.like1 o2):o.like1 o2:=by
 cases o with
 | gone=>cases o1 <;> exact h.elim
 | hole=>cases o1 with
  | hole=>exact h'
  | _=>exact h.elim
 | bx v f=>cases o1 with
  | bx v1 f1=>cases o2 with
   | bx v2 f2=>exact (show bxT v = bxT v1 from h).trans h'
   | _=>exact h'.elim
  | _=>exact h.elim
 | row τ xs f =>
  obtain ⟨⟨xs1,f1,rfl⟩,h2⟩:=h
  obtain ⟨⟨xs2,f2,rfl⟩,h3⟩:=h'
  exact ⟨⟨xs2,f2,rfl⟩,h2.trans h3⟩
 | drow τ xs k=>cases o1 with
  | drow τ1 xs1 k1=>cases o2 with
   | drow τ2 xs2 k2 =>
    obtain ⟨e1,e2,e3,e4⟩:=h
    obtain ⟨g1,g2,g3,g4⟩:=h'
    exact ⟨e1.trans g1,Nat.le_trans e2 g2,e3.trans g3,fun i p hi=>(g4 i p (by omega)).trans (e4 i p hi)⟩
   | row τ2 xs2 f2=>exact Eq.trans (show Go.Ev.rowTL (.drow τ xs k) = Go.Ev.rowTL (.drow τ1 xs1 k1) from h.1) h'
   | _=>exact h'.elim
  | row τ1 xs1 f1 =>
   obtain ⟨⟨xs2,f2,rfl⟩,h3⟩:=h'
   exact (show Go.Ev.rowTL _ = Go.Ev.rowTL _ from h).trans h3
  | _=>exact h.elim
 | mp κ σ es=>cases o1 with
  | mp κ1 σ1 es1=>cases o2 with
   | mp κ2 σ2 es2=>exact ⟨h.1.trans h'.1,h.2.trans h'.2⟩
   | _=>exact h'.elim
  | _=>exact h.elim
theorem Obj.like.trans {o o1 o2:Obj} (h:o.like o1) (h':o1.like o2):o.like o2:=by
 rcases h' with h' | h'
 ·exact .inl h'
 ·rcases h with rfl | h
  ·cases o2 <;> first | exact h'.elim
  ·exact .inr (h.trans h')
def HLe (h h':List Obj):Prop:=∀ i o,atN h i = some o→∃ o',atN h' i = some o' ∧ o.like o'
theorem Obj.like.refl (o:Obj):o.like o:=by
 cases o with
 | bx v f=>right; exact rfl
 | row τ xs f=>right; exact ⟨⟨xs,f,rfl⟩,rfl⟩
 | drow τ xs k=>right; exact ⟨rfl,Nat.le_refl _,rfl,fun _ _ _=>rfl⟩
 | mp κ σ es=>right; simp [Obj.like1]
 | gone=>exact .inl rfl
 | hole=>right; trivial
theorem HLe.refl (h:List Obj):HLe h h:=fun i o ho=>⟨o,ho,.refl o⟩
theorem HLe.trans {h h' h'':List Obj} (a:HLe h h') (b:HLe h' h''):HLe h h'':=fun i o ho=>let ⟨o1,h1,l1⟩:=a i o ho; let ⟨o2,h2,l2⟩:=b i o1 h1; ⟨o2,h2,l1.trans l2⟩
theorem HLe.append (h k:List Obj):HLe h (h ++ k):=fun i o ho=>⟨o,by
 rw [z7] at ho ⊢
 rw [List.getElem?_append_left (List.getElem?_eq_some_iff.1 ho).1]; exact ho,.refl o⟩
theorem HLe.set {h:List Obj} {i:Nat} {o o':Obj} (ho:atN h i = some o) (hl:o.like o'):HLe h (zf h i o'):=fun j u hu=>by
 rw [qS,z7] at *
 by_cases e:i = j
 ·subst e
  rw [ho] at hu; cases hu
  exact ⟨o',by rw [List.getElem?_set_self (List.getElem?_eq_some_iff.1 ho).1],hl⟩
 ·exact ⟨u,by rw [List.getElem?_set_ne e]; exact hu,.refl u⟩
def zkj (h:List Obj) (i j:Nat):Bool:=match atN h i with | some o=>o.deepAt j | none=>false
def jc (h':List Obj) (m m':MM) (i:Nat) (o:Obj):Prop:=m' i = m i ∧ ∀ j p,o.deepAt j = true→zkj h' i j = true→m'.d i j p = m.d i j p
theorem zhy {o':Obj} (h:Obj.like .gone o'):o' = .gone:=by
 rcases h with rfl | h
 ·rfl
 ·cases o' <;> exact h.elim
theorem zA5 {o o':Obj} (h:o.like o') (hn:o ≠ .hole):o' ≠ .hole:=by
 rintro rfl
 rcases h with h | h
 ·cases h
 ·cases o <;> first | exact hn rfl | exact h.elim | (obtain ⟨⟨_,_,h7⟩,_⟩:=h; cases h7)
theorem zb9.mono_on {h h':List Obj} {m m':MM} {id:Nat} {p:List Nat} {u:Value} (hh:∀ o,atN h id = some o→∃ o',atN h' id = some o' ∧ o.like o')
 (hm:∀ o,atN h id = some o→atN h' id ≠ some .gone→m' id = m id) (hr:zb9 h m id p u):zb9 h' m' id p u:=by
 rcases hr with hg | ⟨b,n,o,off,h1,h2,h3,h4⟩
 ·obtain ⟨o',h5,h6⟩:=hh _ hg
  rw [zhy h6] at h5
  exact .inl h5
 obtain ⟨o',h5,h6⟩:=hh _ h2
 rcases h6 with rfl | h6
 ·exact .inl h5
 have hng:atN h' id ≠ some .gone:=by intro e; rw [h5] at e; cases e; cases o <;> first | exact h6.elim | (obtain ⟨⟨_,_,h7⟩,_⟩:=h6; cases h7)
 rw [← hm _ h2 hng] at h1
 refine .inr ⟨b,n,o',off,h1,h5,h3,?_⟩
 cases o with
 | bx v f=>cases o' with
  | bx v' f' =>
   have e:bxT v = bxT v':=h6
   simp only at h4 ⊢
   rw [← e]; exact h4
  | _=>exact h6.elim
 | _=>exact h4.elim
theorem zuk {f:Nat} {l:List Nat} {i id:Nat} (h:l[i]? = some id):(AV.clo f l).has1 id = true:=List.any_eq_true.2 ⟨id,List.mem_of_getElem? h,Nat.beq_refl id⟩
theorem zF.mono_on {P:Program} {h h':List Obj} {m m':MM} {F F':FH} {v:AV} {u:Value} (hh:∀ i o,v.has1 i = true→atN h i = some o→∃ o',atN h' i = some o' ∧ o.like o')
 (hm:∀ i o,v.has1 i = true→atN h i = some o→atN h' i ≠ some .gone→jc h' m m' i o) (hF:F.le F') (hr:zF P h m F v u):zF P h' m' F' v u:=by
 cases v with
 | dat τ x=>exact zV.mono hF hr
 | clip τ xs=>obtain ⟨ad,e,h1⟩:=hr; exact ⟨ad,e,fun hx=>let ⟨d,cc,e1,e2,e3⟩:=h1 hx; ⟨d,cc,e1,e2.mono hF,RepL.mono (fun _ _ h=>Rep.mono hF h) _ _ e3⟩⟩
 | bp id p=>exact zb9.mono_on (fun o ho=>hh _ _ (Nat.beq_refl _) ho) (fun o ho hg=>(hm _ _ (Nat.beq_refl _) ho hg).1) hr
 | clo f l =>
  obtain ⟨caps,e1,e2,h1⟩:=hr
  refine ⟨caps,e1,e2,fun i id hi=>?_⟩
  obtain ⟨u,hu,hb⟩:=h1 i id hi
  exact ⟨u,hu,hb.mono_on (fun o ho=>hh _ _ (zuk hi) ho) (fun o ho hg=>(hm _ _ (zuk hi) ho hg).1)⟩
 | gs id k =>
  rcases hr with hg | ⟨b,n,a,u,fz,h1,h2,h3,h4,h5⟩
  ·obtain ⟨o',h5,h6⟩:=hh _ _ (Nat.beq_refl _) hg
   rw [zhy h6] at h5
   exact .inl h5
  obtain ⟨o',h7,h8⟩:=hh _ _ (Nat.beq_refl _) h2
  rcases h8 with rfl | h8
  ·exact .inl h7
  cases o' with
  | bx u' fz'=>exact .inr ⟨b,n,a,u',fz',by rw [(hm _ _ (Nat.beq_refl _) h2 (by rw [h7]; simp)).1]; exact h1,h7,by rw [← (show bxT u = bxT u' from h8)]; exact h3,h4,h5⟩
  | _=>exact h8.elim
 | rp id i p =>
  rcases hr with hg | ⟨b,n,o,τ,len,off,σ,h1,h2,h3,h4,h5,h6⟩
  ·obtain ⟨o',h5,h6⟩:=hh _ _ (Nat.beq_refl _) hg
   rw [zhy h6] at h5
   exact .inl h5
  obtain ⟨o',h7,h8⟩:=hh _ _ (Nat.beq_refl _) h2
  rcases h8 with rfl | h8
  ·exact .inl h7
  have hng:atN h' id ≠ some .gone:=by intro e; rw [h7] at e; cases e; have:=h8.rowTL; rw [h3] at this; cases this
  exact .inr ⟨b,n,o',τ,len,off,σ,by rw [(hm _ _ (Nat.beq_refl _) h2 hng).1]; exact h1,h7,h8.rowTL ▸ h3,h4,h5,h6⟩
 | ow id =>
  rcases hr with hg | ⟨o,τ,len,h2,h3,h4⟩
  ·obtain ⟨o',h5,h6⟩:=hh _ _ (Nat.beq_refl _) hg
   rw [zhy h6] at h5
   exact .inl h5
  obtain ⟨o',h7,h8⟩:=hh _ _ (Nat.beq_refl _) h2
  rcases h8 with rfl | h8
  ·exact .inl h7
  have hng:atN h' id ≠ some .gone:=by intro e; rw [h7] at e; cases e; have:=h8.rowTL; rw [h3] at this; cases this
  refine .inr ⟨o',τ,len,h7,h8.rowTL ▸ h3,?_⟩
  rw [(hm _ _ (Nat.beq_refl _) h2 hng).1]
  exact h4
 | om id =>
  rcases hr with hg | ⟨b,n,κ,σ,es,h1,h2,h3⟩
  ·obtain ⟨o',h5,h6⟩:=hh _ _ (Nat.beq_refl _) hg
   rw [zhy h6] at h5
   exact .inl h5
  obtain ⟨o',h6,h7⟩:=hh _ _ (Nat.beq_refl _) h2
  rcases h7 with rfl | h7
  ·exact .inl h6
  cases o' with
  | mp κ' σ' es'=>obtain ⟨rfl,rfl⟩:=h7; exact .inr ⟨b,n,κ,σ,es',by rw [(hm _ _ (Nat.beq_refl _) h2 (by rw [h6]; simp)).1]; exact h1,h6,h3⟩
  | _=>exact h7.elim
 | ds id i p =>
  obtain ⟨o,ho,hnh,h1⟩:=hr
  obtain ⟨o',h2,h3⟩:=hh _ _ (Nat.beq_refl _) ho
  refine ⟨o',h2,zA5 h3 hnh,fun τ xs k e=>?_⟩
  subst e
  have hng:atN h' id ≠ some .gone:=by rw [h2]; simp
  have hs:=hm _ _ (Nat.beq_refl _) ho hng
  rcases h3 with h3 | h3
  ·cases h3
  cases o with
  | drow τ0 xs0 k0 =>
   obtain ⟨h4,σ,len,h5,h6⟩:=h1 _ _ _ rfl
   obtain ⟨_,g2,rfl,g4⟩:=h3
   refine ⟨by omega,σ,len,by rw [g4 _ _ h4]; exact h5,?_⟩
   unfold zsG at h6 ⊢
   rw [hs.2 i p (by simp [Obj.deepAt,h4]) (by simp only [zkj,h2,Obj.deepAt,decide_eq_true_eq]; omega)]
   exact h6
  | row _ _ _=>obtain ⟨⟨_,_,h7⟩,_⟩:=h3; cases h7
  | _=>exact h3.elim
 | dp id i p j q =>
  obtain ⟨o,ho,hnh,h1⟩:=hr
  obtain ⟨o',h2,h3⟩:=hh _ _ (Nat.beq_refl _) ho
  refine ⟨o',h2,zA5 h3 hnh,fun τ xs k e=>?_⟩
  subst e
  have hng:atN h' id ≠ some .gone:=by rw [h2]; simp
  have hs:=hm _ _ (Nat.beq_refl _) ho hng
  rcases h3 with h3 | h3
  ·cases h3
  cases o with
  | drow τ0 xs0 k0 =>
   obtain ⟨h4,σ,len,off,ρ,b,n,h5,h6,h7,h8,h9⟩:=h1 _ _ _ rfl
   obtain ⟨_,g2,rfl,g4⟩:=h3
   exact ⟨by omega,σ,len,off,ρ,b,n,by rw [g4 _ _ h4]; exact h5,h6,by rw [hs.2 i p (by simp [Obj.deepAt,h4]) (by simp only [zkj,h2,Obj.deepAt,decide_eq_true_eq]; omega)]; exact h7,h8,h9⟩
  | row _ _ _=>obtain ⟨⟨_,_,h7⟩,_⟩:=h3; cases h7
  | _=>exact h3.elim
 | tup vs=>exact hr.elim
 | fld a vs=>exact hr.elim
 | dead=>trivial
theorem zul {h:List Obj} {i:Nat} {o:Obj} (ho:atN h i = some o):zbg h i = (rowTL o).map (·.1):=by
 unfold zbg; rw [ho]; cases o <;> rfl
theorem vR.mono_on {P:Program} {h h':List Obj} {m m':MM} {F F':FH} {t:Ty} {v:AV} {cs:List Value} (hh:∀ i o,v.has1 i = true→atN h i = some o→∃ o',atN h' i = some o' ∧ o.like o')
 (hm:∀ i o,v.has1 i = true→atN h i = some o→atN h' i ≠ some .gone→jc h' m m' i o) (hF:F.le F') (hr:vR P h m F t v cs):vR P h' m' F' t v cs:=by
 cases v with
 | dat τ x=>exact ⟨hr.1,Rep.mono hF hr.2⟩
 | ow id =>
  obtain ⟨σ,u,e1,e2,h1,h2,h3⟩:=hr
  refine ⟨σ,u,e1,e2,zF.mono_on hh hm hF h1,?_,h3⟩
  have key:∀ o,atN h id = some o→atN h' id = some .gone ∨ zbg h' id = some σ:=by
   intro o ho
   obtain ⟨o',h3,h4⟩:=hh _ _ (Nat.beq_refl _) ho
   rcases h4 with rfl | h4
   ·exact .inl h3
   rcases h2 with h2 | h2
   ·rw [h2] at ho; cases ho; cases o' <;> exact h4.elim
   ·right; rw [zul h3,← h4.rowTL,← zul ho]; exact h2
  rcases h2 with h2' | h2'
  ·exact key _ h2'
  ·cases ho:atN h id with
   | none=>unfold zbg at h2'; rw [ho] at h2'; cases h2'
   | some o=>exact key o ho
 | ds id i p =>
  obtain ⟨σ,u,e1,e2,h1,h3⟩:=hr
  exact ⟨σ,u,e1,e2,zF.mono_on hh hm hF h1,h3⟩
 | clo f l =>
  obtain ⟨x,y,u,e1,e2,h1⟩:=hr
  exact ⟨x,y,u,e1,e2,zF.mono_on hh hm hF h1⟩
 | _=>exact hr.elim
theorem zX.mono_on {P:Program} {h h':List Obj} {m m':MM} {F F':FH}:∀ {a:Ty} {vs:List AV} {cs:List Value},(∀ i o,vs.any (AV.has1 i) = true→atN h i = some o→∃ o',atN h' i = some o' ∧ o.like o') →
 (∀ i o,vs.any (AV.has1 i) = true→atN h i = some o→atN h' i ≠ some .gone→jc h' m m' i o)→F.le F'→zX P h m F a vs cs→zX P h' m' F' a vs cs
 | .unit,[],_,_,_,_,e=>e
 | .pair t b,v :: vs,cs,hh,hm,hF,⟨c,d,e,h1,h2⟩ =>
  ⟨c,d,e,vR.mono_on (fun i o hi=>hh i o (by simp [hi])) (fun i o hi=>hm i o (by simp [hi])) hF h1,zX.mono_on (fun i o hi=>hh i o (by simp only [List.any_cons,hi,Bool.or_true])) (fun i o hi=>hm i o (by simp only [List.any_cons,hi,Bool.or_true])) hF h2⟩
 | .unit,_ :: _,_,_,_,_,h=>h.elim
 | .pair _ _,[],_,_,_,_,h=>h.elim
 | .bool,_,_,_,_,_,h=>h.elim
 | .int _,_,_,_,_,_,h=>h.elim
 | .str,_,_,_,_,_,h=>h.elim
 | .st _,_,_,_,_,_,h=>h.elim
 | .arr _ _,_,_,_,_,_,h=>h.elim
 | .sl _,_,_,_,_,_,h=>h.elim
 | .ptr _,_,_,_,_,_,h=>h.elim
 | .fn _ _,_,_,_,_,_,h=>h.elim
theorem zE.eqS {P:Program} {h:List Obj} {m:MM} {F:FH} {v:AV} {u:Value} (hv:∀ a vs,v ≠ .fld a vs):zE P h m F v u = zF P h m F v u:=by
 cases v <;> first | rfl | exact absurd rfl (hv _ _)
theorem AV.has_eq {v:AV} {i:Nat} (hv:∀ a vs,v ≠ .fld a vs) (ht:∀ vs,v ≠ .tup vs):v.has i = v.has1 i:=by
 cases v <;> first | rfl | exact absurd rfl (hv _ _) | exact absurd rfl (ht _)
theorem zE.mono_on {P:Program} {h h':List Obj} {m m':MM} {F F':FH} {v:AV} {u:Value} (hh:∀ i o,v.has i = true→atN h i = some o→∃ o',atN h' i = some o' ∧ o.like o')
 (hm:∀ i o,v.has i = true→atN h i = some o→atN h' i ≠ some .gone→jc h' m m' i o) (hF:F.le F') (hr:zE P h m F v u):zE P h' m' F' v u:=by
 by_cases hf:∃ a vs,v = .fld a vs
 ·obtain ⟨a,vs,rfl⟩:=hf
  obtain ⟨cs,e,h1⟩:=hr
  exact ⟨cs,e,zX.mono_on hh hm hF h1⟩
 by_cases ht:∃ vs,v = .tup vs
 ·obtain ⟨vs,rfl⟩:=ht; exact hr.elim
 have h1:∀ a vs,v ≠ .fld a vs:=fun a vs e=>hf ⟨a,vs,e⟩
 have h2:∀ vs,v ≠ .tup vs:=fun vs e=>ht ⟨vs,e⟩
 rw [zE.eqS h1] at hr ⊢
 exact zF.mono_on (fun i o hi=>hh i o (by rw [AV.has_eq h1 h2]; exact hi)) (fun i o hi=>hm i o (by rw [AV.has_eq h1 h2]; exact hi)) hF hr
theorem zE.mono' {P:Program} {h h':List Obj} {m m':MM} {F F':FH} (hh:HLe h h') (hm:∀ i o,atN h i = some o→atN h' i ≠ some .gone→jc h' m m' i o) (hF:F.le F') {v:AV} {u:Value} (hr:zE P h m F v u):zE P h' m' F' v u :=
 zE.mono_on (fun i o _ ho=>hh i o ho) (fun i o _ ho=>hm i o ho) hF hr
theorem zF.mono' {P:Program} {h h':List Obj} {m m':MM} {F F':FH} (hh:HLe h h') (hm:∀ i o,atN h i = some o→atN h' i ≠ some .gone→jc h' m m' i o) (hF:F.le F') {v:AV} {u:Value} (hr:zF P h m F v u):zF P h' m' F' v u :=
 zF.mono_on (fun i o _ ho=>hh i o ho) (fun i o _ ho=>hm i o ho) hF hr
theorem zX.mono' {P:Program} {h h':List Obj} {m m':MM} {F F':FH} (hh:HLe h h') (hm:∀ i o,atN h i = some o→atN h' i ≠ some .gone→jc h' m m' i o) (hF:F.le F') {a:Ty} {vs:List AV} {cs:List Value} (hr:zX P h m F a vs cs):zX P h' m' F' a vs cs :=
 zX.mono_on (fun i o _ ho=>hh i o ho) (fun i o _ ho=>hm i o ho) hF hr
theorem zE.mono {P:Program} {h h':List Obj} {m m':MM} {F F':FH} (hh:HLe h h') (hm:∀ i o,atN h i = some o→jc h' m m' i o) (hF:F.le F') {v:AV} {u:Value} (hr:zE P h m F v u):zE P h' m' F' v u :=
 zE.mono' hh (fun i o ho _=>hm i o ho) hF hr
theorem zh.eq1 {P:Program} {h:List Obj} {m:MM} {F:FH} {v:AV} {u:Value} (hv:∀ vs,v ≠ .tup vs):zh P h m F v u = zE P h m F v u:=by
 cases v <;> first | rfl | exact absurd rfl (hv _)
theorem zh.mono' {P:Program} {h h':List Obj} {m m':MM} {F F':FH} (hh:HLe h h') (hm:∀ i o,atN h i = some o→atN h' i ≠ some .gone→jc h' m m' i o) (hF:F.le F') {v:AV} {u:Value} (hr:zh P h m F v u):zh P h' m' F' v u:=by
 cases v with
 | tup vs=>obtain ⟨arr,e,h1,h2⟩:=hr; exact ⟨arr,e,h1,fun i u hu=>let ⟨x,hx,hx'⟩:=h2 i u hu; ⟨x,hx,zE.mono' hh hm hF hx'⟩⟩
 | _=>rw [zh.eq1 (by intro vs e; cases e)] at hr ⊢; exact zE.mono' hh hm hF hr
theorem jc.refl (h':List Obj) (m:MM) (i:Nat) (o:Obj):jc h' m m i o:=⟨rfl,fun _ _ _ _=>rfl⟩
theorem zh.mono {P:Program} {h h':List Obj} {m m':MM} {F F':FH} (hh:HLe h h') (hm:∀ i o,atN h i = some o→jc h' m m' i o) (hF:F.le F') {v:AV} {u:Value} (hr:zh P h m F v u):zh P h' m' F' v u :=
 zh.mono' hh (fun i o ho _=>hm i o ho) hF hr
theorem zh.of1 {P:Program} {h:List Obj} {m:MM} {F:FH} {v:AV} {u:Value} (hr:zE P h m F v u):zh P h m F v u:=by
 cases v <;> first | exact hr | exact hr.elim
theorem zjr {h:List Obj} {i:Nat} (hl:j7 h i = true):atN h i ≠ some .gone:=by
 intro e
 unfold j7 at hl
 rw [e] at hl
 cases hl
section
variable {P:Program} {h:List Obj} {m:MM} {F:FH} {v:Value}
theorem zh.bpAt {id:Nat} {p:List Nat} {v0:AV} {f:Bool} (ho:atN h id = some (.bx v0 f)) (hr:zh P h m F (.bp id p) v) :
    ∃ b n off,m id = some (b,n) ∧ v = .pointer (some ⟨b,off,none⟩) ∧ (match bxT v0 with
          | some τ=>∃ σ,qa p τ = some (off,σ)
          | none=>p = [] ∧ off = 0):=by
  rcases hr with hg | ⟨b,n,o,off,h1,h2,h3,h4⟩
  · rw [ho] at hg; cases hg
  · rw [ho] at h2; cases h2; exact ⟨b,n,off,h1,h3,h4⟩
theorem zh.rpAt {id i:Nat} {p:List Nat} {o:Obj} {τ:Ty} {len:Nat} (ho:atN h id = some o) (hT:rowTL o = some (τ,len)) (hr:zh P h m F (.rp id i p) v) :
    ∃ b n off σ,m id = some (b,n) ∧ i < len ∧ qa p τ = some (off,σ) ∧ v = .pointer (some ⟨b,i * nc τ + off,none⟩):=by
  rcases hr with hg | ⟨b,n,o',τ',len',off,σ,h1,h2,h3,h4,h5,h6⟩
  · rw [ho] at hg; cases hg; cases hT
  · rw [ho] at h2; cases h2
    rw [hT] at h3; cases h3
    exact ⟨b,n,off,σ,h1,h4,h5,h6⟩
theorem zF.owAt {id:Nat} {o:Obj} {τ:Ty} {len:Nat} (ho:atN h id = some o) (hT:rowTL o = some (τ,len)) (hr:zF P h m F (.ow id) v) :
      (match m id with
        | some (b,n)=>∃ cap,n = cap * nc τ ∧ len ≤ cap ∧ v = .slice (some ⟨b,0,none⟩) len cap
        | none=>len = 0 ∧ ∃ ad,v = .slice ad 0 0):=by
  rcases hr with hg | ⟨o',τ',len',h1,h2,h3⟩
  · rw [ho] at hg; cases hg; cases hT
  · rw [ho] at h1; cases h1; rw [hT] at h2; cases h2; exact h3
theorem zh.owAt {id:Nat} {o:Obj} {τ:Ty} {len:Nat} (ho:atN h id = some o) (hT:rowTL o = some (τ,len)) (hr:zh P h m F (.ow id) v) :
      (match m id with
        | some (b,n)=>∃ cap,n = cap * nc τ ∧ len ≤ cap ∧ v = .slice (some ⟨b,0,none⟩) len cap
        | none=>len = 0 ∧ ∃ ad,v = .slice ad 0 0):=zF.owAt (P:=P) (F:=F) ho hT hr
theorem zF.omAt {id:Nat} {κ σ:Ty} {es:List (κ.I × σ.I)} (ho:atN h id = some (.mp κ σ es)) (hr:zF P h m F (.om id) v) :
    ∃ b n,m id = some (b,n) ∧ v = .map (some b):=by
  rcases hr with hg | ⟨b,n,_,_,_,h1,h2,h3⟩
  · rw [ho] at hg; cases hg
  · exact ⟨b,n,h1,h3⟩
theorem zh.omAt {id:Nat} {κ σ:Ty} {es:List (κ.I × σ.I)} (ho:atN h id = some (.mp κ σ es)) (hr:zh P h m F (.om id) v) :
    ∃ b n,m id = some (b,n) ∧ v = .map (some b):=zF.omAt (P:=P) (F:=F) ho hr
end
theorem zdf.mono {P:Program} {F F':FH} (hF:F.le F') {κ σ:Ty} {es:List (κ.I × σ.I)} {ents:List MapEntry} (h:zdf P F κ σ es ents):zdf P F' κ σ es ents :=
 ⟨h.1,fun i p e hp he=>let ⟨h1,h2⟩:=h.2 i p e hp he; ⟨h1.mono hF,h2.mono hF⟩⟩
theorem z6.mono' {P:Program} {h h':List Obj} {m m':MM} {F F':FH} {w w':World} {i:Nat} {o:Obj} (hh:HLe h h') (hm:∀ i o,atN h i = some o→atN h' i ≠ some .gone→jc h' m m' i o) (hF:F.le F') (hmi':m' i = m i) (hmd:∀ j p,o.deepAt j = true→m'.d i j p = m.d i j p)
 (hw:∀ b n,m i = some (b,n)→w'.heap[b]? = w.heap[b]?) (hFb:∀ b n,m i = some (b,n)→F b = none→F' b = none)
 (hd:∀ j p b n,o.deepAt j = true→m.d i j p = some (b,n)→w'.heap[b]? = w.heap[b]? ∧ (F b = none→F' b = none)) (hr:z6 P h m F w i o):z6 P h' m' F' w' i o:=by
 cases o with
 | bx v fz =>
  obtain ⟨b,n,el,fr,cs,h1,h2,h3,h4⟩:=hr
  refine ⟨b,n,el,fr,cs,by rw [hmi']; exact h1,by rw [hw _ _ h1]; exact h2,?_,?_⟩
  ·cases v with
   | dat τ x=>exact Rep.mono hF h3
   | fld a vs=>exact zX.mono' hh hm hF h3
   | clip τ xs=>obtain ⟨u,e,hu⟩:=h3; exact ⟨u,e,zE.mono' hh hm hF hu⟩
   | ow id=>obtain ⟨u,e,hu⟩:=h3; exact ⟨u,e,zE.mono' hh hm hF hu⟩
   | om id=>obtain ⟨u,e,hu⟩:=h3; exact ⟨u,e,zE.mono' hh hm hF hu⟩
   | dead=>exact h3
   | _=>exact h3.elim
  ·cases fz with
   | true=>exact hF _ _ h4
   | false=>exact ⟨hFb _ _ h1 h4.1,h4.2⟩
 | row τ xs fz =>
  simp only [z6] at hr ⊢
  rw [hmi']
  cases hmi:m i with
  | none=>rw [hmi] at hr; exact hr
  | some bn =>
   obtain ⟨b,n⟩:=bn
   rw [hmi] at hr
   obtain ⟨el,fr,cs,c,d,h2,h3,h4,h5,h6⟩:=hr
   refine ⟨el,fr,cs,c,d,by rw [hw _ _ hmi]; exact h2,h3,h4,RepL.mono (fun _ _ h=>Rep.mono hF h) _ _ h5,?_⟩
   cases fz with
   | true=>exact hF _ _ h6
   | false=>exact ⟨hFb _ _ hmi h6.1,h6.2⟩
 | drow τ xs k =>
  obtain ⟨hk,hdp,hr⟩:=hr
  refine ⟨hk,hdp,?_⟩
  rw [hmi']
  cases hmi:m i with
  | none=>rw [hmi] at hr; exact hr
  | some bn =>
   obtain ⟨b,n⟩:=bn
   rw [hmi] at hr
   refine zkP.mono (fun c hc=>?_) (hw _ _ hmi) (hFb _ _ hmi) hr
   refine z5.mono (fun j x c _ _ hx=>?_) hc
   by_cases hj:j < k
   ·refine DE.mono hF (fun p=>hmd j p (by simp [Obj.deepAt,hj])) (fun p b n hp=>hd j p b n (by simp [Obj.deepAt,hj]) hp) hx
   ·unfold DE at hx ⊢
    rw [if_neg hj] at hx ⊢
    exact Rep.mono hF hx
 | mp κ σ es =>
  obtain ⟨b,n,ents,clock,h1,h2,h3,h4⟩:=hr
  exact ⟨b,n,ents,clock,by rw [hmi']; exact h1,by rw [hw _ _ h1]; exact h2,h3.mono hF,hFb _ _ h1 h4⟩
 | gone=>trivial
 | hole=>exact hmi'.trans hr
theorem z6.mono {P:Program} {h h':List Obj} {m m':MM} {F F':FH} {w w':World} {i:Nat} {o:Obj} (hh:HLe h h') (hm:∀ i o,atN h i = some o→jc h' m m' i o) (hF:F.le F') (ho:atN h i = some o) (ho':atN h' i = some o)
 (hw:∀ b n,m i = some (b,n)→w'.heap[b]? = w.heap[b]?) (hFb:∀ b n,m i = some (b,n)→F b = none→F' b = none)
 (hd:∀ j p b n,o.deepAt j = true→m.d i j p = some (b,n)→w'.heap[b]? = w.heap[b]? ∧ (F b = none→F' b = none)) (hr:z6 P h m F w i o):z6 P h' m' F' w' i o :=
 z6.mono' hh (fun i o ho _=>hm i o ho) hF (hm i o ho).1 (fun j p hj=>(hm i o ho).2 j p hj (by simp only [zkj,ho']; exact hj)) hw hFb hd hr
section
variable {P:Program} {nt:Up} {F0 F:FH} {w0 w:World} {st:St} {m:MM} {a:Act}
theorem Rel.put (h:Rel P nt F0 w0 st m F a w) {dst:Option Tmp} (hd:∀ d,dst = some d→d < nt) {v:AV} {u:Value} (hv:zh P st.h m F v u) :
 Rel P nt F0 w0 (st.put dst v) m F (a.put dst u) w:=by
 cases dst with
 | none=>exact h
 | some d =>
  refine ⟨by simpa [Act.put] using h.nt,fun t v' ht=>?_,h.up,h.lo,h.obs,h.inj,h.rng,h.dok,h.din,h.fok,h.gro,h.bel,h.dfr⟩
  simp only [St.put,zjp] at ht ⊢
  have hlt:d < a.tmps.size:=Nat.lt_of_lt_of_le (hd d rfl) h.nt
  by_cases e:d = t
  ·subst e
   rw [if_pos rfl] at ht
   cases ht
   simpa [Act.put,hlt] using hv
  ·rw [if_neg e] at ht
   have:=h.fr t v' ht
   simpa [Act.put,Array.getElem?_setIfInBounds_ne e] using this
theorem Rel.frames (h:Rel P nt F0 w0 st m F a w) {fr:List (Nat × AV)} (hf:∀ t v,look fr t = some v→look st.fr t = some v):Rel P nt F0 w0 ⟨fr,st.h⟩ m F a w :=
 ⟨h.nt,fun t v ht=>h.fr t v (hf t v ht),h.up,h.lo,h.obs,h.inj,h.rng,h.dok,h.din,h.fok,h.gro,h.bel,h.dfr⟩
theorem Rel.lt (h:Rel P nt F0 w0 st m F a w) {i:Nat} {o:Obj} (ho:atN st.h i = some o):i < st.h.length:=by rw [z7] at ho; exact (List.getElem?_eq_some_iff.1 ho).1
theorem vw {h:List Obj} {i:Nat} {o o':Obj} (ho:atN h i = some o):atN (zf h i o') i = some o':=by
 rw [z7] at ho
 rw [qS,z7,List.getElem?_set_self (List.getElem?_eq_some_iff.1 ho).1]
theorem qp {h:List Obj} {i j:Nat} {o':Obj} (e:i ≠ j):atN (zf h i o') j = atN h j:=by
 rw [qS,z7,z7,List.getElem?_set_ne e]
theorem Rel.turnX (h:Rel P nt F0 w0 st m F a w) {i:Nat} {o o':Obj} {w':World} {m':MM} (ho:atN st.h i = some o) (hl:o.like o')
 (hos:w'.os = w.os) (htape:w'.tape = w.tape) (hout:w'.output = w.output) (hsz:w'.heap.size = w.heap.size)
 (hf:m'.f = m.f) (hd:∀ i',i' ≠ i→m'.d i' = m.d i') (hdk:∀ j p,o.deepAt j = true→o'.deepAt j = true→m'.d i j p = m.d i j p)
 (hdo:∀ j p b n,m'.d i j p = some (b,n)→o'.deepAt j = true ∧ w0.heap.size ≤ b ∧ b < w.heap.size ∧ F b = none ∧ (∀ i' n',m i' ≠ some (b,n')) ∧ ∀ i' j' p' n',i' ≠ i→m.d i' j' p' ≠ some (b,n'))
 (hdi:∀ j p b n j' p' n',m'.d i j p = some (b,n)→m'.d i j' p' = some (b,n')→j = j' ∧ p = p')
 (hbl:∀ b,(∀ n,m i ≠ some (b,n))→(∀ j p n,m.d i j p ≠ some (b,n))→w'.heap[b]? = w.heap[b]?) (hfz:∀ b n,m i = some (b,n)→w'.heap[b]? ≠ w.heap[b]?→F b = none)
 (hnew:z6 P (zf st.h i o') m' F w' i o'):Rel P nt F0 w0 ⟨st.fr,zf st.h i o'⟩ m' F a w':=by
 have hh:HLe st.h (zf st.h i o'):=HLe.set ho hl
 have hm':∀ j,m' j = m j:=fun j=>congrFun hf j
 have hS:∀ j u,atN st.h j = some u→jc (zf st.h i o') m m' j u:=fun j u hu=>⟨hm' j,fun k p h1 h2=>by
  by_cases e:j = i
  ·subst e
   rw [ho] at hu; cases hu
   simp only [zkj,vw ho] at h2
   exact hdk k p h1 h2
  ·rw [hd j e]⟩
 refine ⟨h.nt,fun t v ht=>(h.fr t v ht).mono hh hS (.refl F),fun v u hv=>(h.up v u hv).mono hh hS (.refl F),h.lo,fun j u hu=>?_,fun i j b n n' h1 h2=>h.inj i j b n n' (hm' i ▸ h1) (hm' j ▸ h2),fun j b n hj=>?_,fun i' j p b n hp=>?_,fun i1 j1 p1 b n i2 j2 p2 n' h1 h2=>?_,fun k c hk=>?_,h.gro,?_,h.dfr⟩
 ·by_cases e:i = j
  ·subst e
   rw [vw ho] at hu
   cases hu
   exact hnew
  ·have hu':atN st.h j = some u:=by rw [qp e] at hu; exact hu
   refine (h.obs j u hu').mono hh hS (.refl F) hu' hu (fun b n hb=>?_) (fun b n hb hn=>hn) (fun k p b n hk hp=>⟨?_,fun hn=>hn⟩)
   ·exact hbl b (fun n' hn'=>e (h.inj _ _ _ _ _ hn' hb)) fun k p n' hp=>(h.dok _ _ _ _ _ hp).2.2.2.2 _ _ hb
   ·exact hbl b (fun n' hn'=>(h.dok _ _ _ _ _ hp).2.2.2.2 _ _ hn') fun k' p' n' hp'=>e (h.din _ _ _ _ _ _ _ _ _ hp' hp).1
 ·have:=h.rng j b n (hm' j ▸ hj)
  simp only [qS,List.length_set]
  omega
 ·by_cases e:i' = i
  ·subst e
   obtain ⟨h1,h2,h3,h4,h5,_⟩:=hdo _ _ _ _ hp
   exact ⟨⟨o',vw ho,h1⟩,h2,by omega,h4,fun i'' n'=>by rw [hm']; exact h5 i'' n'⟩
  ·rw [hd i' e] at hp
   obtain ⟨⟨u,h1,h2⟩,h3,h4,h5,h6⟩:=h.dok _ _ _ _ _ hp
   exact ⟨⟨u,by rw [qp (Ne.symm e)]; exact h1,h2⟩,h3,by omega,h5,fun i'' n'=>by rw [hm']; exact h6 i'' n'⟩
 ·by_cases e1:i1 = i <;> by_cases e2:i2 = i
  ·subst e1; subst e2
   obtain ⟨g1,g2⟩:=hdi _ _ _ _ _ _ _ h1 h2
   exact ⟨rfl,g1,g2⟩
  ·subst e1
   rw [hd i2 e2] at h2
   exact absurd h2 ((hdo _ _ _ _ h1).2.2.2.2.2 _ _ _ _ e2)
  ·subst e2
   rw [hd i1 e1] at h1
   exact absurd h1 ((hdo _ _ _ _ h2).2.2.2.2.2 _ _ _ _ e1)
  ·rw [hd i1 e1] at h1
   rw [hd i2 e2] at h2
   exact h.din _ _ _ _ _ _ _ _ _ h1 h2
 ·obtain ⟨el,fz,hw⟩:=h.fok k c hk
  refine ⟨el,fz,?_⟩
  by_cases e:w'.heap[k]? = w.heap[k]?
  ·rw [e]; exact hw
  ·exfalso
   apply e
   refine hbl k (fun n hn=>?_) fun j p n hp=>?_
   ·have:=hfz _ _ hn e
    rw [this] at hk; cases hk
   ·have:=(h.dok _ _ _ _ _ hp).2.2.2.1
    rw [this] at hk; cases hk
 ·refine h.bel.trans ⟨hos,htape,hout,by omega,fun k hk=>hbl k (fun n hn=>?_) fun j p n hp=>?_⟩
  ·have:=h.rng i k n hn
   omega
  ·have:=(h.dok _ _ _ _ _ hp).2.1
   omega
theorem Rel.turnD (h:Rel P nt F0 w0 st m F a w) {i:Nat} {o o':Obj} {w':World} (ho:atN st.h i = some o) (hl:o.like o')
 (hos:w'.os = w.os) (htape:w'.tape = w.tape) (hout:w'.output = w.output) (hsz:w'.heap.size = w.heap.size) (hdd:∀ j,o.deepAt j = true→o'.deepAt j = true)
 (hbl:∀ b,(∀ n,m i ≠ some (b,n))→(∀ j p n,m.d i j p ≠ some (b,n))→w'.heap[b]? = w.heap[b]?) (hfz:∀ b n,m i = some (b,n)→w'.heap[b]? ≠ w.heap[b]?→F b = none)
 (hnew:z6 P (zf st.h i o') m F w' i o'):Rel P nt F0 w0 ⟨st.fr,zf st.h i o'⟩ m F a w':=by
 refine h.turnX ho hl hos htape hout hsz rfl (fun _ _=>rfl) (fun _ _ _ _=>rfl) (fun j p b n hp=>?_) (fun j p b n j' p' n' h1 h2=>?_) hbl hfz hnew
 ·obtain ⟨⟨u,h1,h2⟩,h3,h4,h5,h6⟩:=h.dok _ _ _ _ _ hp
  rw [ho] at h1; cases h1
  exact ⟨hdd j h2,h3,h4,h5,h6,fun i' j' p' n' e hp'=>e (h.din _ _ _ _ _ _ _ _ _ hp' hp).1⟩
 ·exact (h.din _ _ _ _ _ _ _ _ _ h1 h2).2
theorem Rel.turn (h:Rel P nt F0 w0 st m F a w) {i:Nat} {o o':Obj} {w':World} (ho:atN st.h i = some o) (hl:o.like o') (hd:∀ j,o.deepAt j = false)
 (hos:w'.os = w.os) (htape:w'.tape = w.tape) (hout:w'.output = w.output) (hsz:w'.heap.size = w.heap.size)
 (hbl:∀ b,(∀ n,m i ≠ some (b,n))→w'.heap[b]? = w.heap[b]?) (hfz:∀ b n,m i = some (b,n)→F b = none)
 (hnew:z6 P (zf st.h i o') m F w' i o'):Rel P nt F0 w0 ⟨st.fr,zf st.h i o'⟩ m F a w' :=
 h.turnD ho hl hos htape hout hsz (fun j e=>by rw [hd] at e; cases e) (fun b h1 _=>hbl b h1) (fun b n hb _=>hfz b n hb) hnew
def FH.put (F:FH) (b:Nat) (cs:Array Value):FH:=fun k=>if k = b then some cs else F k
theorem FH.put_le (b:Nat) (cs:Array Value) (h:F b = none):F.le (F.put b cs):=fun k c hk=>by
 unfold FH.put
 by_cases e:k = b
 ·subst e; rw [h] at hk; cases hk
 ·rw [if_neg e]; exact hk
theorem Rel.freeze (h:Rel P nt F0 w0 st m F a w) {i b n:Nat} {o o':Obj} {el:TypeId} {fz:Nat × Nat} {cs:Array Value} (ho:atN st.h i = some o) (hl:o.like o') (hd:∀ j,o.deepAt j = false)
 (hm:m i = some (b,n)) (hF:F b = none) (hw:w.heap[b]? = some (.cells cs el fz)) (hnew:z6 P (zf st.h i o') m (F.put b cs) w i o') :
 Rel P nt F0 w0 ⟨st.fr,zf st.h i o'⟩ m (F.put b cs) a w ∧ F.le (F.put b cs):=by
 have hh:HLe st.h (zf st.h i o'):=HLe.set ho hl
 have hle:F.le (F.put b cs):=FH.put_le b cs hF
 have hr:=h.rng _ _ _ hm
 have hS:∀ j u,atN st.h j = some u→jc (zf st.h i o') m m j u:=fun j u _=>jc.refl _ _ _ _
 have hput:∀ k,k ≠ b→(F.put b cs) k = F k:=fun k hk=>by unfold FH.put; rw [if_neg hk]
 refine ⟨⟨h.nt,fun t v ht=>(h.fr t v ht).mono hh hS hle,fun v u hv=>(h.up v u hv).mono hh hS hle,h.lo.trans hle,fun j u hu=>?_,h.inj,fun j b n hj=>?_,fun i' j p b' n' hp=>?_,h.din,fun k c hk=>?_,⟨h.gro.1.trans hle,fun k hk=>?_⟩,h.bel,h.dfr⟩,hle⟩
 ·by_cases e:i = j
  ·subst e
   rw [vw ho] at hu
   cases hu
   exact hnew
  ·have hu':atN st.h j = some u:=by rw [qp e] at hu; exact hu
   refine (h.obs j u hu').mono hh hS hle hu' hu (fun b n hb=>rfl) (fun b' n' hb hn=>?_) (fun k p b' n' hk hp=>⟨rfl,fun hn=>?_⟩)
   ·rw [hput]
    ·exact hn
    ·rintro rfl
     exact e (h.inj _ _ _ _ _ hm hb)
   ·rw [hput]
    ·exact hn
    ·rintro rfl
     exact (h.dok _ _ _ _ _ hp).2.2.2.2 _ _ hm
 ·have:=h.rng j b n hj
  simp only [qS,List.length_set]
  omega
 ·obtain ⟨⟨u,h1,h2⟩,h3,h4,h5,h6⟩:=h.dok _ _ _ _ _ hp
  refine ⟨?_,h3,h4,?_,h6⟩
  ·by_cases e:i = i'
   ·subst e; rw [ho] at h1; cases h1; rw [hd] at h2; cases h2
   ·exact ⟨u,by rw [qp e]; exact h1,h2⟩
  ·rw [hput]
   ·exact h5
   ·rintro rfl; exact h6 _ _ hm
 ·unfold FH.put at hk
  by_cases e:k = b
  ·subst e; rw [if_pos rfl] at hk; cases hk; exact ⟨el,fz,hw⟩
  ·rw [if_neg e] at hk; exact h.fok k c hk
 ·rw [hput _ (by omega)]
  exact h.gro.2 k hk
def MM.put (m:MM) (i:Nat) (b:Nat × Nat):MM:=⟨fun j=>if j = i then some b else m j,m.d⟩
theorem Rel.fresh (h:Rel P nt F0 w0 st m F a w):m st.h.length = none:=by
 cases hm:m st.h.length with
 | none=>rfl
 | some bn=>obtain ⟨b,n⟩:=bn; have:=h.rng _ _ _ hm; omega
theorem Rel.noF (h:Rel P nt F0 w0 st m F a w):F w.heap.size = none:=by
 cases hm:F w.heap.size with
 | none=>rfl
 | some c =>
  obtain ⟨el,fz,hw⟩:=h.fok _ _ hm
  simp at hw
theorem je {h:List Obj} {j:Nat} {u:Obj} (hu:atN h j = some u):j < h.length:=by rw [z7] at hu; exact (List.getElem?_eq_some_iff.1 hu).1
theorem ju (h:List Obj) (o:Obj):atN (h ++ [o]) h.length = some o:=by rw [z7]; simp
theorem vS {h k:List Obj} {j:Nat} (hj:j < h.length):atN (h ++ k) j = atN h j:=by rw [z7,z7,List.getElem?_append_left hj]
theorem zv1 {h:List Obj} {o u:Obj} {j:Nat} (hu:atN (h ++ [o]) j = some u) (e:j ≠ h.length):atN h j = some u:=by
 have:=je hu
 simp at this
 rwa [vS (by omega)] at hu
theorem Rel.alloc (h:Rel P nt F0 w0 st m F a w) {o:Obj} {ob:Go.Obj} {n:Nat} {w':World}
 (hos:w'.os = w.os) (htape:w'.tape = w.tape) (hout:w'.output = w.output) (hheap:w'.heap = w.heap.push ob)
 (hnew:z6 P (st.h ++ [o]) (m.put st.h.length (w.heap.size,n)) F w' st.h.length o) :
 Rel P nt F0 w0 ⟨st.fr,st.h ++ [o]⟩ (m.put st.h.length (w.heap.size,n)) F a w':=by
 have hh:HLe st.h (st.h ++ [o]):=HLe.append _ _
 have hmm:∀ j u,atN st.h j = some u→(m.put st.h.length (w.heap.size,n)) j = m j:=fun j u hu=>by
  have:=je hu
  simp only [MM.put]; rw [if_neg (by omega)]
 have hS:∀ j u,atN st.h j = some u→jc (st.h ++ [o]) m (m.put st.h.length (w.heap.size,n)) j u:=fun j u hu=>⟨hmm j u hu,fun _ _ _ _=>rfl⟩
 have hbl:∀ k,k < w.heap.size→w'.heap[k]? = w.heap[k]?:=fun k hk=>by rw [hheap,Array.getElem?_push,if_neg (by omega)]
 refine ⟨h.nt,fun t v ht=>(h.fr t v ht).mono hh hS (.refl F),fun v u hv=>(h.up v u hv).mono hh hS (.refl F),h.lo,fun j u hu=>?_,fun i j b n1 n2 hi hj=>?_,fun j b n' hj=>?_,fun i' j p b' n' hp=>?_,h.din,fun k c hk=>?_,h.gro,?_,h.dfr⟩
 ·by_cases e:j = st.h.length
  ·subst e
   rw [ju] at hu
   cases hu
   exact hnew
  ·have hu':=zv1 hu e
   refine (h.obs j u hu').mono hh hS (.refl F) hu' hu (fun b n hb=>hbl b (h.rng _ _ _ hb).2.2) (fun _ _ _ hn=>hn) (fun k p b' n' hk hp=>⟨hbl _ (h.dok _ _ _ _ _ hp).2.2.1,fun hn=>hn⟩)
 ·simp only [MM.put] at hi hj
  by_cases e1:i = st.h.length <;> by_cases e2:j = st.h.length
  ·omega
  ·rw [if_pos e1] at hi; rw [if_neg e2] at hj
   have:=h.rng _ _ _ hj
   simp at hi
   omega
  ·rw [if_neg e1] at hi; rw [if_pos e2] at hj
   have:=h.rng _ _ _ hi
   simp at hj
   omega
  ·rw [if_neg e1] at hi; rw [if_neg e2] at hj
   exact h.inj _ _ _ _ _ hi hj
 ·simp only [MM.put] at hj
  have hb0:=h.bel.size
  simp only [List.length_append,List.length_cons,List.length_nil,hheap,Array.size_push]
  by_cases e:j = st.h.length
  ·rw [if_pos e] at hj
   simp at hj
   omega
  ·rw [if_neg e] at hj
   have:=h.rng _ _ _ hj
   omega
 ·obtain ⟨⟨u,h1,h2⟩,h3,h4,h5,h6⟩:=h.dok _ _ _ _ _ hp
  refine ⟨⟨u,by rw [vS (je h1)]; exact h1,h2⟩,h3,by rw [hheap,Array.size_push]; omega,h5,fun i'' n''=>?_⟩
  simp only [MM.put]
  by_cases e:i'' = st.h.length
  ·rw [if_pos e]; intro e'; simp at e'; omega
  ·rw [if_neg e]; exact h6 _ _
 ·obtain ⟨el,fz,hw⟩:=h.fok k c hk
  exact ⟨el,fz,by rw [hbl k (Array.getElem?_eq_some_iff.1 hw).1]; exact hw⟩
 ·exact h.bel.trans ⟨hos,htape,hout,by rw [hheap]; simp,fun k hk=>hbl k (Nat.lt_of_lt_of_le hk h.bel.size)⟩
theorem Rel.step (h:Rel P nt F0 w0 st m F a w) {w':World} {F':FH} (hb:Below w.heap.size w w') (hF:F.grow F' w.heap.size) (hk:F'.ok w'):Rel P nt F0 w0 st m F' a w':=by
 have hs:=h.bel.size
 refine ⟨h.nt,fun t v ht=>(h.fr t v ht).mono (.refl _) (fun _ _ _=>jc.refl _ _ _ _) hF.1,fun v u hv=>(h.up v u hv).mono (.refl _) (fun _ _ _=>jc.refl _ _ _ _) hF.1,h.lo.trans hF.1,fun j u hu=>?_,h.inj,fun j b n hj=>?_,fun i' j p b' n' hp=>?_,h.din,hk,h.gro.trans hF hs,h.bel.trans (hb.mono hs),h.dfr⟩
 ·refine (h.obs j u hu).mono (.refl _) (fun _ _ _=>jc.refl _ _ _ _) hF.1 hu hu (fun b n hb'=>hb.block b (h.rng _ _ _ hb').2.2) (fun b n hb' hn=>?_) (fun k p b' n' hk hp=>⟨hb.block _ (h.dok _ _ _ _ _ hp).2.2.1,fun hn=>?_⟩)
  ·rw [hF.2 b (h.rng _ _ _ hb').2.2]; exact hn
  ·rw [hF.2 _ (h.dok _ _ _ _ _ hp).2.2.1]; exact hn
 ·have:=h.rng j b n hj
  have:=hb.size
  omega
 ·obtain ⟨h1,h3,h4,h5,h6⟩:=h.dok _ _ _ _ _ hp
  have:=hb.size
  exact ⟨h1,h3,by omega,by rw [hF.2 _ h4]; exact h5,h6⟩
theorem Rel.drew (h:Rel P nt F0 w0 st m F a w):Rel P nt F0 w0 st m F a { w with drawn:=w.drawn + 1 } :=
 ⟨h.nt,h.fr,h.up,h.lo,fun i o ho=>z6.mono (w:=w) (w':={ w with drawn:=w.drawn + 1 }) (.refl _) (fun _ _ _=>jc.refl _ _ _ _) (.refl F) ho ho (fun _ _ _=>rfl) (fun _ _ _ hn=>hn) (fun _ _ _ _ _ _=>⟨rfl,fun hn=>hn⟩) (h.obs i o ho),h.inj,h.rng,h.dok,h.din,h.fok,h.gro,h.bel.trans ⟨rfl,rfl,rfl,Nat.le_refl _,fun _ _=>rfl⟩,h.dfr⟩
end
end Go.Ev
end
section
namespace Go.Ev
abbrev pk (v:AV) (st:St):Option (AV × St):=some (v,st)
section
variable {R:Type} {k:AV→St→Option R} {st:St} {E:Env}
theorem zI {α β:Type} (c:Bool) (x y:Option α) (f:α→Option β):(cond c x y).bind f = cond c (x.bind f) (y.bind f):=by cases c <;> rfl
theorem zxt (b:Bool):kB b st k = (kB b st pk).bind fun p=>k p.1 p.2:=by cases b <;> rfl
theorem zhz (v:AV):kAV v st k = (kAV v st pk).bind fun p=>k p.1 p.2:=by
 unfold kAV
 split
 ·exact zxt _
 ·rfl
theorem zJe (op:BinOp) (t:TypeId) (x y:AV):zqn E op t x y st k = (zqn E op t x y st pk).bind fun p=>k p.1 p.2:=by
 unfold zqn
 (repeat' split) <;> simp only [zI,Option.bind_some,Option.bind_none,← zxt]
theorem zxu (nil:Bool) (op:BinOp) (t:TypeId) (x y:AV):zb4 nil E op t x y st k = (zb4 nil E op t x y st pk).bind fun p=>k p.1 p.2:=by
 unfold zb4
 cases nil with
 | false=>exact zJe _ _ _ _
 | true =>
  simp only [cond_true]
  unfold zC0
  (repeat' split) <;> simp only [zI,Option.bind_some,Option.bind_none,← zxt]
theorem zKz (op:UnOp) (x:AV):zsC op x st k = (zsC op x st pk).bind fun p=>k p.1 p.2:=by
 unfold zsC
 (repeat' split) <;> simp only [zI,Option.bind_some,Option.bind_none,← zxt]
theorem zJf (t:TypeId) (f:Nat) (l:List Nat):zjX E t f l st k = (zjX E t f l st pk).bind fun p=>k p.1 p.2:=by
 unfold zjX
 (repeat' split) <;> rfl
theorem zxv (t:TypeId) (a:AV):jU E t a st k = (jU E t a st pk).bind fun p=>k p.1 p.2:=by
 unfold jU
 (repeat' split) <;> first | rfl | exact zJf _ _ _ | simp only [zI,Option.bind_some,Option.bind_none,← zhz,Option.bind_assoc]
theorem zJg (H:Hd) (args:List (Option AV)):zfK H.g args st k = (zfK H.g args st pk).bind fun p=>k p.1 p.2:=by
 unfold zfK
 rw [H.nat,H.nat (AV × St),zI,Option.bind_assoc]
 simp only [← zhz,Option.bind_none]
theorem zJh (t:TypeId) (id:Nat) (p:List Nat) (v:AV):zgR E t id p v st k = (zgR E t id p v st pk).bind fun p=>k p.1 p.2:=by
 unfold zgR
 (repeat' split) <;> first | rfl | simp only [zI,Option.bind_some,Option.bind_none]
theorem zJi (t:TypeId) (id:Nat) (b:Ty) (vs:List AV) (v:AV) (p:List Nat):zc5 E t id b vs v p st k = (zc5 E t id b vs v p st pk).bind fun p=>k p.1 p.2:=by
 unfold zc5
 (repeat' split) <;> first | rfl | simp only [zI,Option.bind_some,Option.bind_none]
theorem zHA (t:TypeId) (id i:Nat) (v:AV):zhT E t id i v st k = (zhT E t id i v st pk).bind fun p=>k p.1 p.2:=by
 unfold zhT
 (repeat' split) <;> first | rfl | simp only [zI,Option.bind_some,Option.bind_none]
theorem zHB (t:TypeId) (id i:Nat) (p:List Nat) (v:AV):zgt E t id i p v st k = (zgt E t id i p v st pk).bind fun p=>k p.1 p.2:=by
 unfold zgt
 (repeat' split) <;> first | rfl | simp only [zI,Option.bind_some,Option.bind_none]
theorem zFV (t:TypeId) (a v:AV):qY E t a v st k = (qY E t a v st pk).bind fun p=>k p.1 p.2:=by
 unfold qY
 (repeat' split) <;> first | rfl | simp only [zI,Option.bind_some,Option.bind_none,← zJh,← zJi,← zHA,← zHB]
theorem zDn (n:Int) (len:Nat) (f:Nat→Option (AV × St)):(zcL n len f).bind (fun p=>k p.1 p.2) = zcL n len fun i=>(f i).bind fun p=>k p.1 p.2:=by
 simp only [zcL,zI,Option.bind_none]
theorem zG6 (x:Option (Option AV)) (d most:Nat) (f:Nat→Option (AV × St)):(bnd x d most f).bind (fun p=>k p.1 p.2) = bnd x d most fun i=>(f i).bind fun p=>k p.1 p.2:=by
 unfold bnd
 split <;> simp only [zI,Option.bind_none]
theorem znl (t:TypeId) (x i:AV):qA E t x i st k = (qA E t x i st pk).bind fun p=>k p.1 p.2:=by
 unfold qA
 (repeat' split) <;> first | rfl | simp only [zI,Option.bind_some,Option.bind_none,zDn,Option.bind_assoc]
theorem zFW (t:TypeId) (x i:AV):zfI E t x i st k = (zfI E t x i st pk).bind fun p=>k p.1 p.2:=by
 unfold zfI
 (repeat' split) <;> simp only [zI,Option.bind_some,Option.bind_none,zDn,← zhz]
theorem zzJ (q:Bool) (ty:TypeId) (fn:Fn) (first caps:List (Option AV)):zaL q E ty fn first caps st k = (zaL q E ty fn first caps st pk).bind fun p=>k p.1 p.2:=by
 unfold zaL
 (repeat' split) <;> simp only [zI,Option.bind_some,Option.bind_none]
theorem zxw (big:Bool) (σ:Ty) (x:AV) (ys:List σ.I):yW big σ x ys st k = (yW big σ x ys st pk).bind fun p=>k p.1 p.2:=by
 unfold yW
 (repeat' split) <;> first | rfl | simp only [zI,Option.bind_some,Option.bind_none]
theorem zv2 (t u:TypeId) (id:Nat) (τ:Ty) (xs:List τ.I) (n jd:Nat) (σ:Ty) (ys:List σ.I) (m:Nat):y7 E t u id τ xs n jd σ ys m st k = (y7 E t u id τ xs n jd σ ys m st pk).bind fun p=>k p.1 p.2:=by
 unfold y7
 (repeat' split) <;> first | rfl | simp only [zI,Option.bind_some,Option.bind_none]
theorem zBL (t u:TypeId) (x y:AV):za1 E t u x y st k = (za1 E t u x y st pk).bind fun p=>k p.1 p.2:=by
 unfold za1
 (repeat' split) <;> first | rfl | simp only [zI,Option.bind_some,Option.bind_none,← zxw]
theorem zDo (t u:TypeId) (x y:AV):zdW E t u x y st k = (zdW E t u x y st pk).bind fun p=>k p.1 p.2:=by
 unfold zdW
 (repeat' split) <;> first | rfl | exact zv2 _ _ _ _ _ _ _ _ _ _ | exact zBL _ _ _ _
theorem zFX (q:Bool) (t:TypeId) (x:AV) (lo hi mx:Option (Option AV)):zfJ q E t x lo hi mx st k = (zfJ q E t x lo hi mx st pk).bind fun p=>k p.1 p.2:=by
 unfold zfJ
 (repeat' split) <;> simp only [zlY,zI,Option.bind_some,Option.bind_none,zG6]
 (repeat' split) <;> simp only [zlY,zI,Option.bind_some,Option.bind_none,zG6]
theorem zA6 (t:TypeId) (x:AV):zc6 E t x st k = (zc6 E t x st pk).bind fun p=>k p.1 p.2:=by
 unfold zc6
 (repeat' split) <;> first | rfl | simp only [zI,Option.bind_some,Option.bind_none]
theorem zDp (t:TypeId) (m i:AV) (ok:Bool):zaw E t m i ok st k = (zaw E t m i ok st pk).bind fun p=>k p.1 p.2:=by
 unfold zaw
 (repeat' split) <;> simp only [zI,Option.bind_some,Option.bind_none,← zhz]
theorem zxx (t:TypeId) (m i v:AV):za2 E t m i v st k = (za2 E t m i v st pk).bind fun p=>k p.1 p.2:=by
 unfold za2
 (repeat' split) <;> simp only [zI,Option.bind_some,Option.bind_none]
theorem zFY (q:Bool) (a r:Ty) (md:Nat) (g:a.I→Option r.I) (args:List (Option AV)):zbV q a r md g args st k = (zbV q a r md g args st pk).bind fun p=>k p.1 p.2:=by
 unfold zbV
 simp only [zI,Option.bind_none]
 congr 1
 cases r.plain && Nat.beq md 0 with
 | true =>
  simp only [cond_true]
  split
  ·rw [Option.bind_assoc]
   congr 1
   funext y
   exact zhz _
  ·rfl
 | false =>
  simp only [cond_false]
  cases r.ownRes && Nat.beq md 3 with
  | true =>
   simp only [cond_true]
   split
   ·rw [Option.bind_assoc]
    congr 1
    funext y
    exact zhz _
   ·rfl
  | false =>
   simp only [cond_false]
   split
   ·rw [Option.bind_assoc]
    congr 1
    funext y
    exact zhz _
   ·rfl
theorem zJj (add:Bool) (args:List (Option AV)):znh add args st k = (znh add args st pk).bind fun p=>k p.1 p.2:=by
 unfold znh
 split <;> first | rfl | simp only [zI,Option.bind_some,Option.bind_none]
theorem zHC (q:Bool) (c:Call):zfb q E c st k = (zfb q E c st pk).bind fun p=>k p.1 p.2:=by
 unfold zfb
 (repeat' split) <;> first | rfl | simp only [zI,Option.bind_some,Option.bind_none,← zFY,← zJg,← zJj,← zA6,← zDo,Option.bind_assoc]
theorem zBM (q:Bool) (s d:TypeId) (x:AV):zdS q E s d x st k = (zdS q E s d x st pk).bind fun p=>k p.1 p.2:=by
 unfold zdS
 (repeat' split) <;> simp only [zI,Option.bind_some,Option.bind_none]
theorem znm (t:TypeId) (x:AV) (f:Nat):qB E t x f st k = (qB E t x f st pk).bind fun p=>k p.1 p.2:=by
 unfold qB
 (repeat' split) <;> first | rfl | simp only [zI,Option.bind_some,Option.bind_none,Option.bind_assoc]
 all_goals (congr 1; funext y; (repeat' split) <;> first | rfl | simp only [zI,Option.bind_some,Option.bind_none])
theorem zHD (ty:TypeId) (v:AV):zkh E ty v st k = (zkh E ty v st pk).bind fun p=>k p.1 p.2:=by
 unfold zkh
 split <;> rfl
theorem zHE (x:Operand) (ty:TypeId):zaB E x ty st k = (zaB E x ty st pk).bind fun p=>k p.1 p.2:=by
 unfold zaB
 (repeat' split) <;> first | rfl | exact zHD _ _
theorem zBN (q:Bool) (τ:Ty) (n:Nat) (ps:List (Nat × Option AV)):zb6 q τ n ps st k = (zb6 q τ n ps st pk).bind fun p=>k p.1 p.2:=by
 unfold zb6
 split <;> simp only [zI,Option.bind_some,Option.bind_none]
theorem jw (q:Bool) (op:Op) (ty:TypeId):qJ q E op ty st k = (qJ q E op ty st pk).bind fun p=>k p.1 p.2:=by
 unfold qJ
 split
 all_goals ((repeat' split) <;> first | rfl | simp only [zam,zI,Option.bind_some,Option.bind_none,Option.bind_assoc,← zhz,← zxu,← zKz,← zxv,← zFV,← znl,← zFW,← zzJ,← zFX,← zDp,← zxx,← zHC,← zBM,← znm,← zHE,← zBN])
end
end Go.Ev
end
section
namespace Go.Ev
open Go.RowKit
def znn (q:Value→Bool):List Value→Option (List Value)
 | v :: l=>cond (q v) (some l) none
 | []=>none
def zcB:Ty→List Value→Option (List Value)
 | .unit,l=>some l
 | .bool,l=>znn (fun v=>match v with | .bool false=>true | _=>false) l
 | .int k,l=>znn (fun v=>match v with | .int k' n=>decide (k = k') && decide (n = 0) | _=>false) l
 | .str,l=>znn (fun v=>match v with | .string s=>decide (s.data = #[]) | _=>false) l
 | .pair a b,l=>(zcB a l).bind (zcB b)
 | .st a,l=>zcB a l
 | .arr n a,l=>n.rec (motive:=fun _=>List Value→Option (List Value)) some (fun _ ih l=>(zcB a l).bind ih) l
 | .sl _,l=>znn (fun v=>match v with | .slice none 0 0=>true | _=>false) l
 | .ptr _,l=>znn (fun v=>match v with | .pointer none=>true | _=>false) l
 | .fn _ _,l=>znn (fun v=>match v with | .nilFunc=>true | _=>false) l
theorem zca {q:Value→Bool} {l r:List Value} (h:znn q l = some r):∃ v,l = v :: r ∧ q v = true:=by
 cases l with
 | nil=>cases h
 | cons v l =>
  simp only [znn] at h
  cases hq:q v with
  | false=>rw [hq] at h; cases h
  | true=>rw [hq] at h; simp only [cond_true,Option.some.injEq] at h; exact ⟨v,by rw [h],hq⟩
theorem zDq (P:Program) (F:FH):∀ (τ:Ty) (l r:List Value),zcB τ l = some r→∃ c,l = c ++ r ∧ Rep P F τ (ze τ) c:=by
 intro τ
 induction τ with
 | unit=>intro l r h; simp only [zcB,Option.some.injEq] at h; exact ⟨[],by simp [h],rfl⟩
 | bool =>
  intro l r h
  obtain ⟨v,rfl,hv⟩:=zca h
  split at hv
  ·exact ⟨[.bool false],rfl,rfl⟩
  ·cases hv
 | int k =>
  intro l r h
  obtain ⟨v,rfl,hv⟩:=zca h
  split at hv
  ·simp only [Bool.and_eq_true,decide_eq_true_eq] at hv
   obtain ⟨rfl,rfl⟩:=hv
   exact ⟨[.int k 0],rfl,rfl⟩
  ·cases hv
 | str =>
  intro l r h
  obtain ⟨v,rfl,hv⟩:=zca h
  split at hv
  ·rename_i s
   obtain ⟨d⟩:=s
   simp only [decide_eq_true_eq] at hv
   subst hv
   exact ⟨[.string ⟨#[]⟩],rfl,rfl⟩
  ·cases hv
 | pair a b iha ihb =>
  intro l r h
  simp only [zcB,Option.bind_eq_some_iff] at h
  obtain ⟨l1,h1,h2⟩:=h
  obtain ⟨c,rfl,hc⟩:=iha _ _ h1
  obtain ⟨d,rfl,hd⟩:=ihb _ _ h2
  exact ⟨c ++ d,by simp,c,d,rfl,hc,hd⟩
 | st a ih=>intro l r h; exact ih l r h
 | arr n a ih =>
  intro l r h
  have:∀ (n:Nat) (l r:List Value),Nat.rec (motive:=fun _=>List Value→Option (List Value)) some (fun _ ih l=>(zcB a l).bind ih) n l = some r→∃ c,l = c ++ r ∧ RepL ((RR P a).1 F) (List.replicate n (ze a)) c:=by
   intro n
   induction n with
   | zero=>intro l r h; change some l = some r at h; simp only [Option.some.injEq] at h; exact ⟨[],by simp [h],rfl⟩
   | succ n ihn =>
    intro l r h
    change (zcB a l).bind _ = some r at h
    simp only [Option.bind_eq_some_iff] at h
    obtain ⟨l1,h1,h2⟩:=h
    obtain ⟨c,rfl,hc⟩:=ih _ _ h1
    obtain ⟨d,rfl,hd⟩:=ihn _ _ h2
    exact ⟨c ++ d,by simp,c,d,rfl,hc,hd⟩
  obtain ⟨c,h1,h2⟩:=this n l r h
  exact ⟨c,h1,by simp [ze],h2⟩
 | sl a _ =>
  intro l r h
  obtain ⟨v,rfl,hv⟩:=zca h
  split at hv
  ·exact ⟨[.slice none 0 0],rfl,none,0,rfl,Nat.le_refl _,fun hx=>absurd rfl hx⟩
  ·cases hv
 | ptr a _ =>
  intro l r h
  obtain ⟨v,rfl,hv⟩:=zca h
  split at hv
  ·exact ⟨[.pointer none],rfl,rfl⟩
  ·cases hv
 | fn a b _ _ =>
  intro l r h
  obtain ⟨v,rfl,hv⟩:=zca h
  split at hv
  ·exact ⟨[.nilFunc],rfl,rfl⟩
  ·cases hv
def zsH:Nat:=16384
def zbJ (P:Program) (t:TypeId) (τ:Ty):Bool :=
 match P.info? t with
 | some i=>Nat.beq i.size (nc τ) && Nat.ble i.bytes zsH && (Nat.ble 1 i.bytes && Nat.beq i.bytes τ.bts) && (match i.zero with
  | some z=>(isAggV z == τ.agg) && (match zcB τ z.cells.toList with | some []=>true | _=>false)
  | none=>false)
 | none=>false
theorem Ty.np_spec {τ:Ty} (h:τ.np = true):∀ a b,τ ≠ .pair a b:=by rintro a b rfl; cases h
def tyB (P:Program):Ty→(TypeId→Bool) × (List Field→Nat→Bool)
 | .unit=>(fun _=>false,fun fs _=>fs.isEmpty)
 | .bool=>(fun t=>zbJ P t .bool && (match P.underlying t with | some .bool=>true | _=>false),fun _ _=>false)
 | .int k=>(fun t=>zbJ P t (.int k) && (match P.underlying t with | some (.int k')=>decide (k = k') | _=>false),fun _ _=>false)
 | .str=>(fun t=>zbJ P t .str && (match P.underlying t with | some .string=>true | _=>false),fun _ _=>false)
 | .pair a b=>(fun t=>(match P.underlying t with | some (.map k e)=>(tyB P a).1 k && (tyB P b).1 e | _=>false) && (match P.info? t with | some i=>Nat.beq i.size 1 | none=>false),
  fun fs off=>match fs with
   | f :: fs=>Nat.beq f.offset off && (tyB P a).1 f.type && (Nat.blt 0 (nc a) && a.np) && (f.name != "_") && (tyB P b).2 fs (off + nc a)
   | []=>false)
 | .st a=>(fun t=>zbJ P t (.st a) && (match P.underlying t with | some (.struct fs)=>(tyB P a).2 fs.toList 0 && !P.stoodInHeld t && !P.eqGuardType P.depth t | _=>false),fun _ _=>false)
 | .arr n a=>(fun t=>zbJ P t (.arr n a) && (Nat.blt 0 (nc a) && a.np) && (match P.underlying t with | some (.array m e)=>Nat.beq m n && (tyB P a).1 e && !P.eqGuardType P.depth t | _=>false),fun _ _=>false)
 | .sl a=>(fun t=>zbJ P t (.sl a) && (Nat.blt 0 (nc a) && a.np) && (match P.underlying t with | some (.slice e)=>(tyB P a).1 e | _=>false),fun _ _=>false)
 | .ptr a=>(fun t=>zbJ P t (.ptr a) && (match P.underlying t with | some (.pointer _)=>true | _=>false),fun _ _=>false)
 | .fn a b=>(fun t=>zbJ P t (.fn a b) && (match P.underlying t with | some (.func _ _ _)=>true | _=>false),fun _ _=>false)
def zY (P:Program) (t:TypeId) (τ:Ty):Prop:=(tyB P τ).1 t = true
theorem jQ {P:Program} {t:TypeId} {τ:Ty} (h:zbJ P t τ = true) :
 ∃ i z,P.info? t = some i ∧ i.size = nc τ ∧ i.bytes ≤ zsH ∧ i.zero = some z ∧ ∀ F,zV P F τ (ze τ) z:=by
 unfold zbJ at h
 split at h
 ·rename_i i hi
  simp only [Bool.and_eq_true] at h
  obtain ⟨⟨⟨h1,h2⟩,_⟩,h3⟩:=h
  split at h3
  ·rename_i z hz
   simp only [Bool.and_eq_true,beq_iff_eq] at h3
   obtain ⟨h4,h5⟩:=h3
   split at h5
   ·rename_i hzc
    refine ⟨i,z,hi,Nat.eq_of_beq_eq_true h1,Nat.le_of_ble_eq_true h2,hz,fun F=>⟨?_,h4⟩⟩
    obtain ⟨c,hc,hr⟩:=zDq P F τ _ _ hzc
    rw [List.append_nil] at hc
    rw [hc]; exact hr
   ·cases h5
  ·cases h3
 ·cases h
theorem zos {P:Program} {t:TypeId} {τ:Ty} (h:zbJ P t τ = true) {i:TypeInfo} (hi:P.info? t = some i):0 < i.bytes:=by
 unfold zbJ at h
 rw [hi] at h
 simp only [Bool.and_eq_true] at h
 exact Nat.le_of_ble_eq_true h.1.2.1
theorem zY.head {P:Program} {t:TypeId} {τ:Ty} (h:zY P t τ) (hp:∀ a b,τ ≠ .pair a b):zbJ P t τ = true:=by
 cases τ with
 | unit=>cases h
 | pair a b=>exact absurd rfl (hp a b)
 | _=>simp only [zY,tyB,Bool.and_eq_true] at h; first | exact h.1 | exact h.1.1
theorem zJk {P:Program} {t:TypeId} {τ:Ty} (h:zbJ P t τ = true):P.bytesOf t = τ.bts:=by
 unfold zbJ at h
 split at h
 ·rename_i i hi
  simp only [Bool.and_eq_true] at h
  obtain ⟨⟨_,h2⟩,_⟩:=h
  unfold Program.bytesOf
  rw [hi]
  exact Nat.eq_of_beq_eq_true h2.2
 ·cases h
theorem zY.bts {P:Program} {t:TypeId} {τ:Ty} (h:zY P t τ) (hp:∀ a b,τ ≠ .pair a b):P.bytesOf t = τ.bts:=zJk (h.head hp)
theorem zY.sl {P:Program} {t:TypeId} {a:Ty} (h:zY P t (.sl a)):∃ e,P.underlying t = some (.slice e) ∧ zY P e a ∧ 0 < nc a ∧ a.np = true:=by
 simp only [zY,tyB,Bool.and_eq_true] at h
 obtain ⟨⟨_,h1⟩,h2⟩:=h
 split at h2
 ·rename_i e he; exact ⟨e,he,h2,Nat.le_of_ble_eq_true h1.1,h1.2⟩
 ·cases h2
theorem zY.arr {P:Program} {t:TypeId} {n:Nat} {a:Ty} (h:zY P t (.arr n a)):∃ e,P.underlying t = some (.array n e) ∧ zY P e a ∧ 0 < nc a ∧ a.np = true ∧ P.eqGuardType P.depth t = false:=by
 simp only [zY,tyB,Bool.and_eq_true] at h
 obtain ⟨⟨_,h1⟩,h2⟩:=h
 split at h2
 ·rename_i m e he
  simp only [Bool.and_eq_true,Bool.not_eq_true'] at h2
  obtain rfl:=Nat.eq_of_beq_eq_true h2.1.1
  exact ⟨e,he,h2.1.2,Nat.le_of_ble_eq_true h1.1,h1.2,h2.2⟩
 ·cases h2
theorem zY.st {P:Program} {t:TypeId} {a:Ty} (h:zY P t (.st a)):∃ fs,P.underlying t = some (.struct fs) ∧ (tyB P a).2 fs.toList 0 = true ∧ P.stoodInHeld t = false ∧ P.eqGuardType P.depth t = false:=by
 simp only [zY,tyB,Bool.and_eq_true] at h
 obtain ⟨_,h2⟩:=h
 split at h2
 ·rename_i fs he
  simp only [Bool.and_eq_true,Bool.not_eq_true'] at h2
  exact ⟨fs,he,h2.1.1,h2.1.2,h2.2⟩
 ·cases h2
theorem zqt {P:Program}:∀ {a:Ty} {fs:List Field} {off i o:Nat} {σ:Ty},(tyB P a).2 fs off = true→jt a i = some (o,σ) →
 ∃ f,fs[i]? = some f ∧ f.offset = off + o ∧ zY P f.type σ ∧ 0 < nc σ ∧ σ.np = true ∧ (f.name != "_") = true:=by
 intro a
 induction a with
 | pair a b _ ihb =>
  intro fs off i o σ h hn
  simp only [tyB] at h
  cases fs with
  | nil=>cases h
  | cons f fs =>
   simp only [Bool.and_eq_true] at h
   obtain ⟨⟨⟨⟨h1,h2⟩,h3⟩,h4⟩,h5⟩:=h
   cases i with
   | zero =>
    simp only [jt,Option.some.injEq,Prod.mk.injEq] at hn
    obtain ⟨rfl,rfl⟩:=hn
    exact ⟨f,rfl,Nat.eq_of_beq_eq_true h1,h2,Nat.le_of_ble_eq_true h3.1,h3.2,h4⟩
   | succ i =>
    simp only [jt,Option.map_eq_some_iff,Prod.mk.injEq,Prod.exists] at hn
    obtain ⟨o',σ',hn,rfl,rfl⟩:=hn
    obtain ⟨f',e1,e2,e3⟩:=ihb h5 hn
    exact ⟨f',by simpa using e1,by omega,e3⟩
 | _=>intro fs off i o σ h hn; simp [jt] at hn
theorem zY.isAgg {P:Program} {t:TypeId} {τ:Ty} (h:zY P t τ):∃ d,P.underlying t = some d ∧ (match d with | .struct _ | .array _ _=>true | _=>false) = τ.agg:=by
 cases τ with
 | unit=>cases h
 | pair a b =>
  simp only [zY,tyB,Bool.and_eq_true] at h
  have h:=h.1
  split at h
  ·rename_i k e he; exact ⟨_,he,rfl⟩
  ·cases h
 | sl a=>obtain ⟨e,he,_⟩:=h.sl; exact ⟨_,he,rfl⟩
 | arr n a=>obtain ⟨e,he,_⟩:=h.arr; exact ⟨_,he,rfl⟩
 | st a=>obtain ⟨e,he,_⟩:=h.st; exact ⟨_,he,rfl⟩
 | _ =>
  simp only [zY,tyB,Bool.and_eq_true] at h
  have h:=h.2
  split at h
  ·rename_i he; exact ⟨_,he,rfl⟩
  ·cases h
def zjs (P:Program) (F':FH) (w':World) (lo md:Nat) (r:Ty) (y:r.I) (us:List Value):Prop:=match md with
 | 1=>match r,y with
  | .pair (.sl a) b,y=>∃ v r,us = v :: r ∧ RepA P F' b y.2 r ∧
   ((∃ bk cap el cs c d,v = .slice (some ⟨bk,0,none⟩) (List.length y.1) cap ∧ List.length y.1 ≤ cap ∧ lo ≤ bk ∧ w'.heap[bk]? = some (.cells cs el (0,0)) ∧ F' bk = none ∧
    cs.size = cap * nc a ∧ cs.toList = c ++ d ∧ RepL (Rep P F' a) y.1 c) ∨ (y.1 = [] ∧ ∃ ad,v = .slice ad 0 0))
  | _,_=>False
 | 2=>match r,y with
  | .pair (.sl a) b,y=>∃ v r ad,us = v :: r ∧ RepA P F' b y.2 r ∧ v = .slice ad (List.length y.1) (List.length y.1) ∧ (y.1 ≠ []→∃ d cc,ad = some d ∧ At F' d cc ∧ RepL (Rep P F' a) y.1 cc)
  | _,_=>False
 | 3=>match r,y with
  | .pair (.st a) b,y=>∃ v r cs M D,us = v :: r ∧ RepA P F' b y.2 r ∧ v = .agg cs ∧ zhV P F' w' M D a 0 y.1 cs.toList ∧ zDm F' w' lo M D
  | _,_=>False
 | 4=>match r,y with
  | .pair (.sl a) b,y=>∃ v r M D,us = v :: r ∧ RepA P F' b y.2 r ∧ zhV P F' w' M D (.pair (.sl a) .unit) 0 (y.1,()) [v] ∧ zDm F' w' lo M D
  | _,_=>False
 | _=>RepA P F' r y us
def zkQ (P:Program) (G:FH) (f:FuncId) (F:Fun):Prop :=
 zsF P f ∧ ∀ x y,F.spec x = some y→∀ F0 w vs,G.le F0→F0.ok w→RepA P F0 F.a x vs →
  Calls P f vs.toArray w fun e w'=>∃ us F',e = .returned (zqs us) ∧ Below w.heap.size w w' ∧ F0.grow F' w.heap.size ∧ F'.ok w' ∧ zjs P F' w' w.heap.size F.md F.r y us
def ExtOk (P:Program) (f:FuncId) (add:Bool):Prop:=∀ (x y:Int) (w:World),0 ≤ x→0 ≤ y→y < 18446744073709551616 →
 (callFunc f #[.int .u64 x,.int .u64 y,.int .u64 0]).run P w = .ok (.value (.tuple #[.int .u64 (extA add x y),.int .u64 (extB add x y)])) w
def jx (P:Program) (h:List Obj) (m:MM) (F:FH):List AV→List Value→Prop
 | [],us=>us = []
 | v :: vs,us=>∃ u r,us = u :: r ∧ zh P h m F v u ∧ jx P h m F vs r
def zDr (P:Program) (G:FH) (f:FuncId) (H:Hd):Prop:=zsF P f ∧ ∀ (args:List AV) (h h':List Obj) (v:AV),H.g (AV × List Obj) args h (fun v h=>some (v,h)) = some (v,h') →
 ∀ (nt:Up) (F0:FH) (w0:World) (fr:List (Nat × AV)) (m:MM) (F:FH) (a:Act) (w:World) (vs:List Value),G.le F0→Rel P nt F0 w0 ⟨fr,h⟩ m F a w→jx P h m F args vs →
  Calls P f vs.toArray w fun e w'=>∃ u m' F',e = .returned u ∧ F.le F' ∧ Rel P nt F0 w0 ⟨fr,h'⟩ m' F' a w' ∧ zh P h' m' F' v u
structure EnvOk (P:Program) (G:FH) (E:Env):Prop where
 types:∀ t τ,qm E.types t = some τ→zY P t τ
 funs:∀ f F,look E.funs f = some F→zkQ P G f F
 glob:∀ g v,look E.glob g = some v→∃ τ x cs,v = .dat (.ptr τ) (some x) ∧ At G ⟨g,0,none⟩ cs ∧ Rep P G τ x cs
 ext:∀ f add,look E.ext f = some add→ExtOk P f add
 hnd:∀ f H,E.hnd f = some H→zDr P G f H
theorem Env.is_spec {E:Env} {t:Nat} {τ:Ty} (h:E.is t τ = true):qm E.types t = some τ:=by
 unfold Env.is at h
 split at h
 ·rename_i σ hσ; rw [hσ]; simp only [Bool.and_eq_true,decide_eq_true_eq] at h; rw [h.1]
 ·cases h
theorem Env.is_np {E:Env} {t:Nat} {τ:Ty} (h:E.is t τ = true):∀ a b,τ ≠ .pair a b:=by
 unfold Env.is at h
 split at h
 ·simp only [Bool.and_eq_true] at h; exact Ty.np_spec h.2
 ·cases h
theorem Env.isM_spec {E:Env} {t:Nat} {κ σ:Ty} (h:E.isM t κ σ = true):qm E.types t = some (.pair κ σ):=by
 unfold Env.isM at h
 split at h
 ·rename_i ρ hσ; rw [hσ]; simp only [decide_eq_true_eq] at h; rw [h]
 ·cases h
end Go.Ev
end
section
namespace Go.Ev
open Go.RowKit
theorem Rep.one {P:Program} {F:FH}:∀ {τ:Ty} {x:τ.I} {cs:List Value},Rep P F τ x cs→∀ v ∈ cs,v.oneCell' = true:=by
 intro τ
 induction τ with
 | unit=>intro x cs h; cases h; simp
 | bool=>intro x cs h; cases h; simp [Value.oneCell']
 | int k=>intro x cs h; cases h; simp [Value.oneCell']
 | str=>intro x cs h; cases h; simp [Value.oneCell']
 | pair a b iha ihb =>
  rintro x cs ⟨c,d,rfl,h1,h2⟩ v hv
  rcases List.mem_append.1 hv with hv | hv
  ·exact iha h1 v hv
  ·exact ihb h2 v hv
 | st a ih=>intro x cs h; exact ih (x:=x) h
 | arr n a ih =>
  rintro x cs ⟨_,h2⟩
  have:∀ (xs:List a.I) cs,RepL ((RR P a).1 F) xs cs→∀ v ∈ cs,v.oneCell' = true:=by
   intro xs
   induction xs with
   | nil=>intro cs h; cases h; simp
   | cons x xs ihx =>
    rintro cs ⟨c,d,rfl,h1,h2⟩ v hv
    rcases List.mem_append.1 hv with hv | hv
    ·exact ih h1 v hv
    ·exact ihx d h2 v hv
  exact this _ _ h2
 | sl a _=>rintro x cs ⟨ad,cap,rfl,_⟩; simp [Value.oneCell']
 | ptr a _ =>
  intro x cs h
  cases x with
  | none=>cases h; simp [Value.oneCell']
  | some x=>obtain ⟨_,_,rfl,_⟩:=h; simp [Value.oneCell']
 | fn a b _ _ =>
  intro x cs h
  cases x with
  | none=>cases h; simp [Value.oneCell']
  | some x=>obtain ⟨_,_,_,rfl,_⟩:=h; simp [Value.oneCell']
def toV (τ:Ty) (cs:List Value):Value:=match τ.agg,cs with | true,cs=>.agg cs.toArray | false,[v]=>v | false,_=>undef
theorem zDs {P:Program} {F:FH} {τ:Ty} {x:τ.I} {cs:List Value} (h:Rep P F τ x cs) (hn:nc τ = 1 ∨ τ.agg = true):zV P F τ x (toV τ cs) ∧ (toV τ cs).cells.toList = cs:=by
 have h1:=Rep.one h
 have hl:=Rep.length h
 unfold toV
 cases ha:τ.agg with
 | true=>simp only []; exact ⟨⟨by simpa [Value.cells] using h,by rw [ha]; rfl⟩,by simp [Value.cells]⟩
 | false =>
  rw [ha] at hn
  have hl:cs.length = 1:=by rw [hl]; exact hn.resolve_right (by simp)
  match cs,hl with
  | [v],_ =>
   have hv:=h1 v (by simp)
   have hc:v.cells = #[v]:=by cases v <;> first | rfl | cases hv
   refine ⟨⟨by rw [hc]; exact h,?_⟩,by simp [hc]⟩
   rw [ha]
   cases v <;> first | rfl | cases hv
theorem zJl {P:Program} {t:TypeId} {τ:Ty} (h:zY P t τ) (hp:∀ a b,τ ≠ .pair a b):nc τ = 1 ∨ τ.agg = true:=by
 cases τ with
 | unit=>cases h
 | pair a b=>exact absurd rfl (hp a b)
 | _=>first | exact .inl rfl | exact .inr rfl
structure Ext (h h':List Obj) (m m':MM) (F F':FH):Prop where
 hh:HLe h h'
 sm:∀ i o,atN h i = some o→atN h' i ≠ some .gone→jc h' m m' i o
 le:F.le F'
theorem Ext.refl (h:List Obj) (m:MM) (F:FH):Ext h h m m F F:=⟨.refl _,fun _ _ _ _=>jc.refl _ _ _ _,.refl _⟩
theorem zJm {o o1 o2:Obj} (h1:o.like o1) (h2:o1.like o2) {j:Nat} (hj:o.deepAt j = true) (hj2:o2.deepAt j = true):o1.deepAt j = true:=by
 cases o2 with
 | drow τ2 xs2 k2 =>
  rcases h2 with h2 | h2
  ·cases h2
  cases o1 with
  | drow τ1 xs1 k1 =>
   rcases h1 with h1 | h1
   ·cases h1
   cases o with
   | drow τ xs k =>
    have:=h1.2.1
    simp only [Obj.deepAt,decide_eq_true_eq] at hj ⊢
    omega
   | row _ _ _=>cases hj
   | _=>cases hj
  | row _ _ _=>obtain ⟨⟨_,_,h7⟩,_⟩:=h2; cases h7
  | _=>exact h2.elim
 | _=>cases hj2
theorem Ext.trans {h h1 h2:List Obj} {m m1 m2:MM} {F F1 F2:FH} (a:Ext h h1 m m1 F F1) (b:Ext h1 h2 m1 m2 F1 F2):Ext h h2 m m2 F F2:=by
 refine ⟨a.hh.trans b.hh,fun i o ho hg=>?_,a.le.trans b.le⟩
 obtain ⟨o1,e1,l1⟩:=a.hh i o ho
 obtain ⟨o2,e2,l2⟩:=b.hh i o1 e1
 have hg1:atN h1 i ≠ some .gone:=by
  intro e
  rw [e1] at e; cases e
  rw [zhy l2] at e2
  exact hg e2
 have s1:=a.sm i o ho hg1
 have s2:=b.sm i o1 e1 hg
 refine ⟨s2.1.trans s1.1,fun j p hj hj2=>?_⟩
 have hj1:o1.deepAt j = true:=zJm l1 l2 hj (by simp only [zkj,e2] at hj2; exact hj2)
 rw [s2.2 j p hj1 hj2,s1.2 j p hj (by simp only [zkj,e1]; exact hj1)]
theorem zh.ext {P:Program} {h h':List Obj} {m m':MM} {F F':FH} (e:Ext h h' m m' F F') {v:AV} {u:Value} (hr:zh P h m F v u):zh P h' m' F' v u:=zh.mono' e.hh e.sm e.le hr
theorem zE.ext {P:Program} {h h':List Obj} {m m':MM} {F F':FH} (e:Ext h h' m m' F F') {v:AV} {u:Value} (hr:zE P h m F v u):zE P h' m' F' v u:=zE.mono' e.hh e.sm e.le hr
theorem zX.ext {P:Program} {h h':List Obj} {m m':MM} {F F':FH} (e:Ext h h' m m' F F') {a:Ty} {vs:List AV} {cs:List Value} (hr:zX P h m F a vs cs):zX P h' m' F' a vs cs:=zX.mono' e.hh e.sm e.le hr
def FH.of (w:World):FH:=fun k=>match w.heap[k]? with | some (.cells c _ _)=>some c | _=>none
theorem FH.of_ok (w:World):(FH.of w).ok w:=fun k c h=>by
 unfold FH.of at h
 split at h
 ·rename_i c' el fz hk; cases h; exact ⟨el,fz,hk⟩
 ·cases h
theorem FH.of_some {w:World} {b:Nat} {c:Array Value} {el:TypeId} {fz:Nat × Nat} (h:w.heap[b]? = some (.cells c el fz)):FH.of w b = some c:=by unfold FH.of; rw [h]
theorem FH.le_of {F:FH} {w:World} (h:F.ok w):F.le (FH.of w):=fun k c hk=>by
 obtain ⟨el,fz,hw⟩:=h k c hk
 exact FH.of_some hw
open Classical in
noncomputable def FH.add (F:FH) (w:World) (S:Nat→Prop):FH:=fun k=>if S k then FH.of w k else F k
theorem FH.add_le {F:FH} {w:World} {S:Nat→Prop} (h:∀ k,S k→F k = none):F.le (F.add w S):=fun k c hk=>by
 unfold FH.add
 by_cases e:S k
 ·rw [h k e] at hk; cases hk
 ·rw [if_neg e]; exact hk
theorem FH.add_in {F:FH} {w:World} {S:Nat→Prop} {k:Nat} (h:S k):F.add w S k = FH.of w k:=by unfold FH.add; rw [if_pos h]
theorem FH.add_out {F:FH} {w:World} {S:Nat→Prop} {k:Nat} (h:¬ S k):F.add w S k = F k:=by unfold FH.add; rw [if_neg h]
theorem FH.add_ok {F:FH} {w:World} {S:Nat→Prop} (h:F.ok w):(F.add w S).ok w:=fun k c hk=>by
 by_cases e:S k
 ·rw [FH.add_in e] at hk; exact FH.of_ok w k c hk
 ·rw [FH.add_out e] at hk; exact h k c hk
theorem zkP.slice {P:Program} {F F':FH} {w:World} {b n cap:Nat} {σ:Ty} {xs:List σ.I} (h:zkP P F w b n (RepL (Rep P F σ) xs)) (hF:F.le F') (hb:∀ c el,w.heap[b]? = some (.cells c el (0,0))→F' b = some c) (hcap:xs.length ≤ cap) :
 Rep P F' (.sl σ) xs [.slice (some ⟨b,0,none⟩) xs.length cap]:=by
 obtain ⟨el,cs,c,d,h1,h2,h3,h4,h5⟩:=h
 refine ⟨_,cap,rfl,hcap,fun _=>⟨_,c,rfl,⟨rfl,cs,hb _ _ h1,fun j v hj=>?_⟩,RepL.mono (fun _ _ h=>Rep.mono hF h) _ _ h5⟩⟩
 have hlt:=(List.getElem?_eq_some_iff.1 hj).1
 rw [Nat.zero_add,← Array.getElem?_toList,h3,List.getElem?_append_left hlt]
 exact hj
theorem DSl.rep {P:Program} {F F':FH} {w:World} {o:Option (Nat × Nat)} {σ:Ty} {xs:List σ.I} {cs:List Value} (hF:F.le F') (hD:∀ b n,o = some (b,n)→∀ c el,w.heap[b]? = some (.cells c el (0,0))→F' b = some c) (h:DSl P F w o σ xs cs):Rep P F' (.sl σ) xs cs:=by
 unfold DSl at h
 cases o with
 | none =>
  obtain ⟨rfl,ad,rfl⟩:=h
  exact ⟨ad,0,rfl,Nat.le_refl _,fun h=>absurd rfl h⟩
 | some bn =>
  obtain ⟨b,n⟩:=bn
  obtain ⟨cap,h1,h2,rfl,h4⟩:=h
  exact h4.slice hF (hD _ _ rfl) h2
theorem DFl.rep {P:Program} {F F':FH} {w:World} {o:Option (Nat × Nat)} {τ:Ty} {x:τ.I} {cs:List Value} (hF:F.le F') (hD:∀ b n,o = some (b,n)→∀ c el,w.heap[b]? = some (.cells c el (0,0))→F' b = some c) (h:DFl P F w o τ x cs):Rep P F' τ x cs:=by
 cases τ with
 | sl σ=>exact DSl.rep hF hD h
 | unit=>exact (Rep.mono hF (show Rep P F .unit x cs from h):Rep P F' .unit x cs)
 | bool=>exact (Rep.mono hF (show Rep P F .bool x cs from h):Rep P F' .bool x cs)
 | int k=>exact (Rep.mono hF (show Rep P F (.int k) x cs from h):Rep P F' (.int k) x cs)
 | str=>exact (Rep.mono hF (show Rep P F .str x cs from h):Rep P F' .str x cs)
 | pair a b=>exact (Rep.mono hF (show Rep P F (.pair a b) x cs from h):Rep P F' (.pair a b) x cs)
 | st a=>exact (Rep.mono hF (show Rep P F (.st a) x cs from h):Rep P F' (.st a) x cs)
 | arr n a=>exact (Rep.mono hF (show Rep P F (.arr n a) x cs from h):Rep P F' (.arr n a) x cs)
 | ptr a=>exact (Rep.mono hF (show Rep P F (.ptr a) x cs from h):Rep P F' (.ptr a) x cs)
 | fn a b=>exact (Rep.mono hF (show Rep P F (.fn a b) x cs from h):Rep P F' (.fn a b) x cs)
theorem zMm (P:Program) {F F':FH} {w:World} {D:List Nat→Option (Nat × Nat)} (hF:F.le F') (hD:∀ p b n,D p = some (b,n)→∀ c el,w.heap[b]? = some (.cells c el (0,0))→F' b = some c) :
 ∀ (a:Ty) (i:Nat) (x:a.I) (cs:List Value),DC P F w D a i x cs→Rep P F' a x cs:=by
 intro a
 induction a with
 | pair a b _ ihb=>intro i x cs ⟨c,d,e,h1,h2⟩; exact ⟨c,d,e,h1.rep hF fun b n hb=>hD _ b n hb,ihb _ _ _ h2⟩
 | unit=>intro i x cs h; exact h
 | _=>intro i x cs h; exact h.elim
theorem zxy (P:Program) {F F':FH} {w:World} {D:List Nat→Option (Nat × Nat)} (hF:F.le F') (hD:∀ p b n,D p = some (b,n)→∀ c el,w.heap[b]? = some (.cells c el (0,0))→F' b = some c) :
 ∀ (τ:Ty) (x:τ.I) (cs:List Value),DR P F w D τ x cs→Rep P F' τ x cs:=by
 intro τ x cs h
 cases τ with
 | sl σ=>exact DSl.rep hF (fun b n hb=>hD _ b n hb) h
 | st a=>exact zMm P hF hD a 0 x cs h
 | _=>exact h.elim
theorem z5.toL {α:Type} {R:Nat→α→List Value→Prop} {R':α→List Value→Prop}:∀ {xs:List α} {i:Nat} {cs:List Value},(∀ j x c,i ≤ j→j < i + xs.length→R j x c→R' x c)→z5 R i xs cs→RepL R' xs cs
 | [],_,_,_,e=>e
 | _ :: xs,i,_,h,⟨c,d,e,h1,h2⟩=>⟨c,d,e,h _ _ _ (Nat.le_refl i) (by simp) h1,z5.toL (fun j x c h3 h4=>h j x c (by omega) (by simp only [List.length_cons]; omega)) h2⟩
theorem z5.ofL {α:Type} {R:Nat→α→List Value→Prop} {R':α→List Value→Prop}:∀ {xs:List α} {i:Nat} {cs:List Value},(∀ j x c,i ≤ j→R' x c→R j x c)→RepL R' xs cs→z5 R i xs cs
 | [],_,_,_,e=>e
 | _ :: xs,i,_,h,⟨c,d,e,h1,h2⟩=>⟨c,d,e,h _ _ _ (Nat.le_refl i) h1,z5.ofL (fun j x c h3=>h j x c (by omega)) h2⟩
section
variable {P:Program} {nt:Up} {F0 F G:FH} {w0 w:World} {st st':St} {m:MM} {a:Act} {E:Env}
theorem Rel.row (h:Rel P nt F0 w0 st m F a w) {i b n:Nat} {τ:Ty} {xs:List τ.I} {fz:Bool} (ho:atN st.h i = some (.row τ xs fz)) (hm:m i = some (b,n)) :
 ∃ el fr cs c d,w.heap[b]? = some (.cells cs el fr) ∧ cs.size = n ∧ cs.toList = c ++ d ∧ RepL (Rep P F τ) xs c ∧ zHz F b cs fr fz:=by
 have:=h.obs i _ ho
 simp only [z6,hm] at this
 exact this
theorem Rel.drow (h:Rel P nt F0 w0 st m F a w) {i b n:Nat} {τ:Ty} {xs:List τ.I} {k:Nat} (ho:atN st.h i = some (.drow τ xs k)) (hm:m i = some (b,n)) :
 zkP P F w b n (z5 (DE P F w (m.d i) τ k) 0 xs):=by
 have:=h.obs i _ ho
 simp only [z6,hm] at this
 exact this.2.2
theorem Rel.drowk (h:Rel P nt F0 w0 st m F a w) {i:Nat} {τ:Ty} {xs:List τ.I} {k:Nat} (ho:atN st.h i = some (.drow τ xs k)):k ≤ xs.length ∧ τ.deep = true:=⟨(h.obs i _ ho).1,(h.obs i _ ho).2.1⟩
theorem Rel.drow0 (h:Rel P nt F0 w0 st m F a w) {i:Nat} {τ:Ty} {xs:List τ.I} {k:Nat} (ho:atN st.h i = some (.drow τ xs k)) (hm:m i = none):xs = []:=by
 have:=h.obs i _ ho
 simp only [z6,hm] at this
 exact this.2.2
theorem zV.sl_of_row {F:FH} {τ:Ty} {xs:List τ.I} {b cap:Nat} {cs:Array Value} {c d:List Value} (hF:F b = some cs) (hc:cs.toList = c ++ d) (hr:RepL (Rep P F τ) xs c) (hcap:xs.length ≤ cap) :
 zV P F (.sl τ) xs (.slice (some ⟨b,0,none⟩) xs.length cap):=by
 refine ⟨⟨_,cap,rfl,hcap,fun _=>⟨_,c,rfl,⟨rfl,cs,hF,fun j v hj=>?_⟩,hr⟩⟩,rfl⟩
 have hlt:=(List.getElem?_eq_some_iff.1 hj).1
 rw [Nat.zero_add,← Array.getElem?_toList,hc,List.getElem?_append_left hlt]
 exact hj
theorem zV.sl_nil {F:FH} {τ:Ty} {ad:Option Addr}:zV P F (.sl τ) [] (.slice ad 0 0) :=
 ⟨⟨ad,0,rfl,Nat.le_refl _,fun h=>absurd rfl h⟩,rfl⟩
def MM.drop (m:MM) (i:Nat):MM:=⟨m.f,fun i'=>if i' = i then fun _ _=>none else m.d i'⟩
theorem Rel.freezeD (h:Rel P nt F0 w0 st m F a w) {i:Nat} {o o':Obj} (ho:atN st.h i = some o) (hl:o.like o') (hd:∀ j,o'.deepAt j = false) {S:Nat→Prop}
 (h1:∀ k,S k→((∃ n,m i = some (k,n)) ∧ F k = none) ∨ ∃ j p n,m.d i j p = some (k,n)) (h2:∀ j p k n,m.d i j p = some (k,n)→S k)
 (hnew:z6 P (zf st.h i o') (m.drop i) (F.add w S) w i o') :
 Rel P nt F0 w0 ⟨st.fr,zf st.h i o'⟩ (m.drop i) (F.add w S) a w ∧ Ext st.h (zf st.h i o') m (m.drop i) F (F.add w S):=by
 have hh:HLe st.h (zf st.h i o'):=HLe.set ho hl
 have hSn:∀ k,S k→F k = none:=fun k hk=>by
  rcases h1 k hk with ⟨_,e⟩ | ⟨j,p,n,e⟩
  ·exact e
  ·exact (h.dok _ _ _ _ _ e).2.2.2.1
 have hSo:∀ k,S k→w0.heap.size ≤ k:=fun k hk=>by
  rcases h1 k hk with ⟨⟨n,e⟩,_⟩ | ⟨j,p,n,e⟩
  ·exact (h.rng _ _ _ e).2.1
  ·exact (h.dok _ _ _ _ _ e).2.1
 have hle:F.le (F.add w S):=FH.add_le hSn
 have hSm:∀ j u,atN st.h j = some u→jc (zf st.h i o') m (m.drop i) j u:=fun j u hu=>⟨rfl,fun k p h3 h4=>by
  by_cases e:j = i
  ·subst e
   rw [ho] at hu; cases hu
   simp only [zkj,vw ho,hd] at h4
   cases h4
  ·simp only [MM.drop,e,if_false]⟩
 have hx:Ext st.h (zf st.h i o') m (m.drop i) F (F.add w S):=⟨hh,fun j u hu _=>hSm j u hu,hle⟩
 have hdr:∀ {i' j p b n},(m.drop i).d i' j p = some (b,n)→i' ≠ i ∧ m.d i' j p = some (b,n):=by
  intro i' j p b n hp
  simp only [MM.drop] at hp
  by_cases e:i' = i
  ·rw [if_pos e] at hp; cases hp
  ·rw [if_neg e] at hp; exact ⟨e,hp⟩
 have hnS:∀ {i' j p b n},i' ≠ i→m.d i' j p = some (b,n)→¬ S b:=by
  intro i' j p b n e hp hS
  rcases h1 b hS with ⟨⟨n',e'⟩,_⟩ | ⟨j',p',n',e'⟩
  ·exact (h.dok _ _ _ _ _ hp).2.2.2.2 _ _ e'
  ·exact e (h.din _ _ _ _ _ _ _ _ _ hp e').1
 refine ⟨⟨h.nt,fun t v ht=>(h.fr t v ht).ext hx,fun v u hv=>(h.up v u hv).ext hx,h.lo.trans hx.le,fun j u hu=>?_,h.inj,fun j b n hj=>?_,fun i' j p b n hp=>?_,fun i1 j1 p1 b n i2 j2 p2 n' g1 g2=>h.din _ _ _ _ _ _ _ _ _ (hdr g1).2 (hdr g2).2,FH.add_ok h.fok,⟨h.gro.1.trans hle,fun k hk=>?_⟩,h.bel,h.dfr⟩,hx⟩
 ·by_cases e:i = j
  ·subst e
   rw [vw ho] at hu
   cases hu
   exact hnew
  ·have hu':atN st.h j = some u:=by rw [qp e] at hu; exact hu
   refine (h.obs j u hu').mono hh hSm hle hu' hu (fun b n hb=>rfl) (fun b n hb hn=>?_) (fun k p b n hk hp=>⟨rfl,fun hn=>?_⟩)
   ·rw [FH.add_out]
    ·exact hn
    ·intro hS
     rcases h1 b hS with ⟨⟨n',e'⟩,_⟩ | ⟨j',p',n',e'⟩
     ·exact e (h.inj _ _ _ _ _ e' hb)
     ·exact (h.dok _ _ _ _ _ e').2.2.2.2 _ _ hb
   ·rw [FH.add_out (hnS (Ne.symm e) hp)]
    exact hn
 ·have:=h.rng j b n hj
  simp only [qS,List.length_set]
  omega
 ·obtain ⟨e,hp'⟩:=hdr hp
  obtain ⟨⟨u,g1,g2⟩,g3,g4,g5,g6⟩:=h.dok _ _ _ _ _ hp'
  exact ⟨⟨u,by rw [qp (Ne.symm e)]; exact g1,g2⟩,g3,g4,by rw [FH.add_out (hnS e hp')]; exact g5,g6⟩
 ·rw [FH.add_out]
  ·exact h.gro.2 k hk
  ·intro hS
   have:=hSo k hS
   omega
theorem zqu {τ:Ty} {xs:List τ.I} {f f':Bool}:(Obj.row τ xs f).like (.row τ xs f'):=.inr ⟨⟨xs,f',rfl⟩,rfl⟩
theorem zkR {τ:Ty} {xs:List τ.I} {k:Nat} {f:Bool}:(Obj.drow τ xs k).like (.row τ xs f):=.inr rfl
theorem zA7 {q:Bool} {v:AV} {u:Value} {τ:Ty} {x:τ.I} (hz:qD q st v = some ⟨τ,x,st'⟩) (h:Rel P nt F0 w0 st m F a w) (hv:zF P st.h m F v u) :
 ∃ m' F',Rel P nt F0 w0 st' m' F' a w ∧ zV P F' τ x u ∧ Ext st.h st'.h m m' F F':=by
 cases v with
 | dat τ' y =>
  simp only [qD,Option.some.injEq] at hz
  cases hz
  exact ⟨m,F,h,hv,.refl _ _ _⟩
 | clip τ' ys =>
  simp only [qD,Option.some.injEq] at hz
  cases hz
  obtain ⟨ad,rfl,h1⟩:=hv
  exact ⟨m,F,h,⟨⟨ad,_,rfl,Nat.le_refl _,h1⟩,rfl⟩,.refl _ _ _⟩
 | ow id =>
  rcases hv with hg | ⟨o,σ,len,ho,hT,hu⟩
  ·simp [qD,hg] at hz
  simp only [qD,ho] at hz
  cases o with
  | row σ' xs fz =>
   simp only [rowTL,Option.some.injEq,Prod.mk.injEq] at hT
   obtain ⟨rfl,rfl⟩:=hT
   cases hmi:m id with
   | none =>
    rw [hmi] at hu
    obtain ⟨hlen,ad,rfl⟩:=hu
    have hxs:xs = []:=List.length_eq_zero_iff.1 hlen
    subst hxs
    cases fz with
    | true=>simp only [Option.some.injEq] at hz; cases hz; exact ⟨m,F,h,.sl_nil,.refl _ _ _⟩
    | false =>
     cases q with
     | true=>cases hz
     | false =>
      simp only [cond_false,Option.some.injEq] at hz
      cases hz
      refine ⟨m,F,?_,.sl_nil,⟨HLe.set ho zqu,fun _ _ _ _=>jc.refl _ _ _ _,.refl _⟩⟩
      exact h.turn ho zqu (fun j=>rfl) rfl rfl rfl rfl (fun _ _=>rfl) (fun b n hb=>by rw [hmi] at hb; cases hb) (by simp only [z6,hmi])
   | some bn =>
    obtain ⟨b,n⟩:=bn
    rw [hmi] at hu
    obtain ⟨cap,hn,hcap,rfl⟩:=hu
    obtain ⟨el,fr,cs,c,d,h1,h2,h3,h4,h5⟩:=h.row ho hmi
    cases fz with
    | true =>
     simp only [Option.some.injEq] at hz
     cases hz
     exact ⟨m,F,h,.sl_of_row h5 h3 h4 hcap,.refl _ _ _⟩
    | false =>
     cases q with
     | true=>cases hz
     | false =>
      simp only [cond_false,Option.some.injEq] at hz
      cases hz
      have hle:=FH.put_le b cs h5.1
      have hr:RepL (Rep P (F.put b cs) _) xs c:=RepL.mono (fun _ _ h=>Rep.mono hle h) _ _ h4
      have hF:F.put b cs b = some cs:=by simp [FH.put]
      obtain ⟨h6,h7⟩:=h.freeze (o':=.row _ xs true) ho zqu (fun j=>rfl) hmi h5.1 h1 (by
       simp only [z6,hmi]
       exact ⟨el,fr,cs,c,d,h1,h2,h3,hr,hF⟩)
      exact ⟨m,_,h6,.sl_of_row hF h3 hr hcap,⟨HLe.set ho zqu,fun _ _ _ _=>jc.refl _ _ _ _,h7⟩⟩
  | drow σ' xs k =>
   simp only [rowTL,Option.some.injEq,Prod.mk.injEq] at hT
   obtain ⟨rfl,rfl⟩:=hT
   cases q with
   | true=>cases hz
   | false =>
    simp only [cond_false,Option.some.injEq] at hz
    cases hz
    cases hmi:m id with
    | none =>
     rw [hmi] at hu
     obtain ⟨hlen,ad,rfl⟩:=hu
     have hxs:xs = []:=List.length_eq_zero_iff.1 hlen
     subst hxs
     obtain ⟨h6,h7⟩:=h.freezeD (o':=.row _ [] true) (S:=fun k=>∃ j p n,m.d id j p = some (k,n)) ho zkR (fun j=>rfl) (fun k hk=>.inr hk) (fun j p k n hp=>⟨j,p,n,hp⟩) (by simp only [z6,MM.drop,hmi])
     exact ⟨_,_,h6,.sl_nil,h7⟩
    | some bn =>
     obtain ⟨b,n⟩:=bn
     rw [hmi] at hu
     obtain ⟨cap,hn,hcap,rfl⟩:=hu
     obtain ⟨el,cs,c,d,h1,h2,h3,h4,h5⟩:=h.drow ho hmi
     have hS0:∀ k,((k = b) ∨ ∃ j p n,m.d id j p = some (k,n))→F k = none:=by
      rintro k (rfl | ⟨j,p,n',hp⟩)
      ·exact h4
      ·exact (h.dok _ _ _ _ _ hp).2.2.2.1
     have hle:F.le (F.add w fun k=>(k = b) ∨ ∃ j p n,m.d id j p = some (k,n)):=FH.add_le hS0
     have hF:(F.add w fun k=>(k = b) ∨ ∃ j p n,m.d id j p = some (k,n)) b = some cs:=by rw [FH.add_in (.inl rfl)]; exact FH.of_some h1
     have hr:RepL (Rep P (F.add w fun k=>(k = b) ∨ ∃ j p n,m.d id j p = some (k,n)) _) xs c:=by
      refine z5.toL (fun j x c' _ _ hx=>?_) h5
      unfold DE at hx
      split at hx
      ·exact zxy P hle (fun p b' n' hp c el hc=>by rw [FH.add_in (.inr ⟨j,p,n',hp⟩)]; exact FH.of_some hc) _ _ _ hx
      ·exact Rep.mono hle hx
     obtain ⟨h6,h7⟩:=h.freezeD (o':=.row _ xs true) (S:=fun k=>(k = b) ∨ ∃ j p n,m.d id j p = some (k,n)) ho zkR (fun j=>rfl) (fun k hk=>by
      rcases hk with rfl | hk
      ·exact .inl ⟨⟨n,hmi⟩,h4⟩
      ·exact .inr hk) (fun j p k n hp=>.inr ⟨j,p,n,hp⟩) (by
      simp only [z6,MM.drop,hmi]
      exact ⟨el,(0,0),cs,c,d,h1,h2,h3,hr,hF⟩)
     exact ⟨_,_,h6,.sl_of_row hF h3 hr hcap,h7⟩
  | _=>cases hT
 | bp id p =>
  cases p with
  | cons _ _=>simp [qD] at hz
  | nil =>
   rcases hv with hg | ⟨b,n,o,off,hmi,ho,rfl,h2⟩
   ·simp [qD,hg] at hz
   simp only [qD,ho] at hz
   cases o with
   | bx v fz =>
    cases v with
    | dat σ y =>
     obtain ⟨ρ,h3⟩:=h2
     simp only [qa,Option.some.injEq,Prod.mk.injEq] at h3
     obtain ⟨rfl,rfl⟩:=h3
     obtain ⟨b',n',el,fr,cs,h4,h5,h6,h7⟩:=h.obs id _ ho
     rw [hmi] at h4
     cases h4
     have hat:∀ F',F' b = some cs→Rep P F' σ y cs.toList→zV P F' (.ptr σ) (some y) (.pointer (some ⟨b,0,none⟩)):=fun F' hF' hr =>
      ⟨⟨_,_,rfl,⟨rfl,cs,hF',fun j v hj=>by rw [Nat.zero_add,← Array.getElem?_toList]; exact hj⟩,hr⟩,rfl⟩
     cases fz with
     | true =>
      simp only [Option.some.injEq] at hz
      cases hz
      exact ⟨m,F,h,hat _ h7 h6,.refl _ _ _⟩
     | false =>
      cases q with
      | true=>cases hz
      | false =>
       simp only [cond_false,Option.some.injEq] at hz
       cases hz
       have hle:=FH.put_le b cs h7.1
       have hF:F.put b cs b = some cs:=by simp [FH.put]
       obtain ⟨h8,h9⟩:=h.freeze (o':=.bx (.dat σ y) true) ho (.inr rfl) (fun j=>rfl) hmi h7.1 h5 ⟨b,n,el,fr,cs,hmi,h5,Rep.mono hle h6,hF⟩
       exact ⟨m,_,h8,hat _ hF (Rep.mono hle h6),⟨HLe.set ho (.inr rfl),fun _ _ _ _=>jc.refl _ _ _ _,h9⟩⟩
    | _=>cases hz
   | _=>cases hz
 | _=>simp [qD] at hz
theorem zFZ {q:Bool} {v:AV} {u:Value} {σ:Ty} {x:σ.I} (hz:yw q σ st v = some (x,st')) (h:Rel P nt F0 w0 st m F a w) (hv:zF P st.h m F v u) :
 ∃ m' F',Rel P nt F0 w0 st' m' F' a w ∧ zV P F' σ x u ∧ Ext st.h st'.h m m' F F':=by
 unfold yw at hz
 split at hz
 ·rename_i τ y st1 h1
  split at hz
  ·rename_i z hc
   cases hz
   obtain ⟨rfl,rfl⟩:=zP hc
   exact zA7 h1 h hv
  ·cases hz
 ·cases hz
theorem zHF {q:Bool}:∀ {τ:Ty} {vs:List AV} {cs:List Value} {x:τ.I} {st st':St} {m:MM} {F:FH},jl q τ vs st = some (x,st')→Rel P nt F0 w0 st m F a w→zX P st.h m F τ vs cs →
 ∃ m' F',Rel P nt F0 w0 st' m' F' a w ∧ Rep P F' τ x cs ∧ Ext st.h st'.h m m' F F':=by
 intro τ
 induction τ with
 | unit =>
  intro vs cs x st st' m F hz h hv
  cases vs with
  | nil=>simp only [jl,Option.some.injEq] at hz; cases hz; exact ⟨m,F,h,hv,.refl _ _ _⟩
  | cons _ _=>simp [jl] at hz
 | pair c0 b iha ihb =>
  intro vs cs x st st' m F hz h hv
  cases vs with
  | nil=>simp [jl] at hz
  | cons v vs =>
   obtain ⟨c,d,rfl,h1,h2⟩:=hv
   simp only [jl] at hz
   split at hz
   ·rename_i y st1 hy
    split at hz
    ·rename_i ys st2 hys
     cases hz
     have key:∃ m' F',Rel P nt F0 w0 st1 m' F' a w ∧ Rep P F' c0 y c ∧ Ext st.h st1.h m m' F F':=by
      cases v with
      | dat τ' z =>
       obtain ⟨rfl,h3⟩:=h1
       simp only [yw,qD,qK,dite_true,Option.some.injEq,Prod.mk.injEq] at hy
       obtain ⟨rfl,rfl⟩:=hy
       exact ⟨m,F,h,h3,.refl _ _ _⟩
      | ow id =>
       obtain ⟨σ,u,rfl,rfl,h3,_⟩:=h1
       obtain ⟨m',F',g1,g2,g3⟩:=zFZ hy h h3
       have:Rep P F' (.sl σ) y [u]:=by
        have:=g2.1
        obtain ⟨ad,cap,e,_⟩:=this
        have hc:u.cells.toList = [u]:=by
         cases u <;> simp [Value.cells] at e ⊢
         rename_i arr
         have:=g2.2
         simp [isAggV,Ty.agg] at this
        rw [← hc]; exact g2.1
       exact ⟨m',F',g1,this,g3⟩
      | ds id i p=>simp [yw,qD] at hy
      | clo f l=>simp [yw,qD] at hy
      | _=>exact h1.elim
     obtain ⟨m1,F1,e2,e3,e4⟩:=key
     obtain ⟨m2,F2,f2,f3,f4⟩:=ihb hys e2 (h2.ext e4)
     exact ⟨m2,F2,f2,⟨c,d,rfl,e3.mono f4.le,f3⟩,e4.trans f4⟩
    ·cases hz
   ·cases hz
 | _=>intro vs cs x st st' m F hz h hv; simp [jl] at hz
theorem zMn {q:Bool} {v:AV} (hv:∀ a vs,v ≠ .fld a vs):frz q st v = qD q st v:=by
 cases v <;> first | rfl | exact absurd rfl (hv _ _)
theorem vT {q:Bool} {v:AV} {u:Value} {τ:Ty} {x:τ.I} (hz:frz q st v = some ⟨τ,x,st'⟩) (h:Rel P nt F0 w0 st m F a w) (hv:zh P st.h m F v u) :
 ∃ m' F',Rel P nt F0 w0 st' m' F' a w ∧ zV P F' τ x u ∧ Ext st.h st'.h m m' F F':=by
 by_cases hf:∃ a vs,v = .fld a vs
 ·obtain ⟨b,vs,rfl⟩:=hf
  simp only [frz] at hz
  split at hz
  ·rename_i y st1 hy
   cases hz
   obtain ⟨cs,rfl,h1⟩:=hv
   obtain ⟨m',F',g1,g2,g3⟩:=zHF hy h h1
   exact ⟨m',F',g1,⟨g2,rfl⟩,g3⟩
  ·cases hz
 have h1:∀ a vs,v ≠ .fld a vs:=fun a vs e=>hf ⟨a,vs,e⟩
 by_cases ht:∃ vs,v = .tup vs
 ·obtain ⟨vs,rfl⟩:=ht; simp [frz,qD] at hz
 have h2:∀ vs,v ≠ .tup vs:=fun vs e=>ht ⟨vs,e⟩
 rw [zMn h1] at hz
 rw [zh.eq1 h2,zE.eqS h1] at hv
 exact zA7 hz h hv
theorem zxz {q:Bool} {v:AV} {u:Value} {σ:Ty} {x:σ.I} (hz:zgQ q σ st v = some (x,st')) (h:Rel P nt F0 w0 st m F a w) (hv:zh P st.h m F v u) :
 ∃ m' F',Rel P nt F0 w0 st' m' F' a w ∧ zV P F' σ x u ∧ Ext st.h st'.h m m' F F':=by
 unfold zgQ at hz
 split at hz
 ·rename_i τ y st1 h1
  split at hz
  ·rename_i z hc
   cases hz
   obtain ⟨rfl,rfl⟩:=zP hc
   exact vT h1 h hv
  ·cases hz
 ·cases hz
theorem jx.ext {h h':List Obj} {m m':MM} {F F':FH} (e:Ext h h' m m' F F'):∀ {vs:List AV} {us:List Value},jx P h m F vs us→jx P h' m' F' vs us
 | [],_,e'=>e'
 | _ :: _,_,⟨u,r,e',h1,h2⟩=>⟨u,r,e',h1.ext e,jx.ext e h2⟩
theorem zeH {q:Bool}:∀ {τ:Ty} {vs:List AV} {us:List Value} {x:τ.I} {st st':St} {m:MM} {F:FH},jF q τ vs st = some (x,st')→Rel P nt F0 w0 st m F a w→jx P st.h m F vs us →
 ∃ m' F',Rel P nt F0 w0 st' m' F' a w ∧ RepA P F' τ x us ∧ Ext st.h st'.h m m' F F':=by
 intro τ
 induction τ with
 | unit =>
  intro vs us x st st' m F hz h hv
  cases vs with
  | nil=>simp only [jF,Option.some.injEq] at hz; cases hz; exact ⟨m,F,h,hv,.refl _ _ _⟩
  | cons _ _=>simp [jF] at hz
 | pair a b iha ihb =>
  intro vs us x st st' m F hz h hv
  cases vs with
  | nil=>simp [jF] at hz
  | cons v vs =>
   obtain ⟨u,r,rfl,h1,h2⟩:=hv
   simp only [jF] at hz
   split at hz
   ·rename_i y st1 hy
    split at hz
    ·rename_i ys st2 hys
     cases hz
     obtain ⟨m1,F1,e2,e3,e4⟩:=zxz hy h h1
     obtain ⟨m2,F2,f2,f3,f4⟩:=ihb hys e2 (h2.ext e4)
     exact ⟨m2,F2,f2,⟨u,r,rfl,(e3.mono f4.le).1,e3.2,f3⟩,e4.trans f4⟩
    ·cases hz
   ·cases hz
 | _=>intro vs us x st st' m F hz h hv; simp [jF] at hz
theorem zxA {v:AV} {u:Value} {τ:Ty} {x:τ.I} (hz:zc4 st.h v = some ⟨τ,x⟩) (h:Rel P nt F0 w0 st m F a w) (hv:zF P st.h m F v u):zV P (FH.of w) τ x u:=by
 have hle:=FH.le_of h.fok
 cases v with
 | dat τ' y=>simp only [zc4,Option.some.injEq] at hz; cases hz; exact zV.mono hle hv
 | clip τ' ys =>
  simp only [zc4,Option.some.injEq] at hz
  cases hz
  obtain ⟨ad,rfl,h1⟩:=hv
  exact ⟨⟨ad,_,rfl,Nat.le_refl _,fun hx=>let ⟨d,cc,e1,e2,e3⟩:=h1 hx; ⟨d,cc,e1,e2.mono hle,RepL.mono (fun _ _ h=>Rep.mono hle h) _ _ e3⟩⟩,rfl⟩
 | ow id =>
  rcases hv with hg | ⟨o,σ,len,ho,hT,hu⟩
  ·simp [zc4,hg] at hz
  simp only [zc4,ho] at hz
  cases o with
  | row σ' xs fz =>
   simp only [rowTL,Option.some.injEq,Prod.mk.injEq] at hT
   obtain ⟨rfl,rfl⟩:=hT
   simp only [Option.some.injEq] at hz
   cases hz
   cases hmi:m id with
   | none =>
    rw [hmi] at hu
    obtain ⟨hlen,ad,rfl⟩:=hu
    have hxs:xs = []:=List.length_eq_zero_iff.1 hlen
    subst hxs
    exact .sl_nil
   | some bn =>
    obtain ⟨b,n⟩:=bn
    rw [hmi] at hu
    obtain ⟨cap,hn,hcap,rfl⟩:=hu
    obtain ⟨el,fr,cs,c,d,h1,h2,h3,h4,h5⟩:=h.row ho hmi
    exact .sl_of_row (FH.of_some h1) h3 (RepL.mono (fun _ _ h=>Rep.mono hle h) _ _ h4) hcap
  | drow σ' xs k =>
   simp only [rowTL,Option.some.injEq,Prod.mk.injEq] at hT
   obtain ⟨rfl,rfl⟩:=hT
   simp only [Option.some.injEq] at hz
   cases hz
   cases hmi:m id with
   | none =>
    rw [hmi] at hu
    obtain ⟨hlen,ad,rfl⟩:=hu
    have hxs:xs = []:=List.length_eq_zero_iff.1 hlen
    subst hxs
    exact .sl_nil
   | some bn =>
    obtain ⟨b,n⟩:=bn
    rw [hmi] at hu
    obtain ⟨cap,hn,hcap,rfl⟩:=hu
    obtain ⟨el,cs,c,d,h1,h2,h3,h4,h5⟩:=h.drow ho hmi
    refine .sl_of_row (FH.of_some h1) h3 (z5.toL (fun j x c' _ _ hx=>?_) h5) hcap
    unfold DE at hx
    split at hx
    ·exact zxy P hle (fun p b' n' hp c el hc=>FH.of_some hc) _ _ _ hx
    ·exact Rep.mono hle hx
  | _=>cases hT
 | bp id p =>
  cases p with
  | cons _ _=>simp [zc4] at hz
  | nil =>
   rcases hv with hg | ⟨b,n,o,off,hmi,ho,rfl,h2⟩
   ·simp [zc4,hg] at hz
   simp only [zc4,ho] at hz
   cases o with
   | bx v fz =>
    cases v with
    | dat σ y =>
     obtain ⟨ρ,h3⟩:=h2
     simp only [qa,Option.some.injEq,Prod.mk.injEq] at h3
     obtain ⟨rfl,rfl⟩:=h3
     obtain ⟨b',n',el,fr,cs,h4,h5,h6,h7⟩:=h.obs id _ ho
     rw [hmi] at h4
     cases h4
     simp only [Option.some.injEq] at hz
     cases hz
     exact ⟨⟨_,_,rfl,⟨rfl,cs,FH.of_some h5,fun j v hj=>by rw [Nat.zero_add,← Array.getElem?_toList]; exact hj⟩,Rep.mono hle h6⟩,rfl⟩
    | _=>cases hz
   | _=>cases hz
 | _=>simp [zc4] at hz
theorem zV.sl_cells {F:FH} {σ:Ty} {y:(Ty.sl σ).I} {u:Value} (g:zV P F (.sl σ) y u):Rep P F (.sl σ) y [u]:=by
 have:=g.1
 obtain ⟨ad,cap,e,_⟩:=this
 have hc:u.cells.toList = [u]:=by
  cases u <;> simp [Value.cells] at e ⊢
  have:=g.2
  simp [isAggV,Ty.agg] at this
 rw [← hc]; exact g.1
theorem zF0 (h:Rel P nt F0 w0 st m F a w):∀ {τ:Ty} {vs:List AV} {cs:List Value} {x:τ.I},zlX st.h τ vs = some x→zX P st.h m F τ vs cs→Rep P (FH.of w) τ x cs:=by
 intro τ
 induction τ with
 | unit =>
  intro vs cs x hz hv
  cases vs with
  | nil=>exact hv
  | cons _ _=>simp [zlX] at hz
 | pair a b iha ihb =>
  intro vs cs x hz hv
  cases vs with
  | nil=>simp [zlX] at hz
  | cons v vs =>
   obtain ⟨c,d,rfl,h1,h2⟩:=hv
   simp only [zlX] at hz
   split at hz
   ·rename_i y hy
    split at hz
    ·rename_i ys hys
     cases hz
     refine ⟨c,d,rfl,?_,ihb hys h2⟩
     cases v with
     | dat τ' z =>
      obtain ⟨rfl,h3⟩:=h1
      simp only [zo3,zc4,qK,dite_true,Option.some.injEq] at hy
      subst hy
      exact Rep.mono (FH.le_of h.fok) h3
     | ow id =>
      obtain ⟨σ,u,rfl,rfl,h3,_⟩:=h1
      unfold zo3 at hy
      split at hy
      ·rename_i τ z hz
       obtain ⟨rfl,rfl⟩:=zP hy
       exact (zxA hz h h3).sl_cells
      ·cases hy
     | ds id i p=>simp [zo3,zc4] at hy
     | clo f l=>simp [zo3,zc4] at hy
     | _=>exact h1.elim
    ·cases hz
   ·cases hz
 | _=>intro vs cs x hz hv; simp [zlX] at hz
theorem zJn {v:AV} {u:Value} {τ:Ty} {x:τ.I} (hz:view st.h v = some ⟨τ,x⟩) (h:Rel P nt F0 w0 st m F a w) (hv:zh P st.h m F v u):zV P (FH.of w) τ x u:=by
 by_cases hf:∃ a vs,v = .fld a vs
 ·obtain ⟨b,vs,rfl⟩:=hf
  simp only [view] at hz
  split at hz
  ·rename_i y hy
   cases hz
   obtain ⟨cs,rfl,h1⟩:=hv
   exact ⟨(zF0 (τ:=b) h hy h1:Rep P (FH.of w) b y cs.toList),rfl⟩
  ·cases hz
 have h1:∀ a vs,v ≠ .fld a vs:=fun a vs e=>hf ⟨a,vs,e⟩
 by_cases ht:∃ vs,v = .tup vs
 ·obtain ⟨vs,rfl⟩:=ht; simp [view,zc4] at hz
 have h2:∀ vs,v ≠ .tup vs:=fun vs e=>ht ⟨vs,e⟩
 have e:view st.h v = zc4 st.h v:=by cases v <;> first | rfl | exact absurd rfl (h1 _ _)
 rw [e] at hz
 rw [zh.eq1 h2,zE.eqS h1] at hv
 exact zxA hz h hv
theorem zqv (h:Rel P nt F0 w0 st m F a w):∀ {τ:Ty} {vs:List AV} {us:List Value} {x:τ.I},znf st.h τ vs = some x→jx P st.h m F vs us→RepA P (FH.of w) τ x us:=by
 intro τ
 induction τ with
 | unit =>
  intro vs us x hz hv
  cases vs with
  | nil=>exact hv
  | cons _ _=>simp [znf] at hz
 | pair a b iha ihb =>
  intro vs us x hz hv
  cases vs with
  | nil=>simp [znf] at hz
  | cons v vs =>
   obtain ⟨u,r,rfl,h1,h2⟩:=hv
   simp only [znf] at hz
   split at hz
   ·rename_i y hy
    split at hz
    ·rename_i ys hys
     cases hz
     unfold zJb at hy
     split at hy
     ·rename_i τ z hz
      obtain ⟨rfl,rfl⟩:=zP hy
      have:=zJn hz h h1
      exact ⟨u,r,rfl,this.1,this.2,ihb hys h2⟩
     ·cases hy
    ·cases hz
   ·cases hz
 | _=>intro vs us x hz hv; simp [znf] at hz
end
end Go.Ev
end
section
namespace Go.Ev
open Go.RowKit
theorem zfN {α:Type} {q:Value→Option α} {l r:List Value} {x:α} (h:zne q l = some (x,r)):∃ v,l = v :: r ∧ q v = some x:=by
 cases l with
 | nil=>cases h
 | cons v l =>
  simp only [zne] at h
  cases hq:q v with
  | none=>rw [hq] at h; cases h
  | some y=>rw [hq] at h; simp only [Option.some.injEq,Prod.mk.injEq] at h; obtain ⟨rfl,rfl⟩:=h; exact ⟨v,rfl,hq⟩
theorem zA8 (P:Program) (F:FH):∀ (τ:Ty) (l r:List Value) (x:τ.I),zkO τ l = some (x,r)→∃ c,l = c ++ r ∧ Rep P F τ x c:=by
 intro τ
 induction τ with
 | unit=>intro l r x h; simp only [zkO,Option.some.injEq,Prod.mk.injEq] at h; exact ⟨[],by simp [h.2],rfl⟩
 | bool =>
  intro l r x h
  obtain ⟨v,rfl,hv⟩:=zfN h
  split at hv
  ·cases hv; exact ⟨[.bool x],rfl,rfl⟩
  ·cases hv
 | int k =>
  intro l r x h
  obtain ⟨v,rfl,hv⟩:=zfN h
  split at hv
  ·rename_i k' n
   cases hk:decide (k = k') with
   | false=>rw [hk] at hv; cases hv
   | true=>rw [hk] at hv; cases hv; simp only [decide_eq_true_eq] at hk; subst hk; exact ⟨[.int k x],rfl,rfl⟩
  ·cases hv
 | str =>
  intro l r x h
  obtain ⟨v,rfl,hv⟩:=zfN h
  split at hv
  ·cases hv; exact ⟨[.string x],rfl,rfl⟩
  ·cases hv
 | pair a b iha ihb =>
  intro l r x h
  simp only [zkO] at h
  split at h
  ·rename_i y l1 h1
   split at h
   ·rename_i z l2 h2
    cases h
    obtain ⟨c,rfl,hc⟩:=iha _ _ _ h1
    obtain ⟨d,rfl,hd⟩:=ihb _ _ _ h2
    exact ⟨c ++ d,by simp,c,d,rfl,hc,hd⟩
   ·cases h
  ·cases h
 | st a ih=>intro l r x h; exact ih l r x h
 | arr n a ih =>
  intro l r x h
  have : ∀ (n:Nat) (l r:List Value) (x:List a.I),Nat.rec (motive:=fun _=>List Value→Option (List a.I × List Value)) (fun l=>some ([],l))
   (fun _ ih l=>match zkO a l with
    | some (x,l)=>match ih l with | some (xs,l)=>some (x :: xs,l) | none=>none
    | none=>none) n l = some (x,r)→∃ c,l = c ++ r ∧ x.length = n ∧ RepL ((RR P a).1 F) x c:=by
   intro n
   induction n with
   | zero=>intro l r x h; change some ([],l) = some (x,r) at h; cases h; exact ⟨[],rfl,rfl,rfl⟩
   | succ n ihn =>
    intro l r x h
    change (match zkO a l with
     | some (x,l)=>match Nat.rec (motive:=fun _=>List Value→Option (List a.I × List Value)) (fun l=>some ([],l))
      (fun _ ih l=>match zkO a l with
       | some (x,l)=>match ih l with | some (xs,l)=>some (x :: xs,l) | none=>none
       | none=>none) n l with | some (xs,l)=>some (x :: xs,l) | none=>none
     | none=>none) = some (x,r) at h
    split at h
    ·rename_i y l1 h1
     split at h
     ·rename_i z l2 h2
      cases h
      obtain ⟨c,rfl,hc⟩:=ih _ _ _ h1
      obtain ⟨d,rfl,hl,hd⟩:=ihn _ _ _ h2
      exact ⟨c ++ d,by simp,by simp [hl],c,d,rfl,hc,hd⟩
     ·cases h
    ·cases h
  obtain ⟨c,h1,h2,h3⟩:=this n l r x h
  exact ⟨c,h1,h2,h3⟩
 | sl a _ =>
  intro l r x h
  obtain ⟨v,rfl,hv⟩:=zfN h
  split at hv
  ·cases hv; exact ⟨[.slice none 0 0],rfl,none,0,rfl,Nat.le_refl _,fun hx=>absurd rfl hx⟩
  ·cases hv
 | ptr a _ =>
  intro l r x h
  obtain ⟨v,rfl,hv⟩:=zfN h
  split at hv
  ·cases hv; exact ⟨[.pointer none],rfl,rfl⟩
  ·cases hv
 | fn a b _ _ =>
  intro l r x h
  obtain ⟨v,rfl,hv⟩:=zfN h
  split at hv
  ·cases hv; exact ⟨[.nilFunc],rfl,rfl⟩
  ·cases hv
theorem zDt {P:Program} {h:List Obj} {m:MM} {F:FH} {θ:Option Ty} {v:Value} {av:AV} (hc:zhw θ v = some av):zh P h m F av v:=by
 unfold zhw at hc
 split at hc
 ·cases hc; exact ⟨rfl,rfl⟩
 ·cases hc; exact ⟨rfl,rfl⟩
 ·cases hc; exact ⟨rfl,rfl⟩
 ·rename_i cs
  split at hc
  ·split at hc
   ·rename_i x hx
    cases hc
    obtain ⟨c,h1,h2⟩:=zA8 P F _ _ _ _ hx
    rw [List.append_nil] at h1
    exact ⟨by simp only [Value.cells]; rw [h1]; exact h2,rfl⟩
   ·cases hc
  ·split at hc
   ·rename_i x hx
    cases hc
    obtain ⟨c,h1,h2⟩:=zA8 P F _ _ _ _ hx
    rw [List.append_nil] at h1
    exact ⟨by simp only [Value.cells]; rw [h1]; exact h2,rfl⟩
   ·cases hc
  ·cases hc
 ·split at hc
  ·cases hc; exact ⟨none,rfl,fun hx=>absurd rfl hx⟩
  ·cases hc
 ·split at hc
  ·cases hc; exact ⟨rfl,rfl⟩
  ·cases hc
 ·split at hc
  ·cases hc; exact ⟨rfl,rfl⟩
  ·cases hc
 ·cases hc
theorem zv0.rep {P:Program} {F F2:FH} {w:World} {M:Option (Nat × Nat)} {D:Nat→List Nat→Option (Nat × Nat)} {σ:Ty} {xs:List σ.I} {u:Value} (hle:F.le F2) (hM:∀ b n,M = some (b,n)→F2 b = FH.of w b) (hD:∀ j p b n,D j p = some (b,n)→F2 b = FH.of w b)
 (h:zv0 P F w M D σ xs u):Rep P F2 (.sl σ) xs [u]:=by
 obtain ⟨_,h⟩:=h
 split at h
 ·rename_i b n
  obtain ⟨cap,_,hcap,rfl,el,cs,c,d,h1,h2,h3,h4,h5⟩:=h
  refine (zV.sl_of_row (P:=P) (F:=F2) (b:=b) (cs:=cs) (by rw [hM _ _ rfl]; exact FH.of_some h1) h3 ?_ hcap).1
  cases hd:σ.deep with
  | false=>rw [hd] at h5; exact RepL.mono (fun _ _ h=>Rep.mono hle h) _ _ h5
  | true =>
   rw [hd] at h5
   refine z5.toL (fun j x c' _ hj hx=>?_) (show z5 (DE P F w D σ xs.length) 0 xs c from h5)
   unfold DE at hx
   rw [if_pos (by omega)] at hx
   exact zxy P hle (fun p b' n' hp c el hc=>by rw [hD _ _ _ _ hp]; exact FH.of_some hc) _ _ _ hx
 ·obtain ⟨rfl,ad,rfl⟩:=h
  exact (zV.sl_nil (F:=F2) (τ:=σ) (ad:=ad)).1
theorem zhV.rep {P:Program} {F F2:FH} {w:World} {M:Nat→Option (Nat × Nat)} {D:Nat→Nat→List Nat→Option (Nat × Nat)} (hle:F.le F2) (hM:∀ f b n,M f = some (b,n)→F2 b = FH.of w b) (hD:∀ f j p b n,D f j p = some (b,n)→F2 b = FH.of w b) :
 ∀ {a:Ty} {i:Nat} {x:a.I} {cs:List Value},zhV P F w M D a i x cs→Rep P F2 a x cs:=by
 intro a
 induction a with
 | unit=>intro i x cs h; exact h
 | pair t b _ ihb =>
  intro i x cs h
  cases t with
  | sl σ =>
   obtain ⟨u,d,rfl,h1,h2⟩:=h
   exact ⟨[u],d,rfl,h1.rep hle (fun b n=>hM _ b n) (fun j p b n=>hD _ j p b n),ihb h2⟩
  | _ =>
   obtain ⟨c,d,rfl,h1,h2⟩:=h
   exact ⟨c,d,rfl,Rep.mono hle h1,ihb h2⟩
 | _=>intro i x cs h; exact h.elim
theorem zkQ.frozen {P:Program} {G:FH} {f:FuncId} {F:Fun} (h:zkQ P G f F) {x:F.a.I} {y:F.r.I} (hs:F.spec x = some y) {F0:FH} {w:World} {vs:List Value} (hG:G.le F0) (hok:F0.ok w) (hr:RepA P F0 F.a x vs) :
 Calls P f vs.toArray w fun e w'=>∃ us F',e = .returned (zqs us) ∧ Below w.heap.size w w' ∧ F0.grow F' w.heap.size ∧ F'.ok w' ∧ RepA P F' F.r y us:=by
 refine (h.2 x y hs F0 w vs hG hok hr).mono ?_
 rintro e w' ⟨us,F',rfl,hb,hg,hk,hres⟩
 obtain ⟨id,a,r,md,spec⟩:=F
 unfold zjs at hres
 simp only at hres
 split at hres
 ·split at hres
  ·rename_i a' b y'
   obtain ⟨v,r,rfl,h1,h2⟩:=hres
   rcases h2 with ⟨bk,cap,el,cs,c,d,rfl,hcap,hlo,hw,hFb,hsz,hcd,hrep⟩ | ⟨hy,ad,rfl⟩
   ·have hle:=FH.put_le (F:=F') bk cs hFb
    refine ⟨_,F'.put bk cs,rfl,hb,⟨hg.1.trans hle,fun k hk'=>?_⟩,fun k c' hk'=>?_,_,r,rfl,?_,rfl,RepA.mono hle h1⟩
    ·unfold FH.put; rw [if_neg (by omega)]; exact hg.2 k hk'
    ·unfold FH.put at hk'
     by_cases e:k = bk
     ·subst e; rw [if_pos rfl] at hk'; cases hk'; exact ⟨el,(0,0),hw⟩
     ·rw [if_neg e] at hk'; exact hk k c' hk'
    ·exact (zV.sl_of_row (F:=F'.put bk cs) (by simp [FH.put]) hcd (RepL.mono (fun _ _ h=>Rep.mono hle h) _ _ hrep) hcap).1
   ·refine ⟨_,F',rfl,hb,hg,hk,_,r,rfl,?_,rfl,h1⟩
    rw [hy]
    exact (zV.sl_nil (F:=F') (τ:=a') (ad:=ad)).1
  ·exact hres.elim
 ·split at hres
  ·rename_i a' b y'
   obtain ⟨v,r,ad,rfl,h1,rfl,h2⟩:=hres
   exact ⟨_,F',rfl,hb,hg,hk,_,r,rfl,⟨ad,_,rfl,Nat.le_refl _,h2⟩,rfl,h1⟩
  ·exact hres.elim
 ·split at hres
  ·rename_i a' b y'
   obtain ⟨v,r,cs,M,D,rfl,h1,rfl,h2,h3⟩:=hres
   have hle:F'.le (F'.add w' fun k=>w.heap.size ≤ k ∧ F' k = none):=FH.add_le fun k hk'=>hk'.2
   refine ⟨_,_,rfl,hb,⟨hg.1.trans hle,fun k hk'=>?_⟩,FH.add_ok hk,_,r,rfl,?_,rfl,RepA.mono hle h1⟩
   ·rw [FH.add_out (by omega)]; exact hg.2 k hk'
   ·exact zhV.rep (a:=a') hle (fun f b n hf=>FH.add_in ⟨(h3.rM _ _ _ hf).1,(h3.rM _ _ _ hf).2.2⟩) (fun f j p b n hf=>FH.add_in ⟨(h3.rD _ _ _ _ _ hf).1,(h3.rD _ _ _ _ _ hf).2.2⟩) h2
  ·exact hres.elim
 ·split at hres
  ·rename_i a' b y'
   obtain ⟨v,r,M,D,rfl,h1,h2,h3⟩:=hres
   have hle:F'.le (F'.add w' fun k=>w.heap.size ≤ k ∧ F' k = none):=FH.add_le fun k hk'=>hk'.2
   refine ⟨_,_,rfl,hb,⟨hg.1.trans hle,fun k hk'=>?_⟩,FH.add_ok hk,_,r,rfl,?_,?_,RepA.mono hle h1⟩
   ·rw [FH.add_out (by omega)]; exact hg.2 k hk'
   ·have hr1:=zhV.rep (a:=.pair (.sl a') .unit) hle (fun f b n hf=>FH.add_in ⟨(h3.rM _ _ _ hf).1,(h3.rM _ _ _ hf).2.2⟩) (fun f j p b n hf=>FH.add_in ⟨(h3.rD _ _ _ _ _ hf).1,(h3.rD _ _ _ _ _ hf).2.2⟩) h2
    obtain ⟨c,d,e1,e2,e3⟩:=hr1
    have e3':d = []:=e3
    subst e3'
    rw [List.append_nil] at e1
    subst e1
    obtain ⟨ad,cap,e4,e5⟩:=e2
    simp only [List.cons.injEq,and_true] at e4
    subst e4
    exact ⟨ad,cap,rfl,e5⟩
   ·obtain ⟨u,d,e1,⟨_,e2⟩,e3⟩:=h2
    simp only [List.cons.injEq] at e1
    obtain ⟨rfl,_⟩:=e1
    cases hM:M 0 with
    | none=>rw [hM] at e2; obtain ⟨_,ad,rfl⟩:=e2; rfl
    | some bn=>obtain ⟨b',n'⟩:=bn; rw [hM] at e2; obtain ⟨cap,_,_,rfl,_⟩:=e2; rfl
  ·exact hres.elim
 ·exact ⟨us,F',rfl,hb,hg,hk,hres⟩
section
variable {P:Program} {nt:Up} {F0 F G:FH} {w0 w:World} {st st':St} {m:MM} {a:Act} {E:Env}
theorem zv (hE:EnvOk P G E) (hG:G.le F0) (h:Rel P nt F0 w0 st m F a w) {θ:Option Ty} {x:Operand} {v:AV} (hr:rd E st θ x = some v):zh P st.h m F v (a.eval x):=by
 cases x with
 | tmp t=>exact h.fr t v hr
 | const c=>exact zDt hr
 | global g =>
  obtain ⟨τ,y,cs,rfl,h1,h2⟩:=hE.glob g v hr
  have hle:=hG.trans h.gro.1
  exact ⟨⟨_,cs,rfl,h1.mono hle,Rep.mono hle h2⟩,rfl⟩
 | func f =>
  simp only [rd,Option.map_eq_some_iff] at hr
  obtain ⟨Fn,hf,rfl⟩:=hr
  have hs:=hE.funs f Fn hf
  refine ⟨⟨f,#[],#[],rfl,hs.1,fun x y hxy F' w' vs hle hok hvs=>?_⟩,rfl⟩
  have:=hs.frozen hxy ((hG.trans h.gro.1).trans hle) hok hvs
  rw [show #[] ++ vs.toArray ++ #[] = vs.toArray by simp]
  exact this
theorem zcN (hE:EnvOk P G E) (hG:G.le F0) (h:Rel P nt F0 w0 st m F a w) {θ:Option Ty}:∀ {xs:List Operand},(xs.map (rd E st θ)).all Option.isSome = true→jx P st.h m F ((xs.map (rd E st θ)).filterMap id) (xs.map a.eval)
 | [],_=>rfl
 | x :: xs,hall=>by
  simp only [List.map_cons,List.all_cons,Bool.and_eq_true] at hall
  obtain ⟨v,hv⟩:=Option.isSome_iff_exists.1 hall.1
  simp only [List.map_cons,hv,List.filterMap_cons,id]
  exact ⟨_,_,rfl,zv hE hG h hv,zcN hE hG h hall.2⟩
end
end Go.Ev
end
section
namespace Go.Ev
open Go.RowKit
def z8 (P:Program) (o:Oper) (a:Act) (w:World) (R:Value→World→Prop):Prop :=
 ∀ (next:Act→World→Prop) (Q:Exit→Act→World→Prop),(∀ u w',R u w'→next (a.put o.dst u) w')→o.wp P a w next Q
def jR (P:Program) (nt:Up) (F0:FH) (w0:World) (st':St) (a:Act) (F:FH) (v:AV) (u:Value) (w':World):Prop :=
 ∃ m' F',F.le F' ∧ Rel P nt F0 w0 st' m' F' a w' ∧ zh P st'.h m' F' v u
theorem z8.val {P:Program} {o:Oper} {a:Act} {w w':World} {R:Value→World→Prop} {u:Value} (h:(execOp a.eval o).run P w = .ok (.value u) w') (hr:R u w'):z8 P o a w R:=by
 intro next Q hn
 unfold Oper.wp
 rw [h]
 exact hn _ _ hr
theorem z8.skip {P:Program} {o:Oper} {a:Act} {w w':World} {R:Value→World→Prop} (h:(execOp a.eval o).run P w = .ok .skip w') (hr:R undef w'):z8 P o a w R:=by
 intro next Q hn
 unfold Oper.wp
 rw [h]
 exact hn _ _ hr
theorem z8.enter {P:Program} {o:Oper} {a:Act} {w:World} {R:Value→World→Prop} {f:FuncId} {args:Array Value} (h:(execOp a.eval o).run P w = .ok (.enter f args) w)
 (hc:Calls P f args w fun e w'=>∃ u,e = .returned u ∧ R u w'):z8 P o a w R:=by
 intro next Q hn
 unfold Oper.wp
 rw [h]
 refine hc.mono ?_
 rintro e w' ⟨u,rfl,hr⟩
 exact hn _ _ hr
theorem yt {b:Bool} {st st':St} {v:AV} (h:kB b st pk = some (v,st')):v = .dat .bool b ∧ st' = st:=by
 cases b <;> (simp only [kB,cond_true,cond_false,Option.some.injEq,Prod.mk.injEq] at h; exact ⟨h.1.symm,h.2.symm⟩)
theorem jG {u:AV} {st st':St} {v:AV} (h:kAV u st pk = some (v,st')):v = u ∧ st' = st:=by
 unfold kAV at h
 split at h
 ·exact yt h
 ·simp only [Option.some.injEq,Prod.mk.injEq] at h; exact ⟨h.1.symm,h.2.symm⟩
theorem zb {c:Bool} {α:Type} {x:Option α} {y:α} (h:cond c x none = some y):c = true ∧ x = some y:=by
 cases c with
 | true=>exact ⟨rfl,h⟩
 | false=>cases h
theorem qs {c:Bool} {α:Type} {x:Option α} {y:α} (h:cond c none x = some y):c = false ∧ x = some y:=by
 cases c with
 | false=>exact ⟨rfl,h⟩
 | true=>cases h
section
variable {P:Program} {nt:Up} {F0 F G:FH} {w0 w:World} {st st':St} {m:MM} {a:Act} {E:Env} {v:AV} {u:Value}
theorem zh.one {τ:Ty} {x:τ.I} (ha:τ.agg = false) (h:zh P st.h m F (.dat τ x) u):Rep P F τ x [u]:=by
 obtain ⟨h1,h2⟩:=h
 rw [ha] at h2
 cases u <;> first | exact h1 | cases h2
theorem zh.int {k:IntKind} {n:Int} (h:zh P st.h m F (.dat (.int k) n) u):u = .int k n:=by
 have:=zh.one rfl h; simpa [Rep,RR] using this
theorem zh.bool {b:Bool} (h:zh P st.h m F (.dat .bool b) u):u = .bool b:=by
 have:=zh.one rfl h; simpa [Rep,RR] using this
theorem zh.str {s:ByteArray} (h:zh P st.h m F (.dat .str s) u):u = .string s:=by
 have:=zh.one rfl h; simpa [Rep,RR] using this
theorem zh.sl {τ:Ty} {xs:List τ.I} (h:zh P st.h m F (.dat (.sl τ) xs) u) :
 ∃ ad cap,u = .slice ad xs.length cap ∧ xs.length ≤ cap ∧ (xs ≠ []→∃ d cc,ad = some d ∧ At F d cc ∧ RepL (Rep P F τ) xs cc):=by
 obtain ⟨ad,cap,e,h1,h2⟩:=zh.one rfl h
 exact ⟨ad,cap,by simpa using e,h1,h2⟩
theorem zh.ptr {τ:Ty} {x:τ.I} (h:zh P st.h m F (.dat (.ptr τ) (some x)) u):∃ d cc,u = .pointer (some d) ∧ At F d cc ∧ Rep P F τ x cc:=by
 obtain ⟨d,cc,e,h1,h2⟩:=zh.one rfl h
 exact ⟨d,cc,by simpa using e,h1,h2⟩
theorem zh.ptr0 {τ:Ty} (h:zh P st.h m F (.dat (.ptr τ) none) u):u = .pointer none:=by
 have:=zh.one rfl h; simpa [Rep,RR] using this
theorem zh.fn0 {τ σ:Ty} (h:zh P st.h m F (.dat (.fn τ σ) none) u):u = .nilFunc:=by
 have:=zh.one rfl h; simpa [Rep,RR] using this
theorem zh.agg {τ:Ty} {x:τ.I} (ha:τ.agg = true) (h:zh P st.h m F (.dat τ x) u):∃ cs:Array Value,u = .agg cs ∧ Rep P F τ x cs.toList:=by
 obtain ⟨h1,h2⟩:=h
 rw [ha] at h2
 cases u <;> first | exact ⟨_,rfl,h1⟩ | cases h2
theorem zh.mkInt {k:IntKind} {n:Int}:zh P st.h m F (.dat (.int k) n) (.int k n):=⟨rfl,rfl⟩
theorem zh.mkBool {b:Bool}:zh P st.h m F (.dat .bool b) (.bool b):=⟨rfl,rfl⟩
theorem zh.mkStr {s:ByteArray}:zh P st.h m F (.dat .str s) (.string s):=⟨rfl,rfl⟩
theorem jR.same (h:Rel P nt F0 w0 st m F a w) (hv:zh P st.h m F v u):jR P nt F0 w0 st a F v u w:=⟨m,F,.refl F,h,hv⟩
theorem zj {t:TypeId} {d:TypeDesc} (h:P.underlying t = some d):(underlying t).run P w = .ok d w:=by
 unfold underlying
 simp [h]
theorem zgT {t:TypeId} {i:TypeInfo} (h:P.info? t = some i):(typeInfo t).run P w = .ok i w:=by
 unfold typeInfo
 simp [h]
theorem z3 {t:TypeId} {i:TypeInfo} (h:P.info? t = some i):(sizeOf t).run P w = .ok i.size w:=by
 unfold sizeOf
 simp [zgT h]
theorem qC {t:TypeId} {i:TypeInfo} {z:Value} (h:P.info? t = some i) (hz:i.zero = some z):(zeroValue t).run P w = .ok z w:=by
 unfold zeroValue
 simp [zgT h,hz]
theorem zaN {t:TypeId} {τ:Ty} (h:zY P t τ):(isAgg t).run P w = .ok τ.agg w:=by
 obtain ⟨d,h1,h2⟩:=h.isAgg
 unfold isAgg
 simp only [Sem.run_bind,zj h1,Result.andThen_ok]
 cases d <;> simp_all
theorem zKA {op:UnOp} {x:AV} {y:Value} (h:Rel P nt F0 w0 st m F a w) (hx:zh P st.h m F x y) (he:zsC op x st pk = some (v,st')) :
 ∃ u,(Op.unary op y).run P w = .ok u w ∧ st' = st ∧ zh P st.h m F v u:=by
 unfold zsC at he
 split at he
 ·obtain ⟨rfl,rfl⟩:=yt he
  obtain rfl:=hx.bool
  exact ⟨_,rfl,rfl,.mkBool⟩
 ·cases he
  obtain rfl:=hx.int
  exact ⟨_,rfl,rfl,.mkInt⟩
 ·cases he
  obtain rfl:=hx.int
  exact ⟨_,rfl,rfl,.mkInt⟩
 ·cases he
end
end Go.Ev
end
section
namespace Go.Ev
open Go.RowKit
section
variable {P:Program} {F:FH} {w:World}
theorem zY.size {t:TypeId} {τ:Ty} (h:zY P t τ) (hp:∀ a b,τ ≠ .pair a b):∃ i,P.info? t = some i ∧ i.size = nc τ:=by
 obtain ⟨i,z,h1,h2,_⟩:=jQ (h.head hp)
 exact ⟨i,h1,h2⟩
theorem zF1 {cs c:List Value} {o:Nat} (h:∀ (j:Nat) (u:Value),c[j]? = some u→cs[o + j]? = some u):(cs.drop o).take c.length = c:=by
 apply List.ext_getElem?
 intro j
 rw [List.getElem?_take]
 by_cases hj:j < c.length
 ·rw [if_pos hj,List.getElem?_drop,h j _ (List.getElem?_eq_getElem hj),List.getElem?_eq_getElem hj]
 ·rw [if_neg hj,List.getElem?_eq_none (by omega)]
theorem zfd {t:TypeId} {τ:Ty} (h:zY P t τ) (hp:∀ a b,τ ≠ .pair a b) {y:τ.I} {c:List Value} (hr:Rep P F τ y c) {cs:Array Value} {o:Nat}
 (hs:∀ (j:Nat) (u:Value),c[j]? = some u→cs.toList[o + j]? = some u):∃ u,(part t cs o).run P w = .ok u w ∧ zV P F τ y u:=by
 obtain ⟨i,hi,hsz⟩:=h.size hp
 have hl:=Rep.length hr
 have h1:=zJl h hp
 obtain ⟨hv,hc⟩:=zDs hr h1
 refine ⟨_,?_,hv⟩
 unfold part
 simp only [Sem.run_bind,zaN h,Result.andThen_ok]
 cases ha:τ.agg with
 | true =>
  simp only [if_true,Sem.run_bind,z3 hi,Result.andThen_ok,Sem.run_pure]
  congr 1
  unfold toV
  rw [ha]
  simp only [Value.agg.injEq]
  apply Array.ext'
  simp only [Array.toList_extract,List.extract_eq_take_drop]
  rw [show o + i.size - o = c.length by omega]
  exact zF1 hs
 | false =>
  rw [ha] at h1
  have:c.length = 1:=by rw [hl]; exact h1.resolve_right (by simp)
  match c,this with
  | [v],_ =>
   have:=hs 0 v rfl
   rw [Nat.add_zero,Array.getElem?_toList] at this
   simp [this,toV,ha]
theorem zV.agg' {τ:Ty} {x:τ.I} {u:Value} (ha:τ.agg = true) (h:zV P F τ x u):∃ cs:Array Value,u = .agg cs ∧ Rep P F τ x cs.toList:=by
 obtain ⟨h1,h2⟩:=h
 rw [ha] at h2
 cases u <;> first | exact ⟨_,rfl,h1⟩ | cases h2
theorem zV.one' {τ:Ty} {x:τ.I} {u:Value} (ha:τ.agg = false) (h:zV P F τ x u):Rep P F τ x [u]:=by
 obtain ⟨h1,h2⟩:=h
 rw [ha] at h2
 cases u <;> first | exact h1 | cases h2
theorem zMo:∀ (τ:Ty),τ.eqIn = true →
 (∀ (t:TypeId) (d:Nat) (x y:τ.I) (u v:Value) (w:World),zY P t τ→(∀ a b,τ ≠ .pair a b)→zV P F τ x u→zV P F τ y v→τ.dep < d→(Op.equalIn d t u v).run P w = .ok (eqI τ x y) w) ∧
 (∀ (fs:List Field) (off d:Nat) (x y:τ.I) (c e:List Value) (cs ds:Array Value) (w:World),(tyB P τ).2 fs off = true→Rep P F τ x c→Rep P F τ y e →
  (∀ (j:Nat) (u:Value),c[j]? = some u→cs.toList[off + j]? = some u)→(∀ (j:Nat) (u:Value),e[j]? = some u→ds.toList[off + j]? = some u)→τ.dep < d→(Op.eqFields d cs ds fs).run P w = .ok (eqI τ x y) w):=by
 intro τ
 induction τ with
 | unit =>
  intro _
  refine ⟨(fun t d x y u v w h=>by cases h),fun fs off d x y c e cs ds w h _ _ _ _ _=>?_⟩
  simp only [tyB,List.isEmpty_iff] at h
  subst h
  simp [Op.eqFields,eqI]
 | bool =>
  intro _
  refine ⟨fun t d x y u v w h _ hu hv hd=>?_,(fun fs off d x y c e cs ds w h=>by cases h)⟩
  obtain ⟨d,rfl⟩:∃ d',d = d' + 1:=⟨d - 1,by omega⟩
  have:=zV.one' rfl hu; have:=zV.one' rfl hv
  simp only [Rep,RR,List.cons.injEq,and_true] at *
  subst_vars
  simp only [zY,tyB,Bool.and_eq_true] at h
  have h:=h.2
  split at h
  ·rename_i hd'
   rw [run_equalIn_bool' w d t _ _ hd']; rfl
  ·cases h
 | int k =>
  intro _
  refine ⟨fun t d x y u v w h _ hu hv hd=>?_,(fun fs off d x y c e cs ds w h=>by cases h)⟩
  obtain ⟨d,rfl⟩:∃ d',d = d' + 1:=⟨d - 1,by omega⟩
  have:=zV.one' rfl hu; have:=zV.one' rfl hv
  simp only [Rep,RR,List.cons.injEq,and_true] at *
  subst_vars
  simp only [zY,tyB,Bool.and_eq_true] at h
  have h:=h.2
  split at h
  ·rename_i k' hd'
   rw [run_equalIn_int w d t k k' _ _ hd']; rfl
  ·cases h
 | str =>
  intro _
  refine ⟨fun t d x y u v w h _ hu hv hd=>?_,(fun fs off d x y c e cs ds w h=>by cases h)⟩
  obtain ⟨d,rfl⟩:∃ d',d = d' + 1:=⟨d - 1,by omega⟩
  have:=zV.one' rfl hu; have:=zV.one' rfl hv
  simp only [Rep,RR,List.cons.injEq,and_true] at *
  subst_vars
  simp only [zY,tyB,Bool.and_eq_true] at h
  have h:=h.2
  split at h
  ·rename_i hd'
   rw [run_equalIn_string w d t _ _ hd']; rfl
  ·cases h
 | pair a b iha ihb =>
  intro he
  simp only [Ty.eqIn,Bool.and_eq_true] at he
  refine ⟨fun t d x y u v w _ hp=>absurd rfl (hp a b),fun fs off d x y c e cs ds w h hx hy hc hd hdep=>?_⟩
  cases fs with
  | nil=>cases h
  | cons f fs =>
   simp only [tyB,Bool.and_eq_true] at h
   obtain ⟨⟨⟨⟨h1,h2⟩,h3⟩,h4⟩,h5⟩:=h
   obtain rfl:=Nat.eq_of_beq_eq_true h1
   obtain ⟨c1,c2,rfl,hx1,hx2⟩:=hx
   obtain ⟨e1,e2,rfl,hy1,hy2⟩:=hy
   have lc:=Rep.length hx1
   have le:=Rep.length hy1
   have hpa:=Ty.np_spec h3.2
   obtain ⟨u,hu1,hu2⟩:=zfd (w:=w) h2 hpa hx1 (cs:=cs) (o:=f.offset) (fun j v hj=>hc j v (by rw [List.getElem?_append_left (List.getElem?_eq_some_iff.1 hj).1]; exact hj))
   obtain ⟨v,hv1,hv2⟩:=zfd (w:=w) h2 hpa hy1 (cs:=ds) (o:=f.offset) (fun j v hj=>hd j v (by rw [List.getElem?_append_left (List.getElem?_eq_some_iff.1 hj).1]; exact hj))
   simp only [Ty.dep] at hdep
   have h6:=(iha he.1).1 f.type d x.1 y.1 u v w h2 hpa hu2 hv2 (by omega)
   have h7:=(ihb he.2).2 fs (f.offset + nc a) d x.2 y.2 c2 e2 cs ds w h5 hx2 hy2
    (fun j v hj=>by rw [Nat.add_assoc]; exact hc (nc a + j) v (by rw [List.getElem?_append_right (by omega),show nc a + j - c1.length = j by omega]; exact hj))
    (fun j v hj=>by rw [Nat.add_assoc]; exact hd (nc a + j) v (by rw [List.getElem?_append_right (by omega),show nc a + j - e1.length = j by omega]; exact hj)) (by omega)
   have h4':f.name ≠ "_":=by simpa using h4
   simp only [Op.eqFields,if_pos h4',Sem.run_bind,hu1,hv1,h6,Result.andThen_ok,ite_not,Sem.run_ite,Sem.run_pure,h7,eqI]
   cases eqI a x.1 y.1 <;> simp
 | st a ih =>
  intro he
  refine ⟨fun t d x y u v w h hp hu hv hd=>?_,(fun fs off d x y c e cs ds w h=>by cases h)⟩
  simp only [Ty.dep] at hd
  obtain ⟨d,rfl⟩:∃ d',d = d' + 1:=⟨d - 1,by omega⟩
  obtain ⟨fs,h1,h2,h3,_⟩:=h.st
  obtain ⟨cs,rfl,hx⟩:=zV.agg' rfl hu
  obtain ⟨ds,rfl,hy⟩:=zV.agg' rfl hv
  have hf:P.fieldsOf t = fs:=by unfold Program.fieldsOf; rw [h1]
  rw [run_equalIn_struct w d t cs ds (by rw [hf]; exact h1) h3,hf]
  exact (ih he).2 fs.toList 0 d x y cs.toList ds.toList cs ds w h2 hx hy (fun j u hj=>by simpa using hj) (fun j u hj=>by simpa using hj) (by omega)
 | arr n a ih =>
  intro he
  refine ⟨fun t d x y u v w h hp hu hv hd=>?_,(fun fs off d x y c e cs ds w h=>by cases h)⟩
  simp only [Ty.dep] at hd
  obtain ⟨d,rfl⟩:∃ d',d = d' + 1:=⟨d - 1,by omega⟩
  obtain ⟨e,h1,h2,h3,h4,_⟩:=h.arr
  obtain ⟨cs,rfl,hlx,hx⟩:=zV.agg' rfl hu
  obtain ⟨ds,rfl,hly,hy⟩:=zV.agg' rfl hv
  have hpa:=Ty.np_spec h4
  obtain ⟨i,hi,hsz⟩:=h2.size hpa
  rw [run_equalIn_array (w:=w) d cs ds h1 hi]
  have hce:P.cellsOf e = nc a:=by unfold Program.cellsOf; simp [hi,hsz]
  rw [hce]
  have hn:∀ (z:a.I) c,(RR P a).1 F z c→c.length = nc a:=fun z c h=>Rep.length (P:=P) (F:=F) (x:=z) h
  have key:∀ (k j:Nat),k + j = n→(Op.eqItems d e (nc a) cs ds (List.range' j k)).run P w = .ok ((List.zip (x.drop j) (y.drop j)).all fun p=>eqI a p.1 p.2) w:=by
   intro k
   induction k with
   | zero =>
    intro j hj
    have:x.drop j = []:=by simp; omega
    simp [Op.eqItems,this]
   | succ k ihk =>
    intro j hj
    have hjx:j < x.length:=by omega
    have hjy:j < y.length:=by omega
    obtain ⟨c,hc1,hc2⟩:=RepL.get hn _ _ hx j _ (List.getElem?_eq_getElem hjx)
    obtain ⟨c',hc1',hc2'⟩:=RepL.get hn _ _ hy j _ (List.getElem?_eq_getElem hjy)
    obtain ⟨u,hu1,hu2⟩:=zfd (w:=w) h2 hpa hc1 (cs:=cs) (o:=j * nc a) hc2
    obtain ⟨v,hv1,hv2⟩:=zfd (w:=w) h2 hpa hc1' (cs:=ds) (o:=j * nc a) hc2'
    have h6:=(ih he).1 e d _ _ u v w h2 hpa hu2 hv2 (by omega)
    have h7:=ihk (j + 1) (by omega)
    rw [List.drop_eq_getElem_cons hjx,List.drop_eq_getElem_cons hjy]
    simp only [List.range'_succ,Op.eqItems,Sem.run_bind,hu1,hv1,h6,Result.andThen_ok,Sem.run_ite,Sem.run_pure,h7,List.zip_cons_cons,List.all_cons]
    cases eqI a x[j] y[j] <;> simp
  have:=key n 0 (by omega)
  rw [← List.range_eq_range'] at this
  simpa [eqI] using this
 | _=>intro he; cases he
end
end Go.Ev
end
section
namespace Go.Ev
open Go.RowKit
section
variable {P:Program} {nt:Up} {F0 F G:FH} {w0 w:World} {st st':St} {m:MM} {a:Act} {E:Env} {v:AV} {u:Value}
def zMp:Value→Bool
 | .agg _ | .nilIface=>false
 | _=>true
theorem jp (op:BinOp) (t:TypeId) (x y:Operand) {p q:Value} (h:zMp p = true):(eqGuard op t x y p q).run P w = .ok () w:=by
 cases op <;> cases p <;> first | (cases h; done) | (simp [eqGuard])
theorem zLC {op:BinOp} {x y:Int} {c:Bool} (h:zDc op x y = some c):(Op.intCmp op x y).run P w = .ok (.bool c) w:=by
 unfold zDc at h
 cases op <;> first | (cases h; done) | (simp only [Option.some.injEq] at h; subst h; rfl)
theorem zJo {op:BinOp} {k:IntKind} {x y n:Int} (t:TypeId) (hc:zDc op x y = none) (hq:op ≠ .quo) (hr:op ≠ .rem) (hl:op ≠ .shl) (hs:op ≠ .shr) (h:zDd op k x y = some n) :
 (binOp op t (.int k x) (.int k y)).run P w = .ok (.int k n) w:=by
 unfold zDd at h
 cases op <;> first | (cases h; done) | (simp only [Option.some.injEq] at h; subst h; simp [binOp,Op.intArith,Op.intBits])
theorem zuJ {t e:TypeId} {ad:Option Addr} (hu:P.underlying t = some (.pointer e)):(Op.equal t (.pointer ad) (.pointer none)).run P w = .ok ad.isNone w:=by
 have h:∀ d,(Op.equalIn (d + 1) t (.pointer ad) (.pointer none)).run P w = .ok ad.isNone w:=fun d=>by
  cases ad <;> simp [Op.equalIn,zj hu]
 exact h 9999
theorem zlZ {t:TypeId} {ps rs:Array TypeId} {vr:Bool} (hu:P.underlying t = some (.func ps rs vr)) :
 (Op.equal t .nilFunc .nilFunc).run P w = .ok true w ∧ ∀ f first caps,(Op.equal t (.func f first caps) .nilFunc).run P w = .ok false w:=by
 have h:∀ d,(Op.equalIn (d + 1) t .nilFunc .nilFunc).run P w = .ok true w:=fun d=>by simp [Op.equalIn,zj hu]
 have h':∀ d f first caps,(Op.equalIn (d + 1) t (.func f first caps) .nilFunc).run P w = .ok false w:=fun d f first caps=>by simp [Op.equalIn,zj hu]
 exact ⟨h 9999,h' 9999⟩
theorem zG7 {op:BinOp} {t:TypeId} {X Y:Operand} {τ:Ty} {x y:τ.I} {p q:Value} (hE:EnvOk P G E) (ha:τ.agg = true) (hgd:∀ t,zY P t τ→P.eqGuardType P.depth t = false)
 (h1:(τ.eqOk && E.is t τ) = true) (hx:zh P st.h m F (.dat τ x) p) (hy:zh P st.h m F (.dat τ y) q)
 (h2:(match op with | .eql=>kB (eqI τ x y) st pk | .neq=>kB (!eqI τ x y) st pk | _=>none) = some (v,st')) :
 ∃ u,((do eqGuard op t X Y p q; binOp op t p q):Sem Value).run P w = .ok u w ∧ st' = st ∧ zh P st.h m F v u:=by
 simp only [Bool.and_eq_true] at h1
 have hty:=hE.types t _ (Env.is_spec h1.2)
 have hok:=h1.1
 simp only [Ty.eqOk,Bool.and_eq_true] at hok
 have hdep:=Nat.le_of_ble_eq_true hok.2
 have hpair:∀ a1 b1,τ ≠ .pair a1 b1:=by rintro a1 b1 rfl; cases ha
 have hrun:=(zMo τ hok.1).1 t 10000 x y p q w hty hpair hx hy (by omega)
 obtain ⟨cs,rfl,_⟩:=zh.agg ha hx
 obtain ⟨ds,rfl,_⟩:=zh.agg ha hy
 simp only [Sem.run_bind,run_eqGuard_agg w op t X Y cs ds (hgd t hty),Result.andThen_ok]
 split at h2
 ·obtain ⟨rfl,rfl⟩:=yt h2
  exact ⟨_,by rw [run_eql_struct,hrun]; rfl,rfl,.mkBool⟩
 ·obtain ⟨rfl,rfl⟩:=yt h2
  exact ⟨_,by rw [run_neq_struct,hrun]; rfl,rfl,.mkBool⟩
 ·cases h2
theorem zKB {op:BinOp} {t:TypeId} {X Y:Operand} {x y:Bool} {p q:Value} (hE:EnvOk P G E)
 (h1:(Ty.bool.eqOk && E.is t .bool) = true) (hx:zh P st.h m F (.dat .bool x) p) (hy:zh P st.h m F (.dat .bool y) q)
 (h2:(match op with | .eql=>kB (eqI .bool x y) st pk | .neq=>kB (!eqI .bool x y) st pk | _=>none) = some (v,st')) :
 ∃ u,((do eqGuard op t X Y p q; binOp op t p q):Sem Value).run P w = .ok u w ∧ st' = st ∧ zh P st.h m F v u:=by
 simp only [Bool.and_eq_true] at h1
 have hty:=hE.types t _ (Env.is_spec h1.2)
 have hu:P.underlying t = some .bool:=by
  simp only [zY,tyB,Bool.and_eq_true] at hty
  have h:=hty.2
  split at h
  ·rename_i he; exact he
  ·cases h
 obtain rfl:=hx.bool
 obtain rfl:=hy.bool
 simp only [Sem.run_bind,jp op t X Y (p:=.bool x) rfl,Result.andThen_ok]
 have hrun:=run_equal_bool (P:=P) w t x y hu
 split at h2
 ·obtain ⟨rfl,rfl⟩:=yt h2; exact ⟨.bool (x == y),by simp [binOp,hrun],rfl,.mkBool⟩
 ·obtain ⟨rfl,rfl⟩:=yt h2; exact ⟨.bool (!(x == y)),by simp [binOp,hrun],rfl,.mkBool⟩
 ·cases h2
theorem zJp {op:BinOp} {t:TypeId} {X Y:Operand} {x y:AV} {p q:Value} (hE:EnvOk P G E) (hx:zh P st.h m F x p) (hy:zh P st.h m F y q)
 (he:zqn E op t x y st pk = some (v,st')) :
 ∃ u,((do eqGuard op t X Y p q; binOp op t p q):Sem Value).run P w = .ok u w ∧ st' = st ∧ zh P st.h m F v u:=by
 unfold zqn at he
 split at he
 ·
  rename_i k x k' y
  obtain rfl:=hx.int
  obtain rfl:=hy.int
  simp only [Sem.run_bind,jp op t X Y (p:=.int k x) rfl,Result.andThen_ok]
  split at he
  ·obtain ⟨h1,h2⟩:=qs he
   cases h2
   simp only [decide_eq_false_iff_not] at h1
   exact ⟨_,by simp [binOp,Op.shift,h1],rfl,.mkInt⟩
  ·obtain ⟨h1,h2⟩:=qs he
   cases h2
   simp only [decide_eq_false_iff_not] at h1
   exact ⟨_,by simp [binOp,Op.shift,h1],rfl,.mkInt⟩
  ·rename_i hl hs
   obtain ⟨h1,h2⟩:=zb he
   simp only [decide_eq_true_eq] at h1
   subst h1
   split at h2
   ·obtain ⟨h3,h4⟩:=qs h2
    cases h4
    have h3:(y:Int) ≠ 0:=by simpa using h3
    exact ⟨_,by simp [binOp,Op.intDiv,h3],rfl,.mkInt⟩
   ·obtain ⟨h3,h4⟩:=qs h2
    cases h4
    have h3:(y:Int) ≠ 0:=by simpa using h3
    exact ⟨_,by simp [binOp,Op.intDiv,h3],rfl,.mkInt⟩
   ·rename_i hq hr
    split at h2
    ·rename_i c hc
     obtain ⟨rfl,rfl⟩:=yt h2
     refine ⟨.bool c,?_,rfl,.mkBool⟩
     have:=zLC (P:=P) (w:=w) hc
     unfold zDc at hc
     cases op <;> first | (cases hc; done) | (simpa [binOp] using this)
    ·rename_i hc
     split at h2
     ·rename_i n hn
      cases h2
      exact ⟨_,zJo t hc (by simpa using hq) (by simpa using hr) (by simpa using hl) (by simpa using hs) hn,rfl,.mkInt⟩
     ·cases h2
 ·
  rename_i x y
  obtain rfl:=hx.str
  obtain rfl:=hy.str
  simp only [Sem.run_bind,jp op t X Y (p:=.string x) rfl,Result.andThen_ok]
  split at he
  ·obtain ⟨rfl,rfl⟩:=yt he; exact ⟨_,by simp [binOp,Op.stringOp],rfl,.mkBool⟩
  ·obtain ⟨rfl,rfl⟩:=yt he; exact ⟨_,by simp [binOp,Op.stringOp],rfl,.mkBool⟩
  ·obtain ⟨rfl,rfl⟩:=yt he; exact ⟨_,by simp [binOp,Op.stringOp],rfl,.mkBool⟩
  ·obtain ⟨rfl,rfl⟩:=yt he; exact ⟨_,by simp [binOp,Op.stringOp],rfl,.mkBool⟩
  ·obtain ⟨rfl,rfl⟩:=yt he; exact ⟨_,by simp [binOp,Op.stringOp],rfl,.mkBool⟩
  ·obtain ⟨rfl,rfl⟩:=yt he; exact ⟨_,by simp [binOp,Op.stringOp],rfl,.mkBool⟩
  ·obtain ⟨h1,h2⟩:=zb he
   cases h2
   simp only [decide_eq_true_eq] at h1
   refine ⟨_,?_,rfl,.mkStr⟩
   have h9:IntKind.i64.max = 9223372036854775807:=by decide
   have:¬ (((ByteArray.size x + ByteArray.size y:Nat):Int) > IntKind.i64.max):=by omega
   simp only [binOp,Op.stringOp,if_neg this,Sem.run_pure]
  ·cases he
 ·
  rename_i b x _
  obtain ⟨h1,h2⟩:=zb he
  have hty:=hE.types t _ (Env.is_spec h1)
  obtain ⟨e,hu⟩:∃ e,P.underlying t = some (.pointer e):=by
   simp only [zY,tyB,Bool.and_eq_true] at hty
   have h:=hty.2
   split at h
   ·rename_i e he; exact ⟨e,he⟩
   ·cases h
  obtain rfl:=hy.ptr0
  have hp:∃ ad,p = .pointer ad ∧ ad.isNone = Option.isNone x:=by
   cases x with
   | none=>exact ⟨none,hx.ptr0,rfl⟩
   | some x=>obtain ⟨d,cc,e,_⟩:=hx.ptr; exact ⟨some d,e,rfl⟩
  obtain ⟨ad,rfl,had⟩:=hp
  simp only [Sem.run_bind,jp op t X Y (p:=.pointer ad) rfl,Result.andThen_ok]
  have hrun:(Op.equal t (.pointer ad) (.pointer none)).run P w = .ok ad.isNone w:=zuJ hu
  split at h2
  ·obtain ⟨rfl,rfl⟩:=yt h2
   exact ⟨.bool ad.isNone,by simp [binOp,hrun],rfl,by rw [had]; exact .mkBool⟩
  ·obtain ⟨rfl,rfl⟩:=yt h2
   refine ⟨.bool (!ad.isNone),by simp [binOp,hrun],rfl,?_⟩
   rw [had]
   cases x <;> exact zh.mkBool
  ·cases h2
 ·
  rename_i b c x _ _
  obtain ⟨h1,h2⟩:=zb he
  have hty:=hE.types t _ (Env.is_spec h1)
  obtain ⟨ps,rs,vr,hu⟩:∃ ps rs vr,P.underlying t = some (.func ps rs vr):=by
   simp only [zY,tyB,Bool.and_eq_true] at hty
   have h:=hty.2
   split at h
   ·rename_i ps rs vr he; exact ⟨ps,rs,vr,he⟩
   ·cases h
  obtain rfl:=hy.fn0
  have hp:(x = none ∧ p = .nilFunc) ∨ (∃ g f first caps,x = some g ∧ p = .func f first caps):=by
   cases x with
   | none=>exact .inl ⟨rfl,hx.fn0⟩
   | some x=>obtain ⟨f,first,caps,e,_⟩:=zh.one rfl hx; exact .inr ⟨x,.func f,first,caps,rfl,by simpa using e⟩
  rcases hp with ⟨rfl,rfl⟩ | ⟨g,f,first,caps,rfl,rfl⟩
  ·simp only [Sem.run_bind,jp op t X Y (p:=.nilFunc) rfl,Result.andThen_ok]
   have hrun:(Op.equal t .nilFunc .nilFunc).run P w = .ok true w:=(zlZ hu).1
   split at h2
   ·obtain ⟨rfl,rfl⟩:=yt h2; exact ⟨.bool true,by simp [binOp,hrun],rfl,.mkBool⟩
   ·obtain ⟨rfl,rfl⟩:=yt h2; exact ⟨.bool false,by simp [binOp,hrun],rfl,.mkBool⟩
   ·cases h2
  ·simp only [Sem.run_bind,jp op t X Y (p:=.func f first caps) rfl,Result.andThen_ok]
   have hrun:(Op.equal t (.func f first caps) .nilFunc).run P w = .ok false w:=(zlZ hu).2 _ _ _
   split at h2
   ·obtain ⟨rfl,rfl⟩:=yt h2; exact ⟨.bool false,by simp [binOp,hrun],rfl,.mkBool⟩
   ·obtain ⟨rfl,rfl⟩:=yt h2; exact ⟨.bool true,by simp [binOp,hrun],rfl,.mkBool⟩
   ·cases h2
 ·
  rename_i τ x σ y _ _ _ _
  obtain ⟨h1,h2⟩:=zb he
  split at h2
  ·rename_i z hz
   obtain ⟨rfl,rfl⟩:=zP hz
   split at h1
   ·exact zG7 hE rfl (fun t h=>by obtain ⟨_,_,_,_,h⟩:=zY.st h; exact h) h1 hx hy h2
   ·exact zG7 hE rfl (fun t h=>by obtain ⟨_,_,_,_,_,h⟩:=zY.arr h; exact h) h1 hx hy h2
   ·exact zKB hE h1 hx hy h2
   ·cases h1
  ·cases h2
 ·cases he
theorem zxB {nil:Bool} {op:BinOp} {t:TypeId} {X Y:Operand} {x y:AV} {p q:Value} (hE:EnvOk P G E) (hn:nil = true→q = .slice none 0 0) (hx:zh P st.h m F x p) (hy:zh P st.h m F y q)
 (he:zb4 nil E op t x y st pk = some (v,st')) :
 ∃ u,((do eqGuard op t X Y p q; binOp op t p q):Sem Value).run P w = .ok u w ∧ st' = st ∧ zh P st.h m F v u:=by
 unfold zb4 at he
 cases nil with
 | false=>exact zJp hE hx hy he
 | true =>
  simp only [cond_true] at he
  obtain rfl:=hn rfl
  unfold zC0 at he
  split at he
  ·rename_i τ xs
   obtain ⟨h1,he⟩:=zb he
   obtain ⟨h2,he⟩:=qs he
   obtain ⟨e,hu,_⟩:=(hE.types t _ (Env.is_spec h1)).sl
   obtain ⟨ad,cap,rfl,_,hm⟩:=hx.sl
   obtain ⟨d,cc,rfl,_⟩:=hm (by rintro rfl; simp at h2)
   simp only [Sem.run_bind,jp op t X Y (p:=.slice (some d) (List.length xs) cap) rfl,Result.andThen_ok]
   have h:∀ k,(Op.equalIn (k + 1) t (.slice (some d) (List.length xs) cap) (.slice none 0 0)).run P w = .ok false w:=fun k=>by simp [Op.equalIn,zj hu]
   have hrun:(Op.equal t (.slice (some d) (List.length xs) cap) (.slice none 0 0)).run P w = .ok false w:=h 9999
   split at he
   ·obtain ⟨rfl,rfl⟩:=yt he
    exact ⟨.bool false,by simp [binOp,hrun],rfl,.mkBool⟩
   ·obtain ⟨rfl,rfl⟩:=yt he
    exact ⟨.bool true,by simp [binOp,hrun],rfl,.mkBool⟩
   ·cases he
  ·cases he
theorem zot {x:Operand} (h:zxm x = true):a.eval x = .slice none 0 0:=by
 unfold zxm at h
 split at h
 ·rfl
 ·cases h
end
end Go.Ev
end
section
namespace Go.Ev
open Go.RowKit
theorem z5.length {α:Type} {R:Nat→α→List Value→Prop} {n:Nat} (h:∀ i x c,R i x c→c.length = n):∀ (xs:List α) (i:Nat) (cs:List Value),z5 R i xs cs→cs.length = xs.length * n
 | [],_,_,e=>by cases e; simp
 | x :: xs,i,_,⟨c,d,e,h1,h2⟩=>by
  subst e
  have:=z5.length h xs (i + 1) d h2
  have:=h _ _ _ h1
  simp only [List.length_append,List.length_cons,Nat.add_mul,Nat.one_mul]
  omega
theorem z5.get {α:Type} {R:Nat→α→List Value→Prop} {n:Nat} (hn:∀ i x c,R i x c→c.length = n):∀ (xs:List α) (i0:Nat) (cs:List Value),z5 R i0 xs cs →
 ∀ (i:Nat) (x:α),xs[i]? = some x→∃ c,R (i0 + i) x c ∧ ∀ (j:Nat) (v:Value),c[j]? = some v→cs[i * n + j]? = some v
 | [],_,_,_,i,x,h=>by simp at h
 | y :: ys,i0,_,⟨c,d,e,h1,h2⟩,0,x,h=>by
  subst e
  obtain rfl:y = x:=by simpa using h
  refine ⟨c,h1,fun j v hj=>?_⟩
  have hlt:j < c.length:=(List.getElem?_eq_some_iff.1 hj).1
  rw [Nat.zero_mul,Nat.zero_add,List.getElem?_append_left hlt]; exact hj
 | y :: ys,i0,_,⟨c,d,e,h1,h2⟩,i + 1,x,h=>by
  subst e
  obtain ⟨c',hc',hj⟩:=z5.get hn ys (i0 + 1) d h2 i x (by simpa using h)
  refine ⟨c',by rw [show i0 + (i + 1) = i0 + 1 + i by omega]; exact hc',fun j v hv=>?_⟩
  have hl:=hn _ _ _ h1
  have:=hj j v hv
  rw [List.getElem?_append_right (by rw [hl,Nat.add_mul]; omega),hl]
  rw [show (i + 1) * n + j - n = i * n + j by rw [Nat.add_mul]; omega]
  exact this
theorem z5.set {α:Type} {R R':Nat→α→List Value→Prop} {n:Nat} (hn:∀ i x c,R i x c→c.length = n):∀ (xs:List α) (i0:Nat) (cs:List Value),z5 R i0 xs cs →
 ∀ (i:Nat) (x:α) (c:List Value),i < xs.length→R' (i0 + i) x c→c.length = n→(∀ j y c,i0 ≤ j→j ≠ i0 + i→R j y c→R' j y c)→z5 R' i0 (xs.set i x) (zB cs (i * n) c)
 | [],_,_,_,i,x,c,h,_,_,_=>by simp at h
 | y :: ys,i0,_,⟨c0,d,e,h1,h2⟩,0,x,c,h,hc,hl',hR=>by
  subst e
  have hl:=hn _ _ _ h1
  refine ⟨c,d,?_,hc,z5.mono (fun j y c h3 _ hy=>hR j y c (by omega) (by omega) hy) h2⟩
  unfold zB
  simp [hl',← hl]
 | y :: ys,i0,_,⟨c0,d,e,h1,h2⟩,i + 1,x,c,h,hc,hl',hR=>by
  subst e
  have hl:=hn _ _ _ h1
  refine ⟨c0,zB d (i * n) c,?_,hR _ _ _ (Nat.le_refl _) (by omega) h1,z5.set hn ys (i0 + 1) d h2 i x c (by simpa using h) (by rw [show i0 + 1 + i = i0 + (i + 1) by omega]; exact hc) hl' fun j y c h3 h4 hy=>hR j y c (by omega) (by omega) hy⟩
  rw [show (i + 1) * n = c0.length + i * n by rw [Nat.add_mul,hl]; omega,yx]
section
variable {P:Program} {F:FH} {w:World} {D:List Nat→Option (Nat × Nat)}
theorem DSl.length {o:Option (Nat × Nat)} {σ:Ty} {xs:List σ.I} {cs:List Value} (h:DSl P F w o σ xs cs):cs.length = 1:=by
 unfold DSl at h
 split at h
 ·obtain ⟨cap,_,_,rfl,_⟩:=h; rfl
 ·obtain ⟨_,ad,rfl⟩:=h; rfl
theorem DFl.length {o:Option (Nat × Nat)} {τ:Ty} {x:τ.I} {cs:List Value} (h:DFl P F w o τ x cs):cs.length = nc τ:=by
 cases τ with
 | sl σ=>exact DSl.length h
 | unit=>exact Rep.length (show Rep P F .unit x cs from h)
 | bool=>exact Rep.length (show Rep P F .bool x cs from h)
 | int k=>exact Rep.length (show Rep P F (.int k) x cs from h)
 | str=>exact Rep.length (show Rep P F .str x cs from h)
 | pair a b=>exact Rep.length (show Rep P F (.pair a b) x cs from h)
 | st a=>exact Rep.length (show Rep P F (.st a) x cs from h)
 | arr n a=>exact Rep.length (show Rep P F (.arr n a) x cs from h)
 | ptr a=>exact Rep.length (show Rep P F (.ptr a) x cs from h)
 | fn a b=>exact Rep.length (show Rep P F (.fn a b) x cs from h)
theorem DC.length:∀ {a:Ty} {i:Nat} {x:a.I} {cs:List Value},DC P F w D a i x cs→cs.length = nc a:=by
 intro a
 induction a with
 | pair a b _ ihb =>
  rintro i x cs ⟨c,d,rfl,h1,h2⟩
  have:=h1.length
  have:=ihb h2
  simp only [List.length_append,nc]
  omega
 | unit=>intro i x cs h; cases h; rfl
 | _=>intro i x cs h; exact h.elim
theorem DR.length {τ:Ty} {x:τ.I} {cs:List Value} (h:DR P F w D τ x cs):cs.length = nc τ:=by
 cases τ with
 | sl σ=>exact DSl.length h
 | st a=>exact DC.length (a:=a) h
 | _=>exact h.elim
theorem DE.length {D:Nat→List Nat→Option (Nat × Nat)} {τ:Ty} {k i:Nat} {x:τ.I} {cs:List Value} (h:DE P F w D τ k i x cs):cs.length = nc τ:=by
 unfold DE at h
 split at h
 ·exact h.length
 ·exact Rep.length h
theorem DFl.flat {o:Option (Nat × Nat)} {τ:Ty} {x:τ.I} {cs:List Value} (hd:∀ σ,τ ≠ .sl σ):DFl P F w o τ x cs = Rep P F τ x cs:=by
 cases τ <;> first | rfl | exact absurd rfl (hd _)
theorem zxC:∀ {a:Ty} {x:a.I} {i i0:Nat} {v:AV} {cs:List Value},nth a x i = some v→DC P F w D a i0 x cs →
 ∃ o σ y c,jt a i = some (o,σ) ∧ v = .dat σ y ∧ DFl P F w (D [i0 + i]) σ y c ∧ ∀ (j:Nat) (u:Value),c[j]? = some u→cs[o + j]? = some u:=by
 intro a
 induction a with
 | pair a b _ ihb =>
  rintro x i i0 v cs h ⟨c,d,rfl,h1,h2⟩
  cases i with
  | zero =>
   simp only [nth,Option.some.injEq] at h
   subst h
   refine ⟨0,a,x.1,c,rfl,rfl,h1,fun j u hj=>?_⟩
   have:=(List.getElem?_eq_some_iff.1 hj).1
   rw [Nat.zero_add,List.getElem?_append_left this]; exact hj
  | succ i =>
   simp only [nth] at h
   obtain ⟨o,σ,y,c',h3,h4,h5,h6⟩:=ihb h h2
   have hl:=h1.length
   refine ⟨nc a + o,σ,y,c',by simp [jt,h3],h4,by rw [show i0 + (i + 1) = i0 + 1 + i by omega]; exact h5,fun j u hj=>?_⟩
   rw [List.getElem?_append_right (by omega),show nc a + o + j - c.length = o + j by omega]
   exact h6 j u hj
 | _=>intro x i i0 v cs h; simp [nth] at h
theorem zA9 {F':FH} {w':World}:∀ {a:Ty} {x x':a.I} {i i0:Nat} {σ:Ty} {y:σ.I} {cs c:List Value},zbf a x i σ y = some x'→DC P F w D a i0 x cs→DFl P F' w' (D [i0 + i]) σ y c →
 (∀ j o τ z c,i0 ≤ j→j ≠ i0 + i→o = D [j]→DFl P F w o τ z c→DFl P F' w' o τ z c)→∃ o,jt a i = some (o,σ) ∧ DC P F' w' D a i0 x' (zB cs o c) ∧ o + c.length ≤ cs.length:=by
 intro a
 induction a with
 | pair a b _ ihb =>
  rintro x x' i i0 σ y cs c h ⟨c0,d,rfl,h1,h2⟩ hc hR
  cases i with
  | zero =>
   simp only [zbf,Option.map_eq_some_iff] at h
   obtain ⟨z,hz,rfl⟩:=h
   obtain ⟨rfl,rfl⟩:=zP hz
   have hl:=h1.length
   have hl':=hc.length
   have key:∀ (b:Ty) (i:Nat) (x:b.I) (cs:List Value),i0 < i→DC P F w D b i x cs→DC P F' w' D b i x cs:=by
    intro b
    induction b with
    | pair a b _ ihb=>intro i x cs hi ⟨c,d,e,h1,h2⟩; exact ⟨c,d,e,hR i _ _ _ _ (by omega) (by omega) rfl h1,ihb _ _ _ (by omega) h2⟩
    | unit=>intro i x cs _ h; exact h
    | _=>intro i x cs _ h; exact h.elim
   refine ⟨0,rfl,⟨c,d,?_,hc,key _ _ _ _ (by omega) h2⟩,by simp; omega⟩
   unfold zB
   simp [hl',← hl]
  | succ i =>
   simp only [zbf,Option.map_eq_some_iff] at h
   obtain ⟨z,hz,rfl⟩:=h
   obtain ⟨o,h3,h4,h5⟩:=ihb hz h2 (by rw [show i0 + 1 + i = i0 + (i + 1) by omega]; exact hc) fun j o τ z c h1 h2=>hR j o τ z c (by omega) (by omega)
   have hl:=h1.length
   refine ⟨nc a + o,by simp [jt,h3],⟨c0,zB d o c,?_,hR i0 _ _ _ _ (Nat.le_refl _) (by omega) rfl h1,h4⟩,by simp; omega⟩
   rw [← hl,yx]
 | _=>intro x x' i i0 σ y cs c h; simp [zbf] at h
end
theorem zMq:∀ {a:Ty} {x:a.I} {i:Nat} {σ:Ty} {y:σ.I},a.dl = false→nth a x i = some (.dat σ y)→σ.dl = false:=by
 intro a
 induction a with
 | pair a b _ ihb =>
  intro x i σ y hd h
  simp only [Ty.dl,Bool.or_eq_false_iff] at hd
  cases i with
  | zero=>simp only [nth,Option.some.injEq] at h; cases h; exact hd.1
  | succ i=>exact ihb hd.2 h
 | _=>intro x i σ y hd h; simp [nth] at h
theorem zum:∀ {p:List Nat} {τ:Ty} {x:τ.I} {σ:Ty} {y:σ.I},τ.dl = false→zW p τ x = some (.dat σ y)→σ.dl = false:=by
 intro p
 induction p with
 | nil=>intro τ x σ y hd h; simp only [zW,Option.some.injEq] at h; cases h; exact hd
 | cons i p ih =>
  intro τ x σ y hd h
  cases τ with
  | st a =>
   simp only [zW] at h
   split at h
   ·rename_i ρ z hz; exact ih (zMq (a:=a) hd hz) h
   ·cases h
  | arr n a=>simp only [zW] at h; exact ih (τ:=a) hd h
  | _=>simp [zW] at h
theorem zun {p:List Nat} {τ:Ty} {x:τ.I} (hd:τ.dl = false):zbS p τ x = none:=by
 unfold zbS
 split
 ·rename_i σ ys h
  have:=zum hd h
  cases this
 ·rfl
theorem zuo:∀ {a:Ty} {x:a.I} {i:Nat} {σ:Ty} {y:σ.I},a.dch = true→nth a x i = some (.dat σ y)→(∃ ρ,σ = .sl ρ) ∨ σ.dl = false:=by
 intro a
 induction a with
 | pair a b _ ihb =>
  intro x i σ y hd h
  cases i with
  | zero =>
   simp only [nth,Option.some.injEq] at h
   cases h
   cases a <;> first | exact .inl ⟨_,rfl⟩ | (right; simp only [Ty.dch,Bool.and_eq_true,Bool.not_eq_true'] at hd; exact hd.1)
  | succ i =>
   refine ihb ?_ h
   cases a <;> first | exact hd | (simp only [Ty.dch,Bool.and_eq_true] at hd; exact hd.2)
 | _=>intro x i σ y hd h; simp [nth] at h
theorem zG8:∀ {a:Ty} {x:a.I} {i:Nat} {σ:Ty} {y:σ.I},nth a x i = some (.dat σ y)→∃ o,jt a i = some (o,σ):=by
 intro a
 induction a with
 | pair a b _ ihb =>
  intro x i σ y h
  cases i with
  | zero=>simp only [nth,Option.some.injEq] at h; cases h; exact ⟨0,rfl⟩
  | succ i=>obtain ⟨o,ho⟩:=ihb (show nth b x.2 i = some (.dat σ y) from h); exact ⟨nc a + o,by simp [jt,ho]⟩
 | _=>intro x i σ y h; simp [nth] at h
theorem zDu {p:List Nat} {τ:Ty} {x:τ.I} {σ:Ty} {ys:(Ty.sl σ).I} (hdst:τ.dst = true) (h:zW p τ x = some (.dat (.sl σ) ys)):∃ o,qa p τ = some (o,.sl σ):=by
 cases τ with
 | sl σ' =>
  cases p with
  | nil=>simp only [zW,Option.some.injEq] at h; cases h; exact ⟨0,rfl⟩
  | cons _ _=>simp [zW] at h
 | st a =>
  cases p with
  | nil=>simp only [zW,Option.some.injEq] at h; cases h
  | cons i p =>
   simp only [zW] at h
   split at h
   ·rename_i ρ z hz
    obtain ⟨o,ho⟩:=zG8 hz
    rcases zuo (show a.dch = true from hdst) hz with ⟨σ0,rfl⟩ | hdl
    ·cases p with
     | nil=>simp only [zW,Option.some.injEq] at h; cases h; exact ⟨o + 0,by simp [qa,ho]⟩
     | cons _ _=>simp [zW] at h
    ·have:=zum hdl h
     cases this
   ·cases h
 | _=>cases hdst
theorem zHG:∀ {a:Ty} {x x':a.I} {i j:Nat} {σ:Ty} {y:σ.I},zbf a x i σ y = some x'→nth a x' j = if j = i then some (.dat σ y) else nth a x j:=by
 intro a
 induction a with
 | pair a b _ ihb =>
  intro x x' i j σ y h
  cases i with
  | zero =>
   simp only [zbf,Option.map_eq_some_iff] at h
   obtain ⟨z,hz,rfl⟩:=h
   obtain ⟨rfl,rfl⟩:=zP hz
   cases j with
   | zero=>rfl
   | succ j=>rfl
  | succ i =>
   simp only [zbf,Option.map_eq_some_iff] at h
   obtain ⟨z,hz,rfl⟩:=h
   cases j with
   | zero=>rfl
   | succ j =>
    have:=ihb (j:=j) hz
    simp only [nth,Nat.add_right_cancel_iff]
    exact this
 | _=>intro x x' i j σ y h; simp [zbf] at h
theorem zBa {p:List Nat} {τ:Ty} {x x':τ.I} {σ:Ty} {y:σ.I} (hd:τ.dst = true) (h:j6 p τ x σ y = some x') (hy:σ.dl = false ∨ ∃ (ρ:Ty) (ys:List ρ.I),AV.dat σ y = .dat (.sl ρ) ys ∧ zbS p τ x = some (ρ,ys.length)) (q:List Nat):zbS q τ x' = zbS q τ x:=by
 cases τ with
 | sl ρ =>
  cases p with
  | nil =>
   simp only [j6] at h
   obtain ⟨rfl,rfl⟩:=zP h
   rcases hy with hy | ⟨ρ',ys,e,hy⟩
   ·cases hy
   ·cases e
    cases q with
    | nil=>exact hy.symm
    | cons _ _=>rfl
  | cons _ _=>simp [j6] at h
 | st a =>
  have hd':a.dch = true:=hd
  cases p with
  | nil =>
   simp only [j6] at h
   obtain ⟨rfl,rfl⟩:=zP h
   rcases hy with hy | ⟨ρ',ys,e,hy⟩
   ·rw [zun (τ:=.st a) hy,zun (τ:=.st a) hy]
   ·cases e
  | cons i p =>
   simp only [j6] at h
   split at h
   ·rename_i ρ z hz
    simp only [Option.bind_eq_some_iff] at h
    obtain ⟨z',hz',hs⟩:=h
    have hn:=fun j=>zHG (j:=j) hs
    cases q with
    | nil=>rfl
    | cons j q =>
     unfold zbS
     simp only [zW]
     rw [hn j]
     by_cases e:j = i
     ·subst e
      rw [if_pos rfl,hz]
      simp only
      rcases zuo hd' hz with ⟨ρ',rfl⟩ | hdl
      ·cases p with
       | nil =>
        simp only [j6] at hz'
        obtain ⟨rfl,rfl⟩:=zP hz'
        rcases hy with hy | ⟨ρ2,ys,e2,hy⟩
        ·cases hy
        ·cases e2
         simp only [zbS,zW,hz,Option.some.injEq,Prod.mk.injEq,true_and] at hy
         cases q with
         | nil=>simp only [zW,hy]
         | cons _ _=>rfl
       | cons _ _=>simp [j6] at hz'
      ·have h1:=zun (p:=q) (x:=z') hdl
       have h2:=zun (p:=q) (x:=z) hdl
       unfold zbS at h1 h2
       rw [h1,h2]
     ·rw [if_neg e]
   ·cases h
 | _=>cases hd
section
variable {P:Program} {F:FH} {w:World} {D:List Nat→Option (Nat × Nat)}
theorem DC.flat:∀ {a:Ty} {i:Nat} {x:a.I} {cs:List Value},a.dl = false→DC P F w D a i x cs→Rep P F a x cs:=by
 intro a
 induction a with
 | pair a b _ ihb =>
  rintro i x cs hd ⟨c,d,e,h1,h2⟩
  simp only [Ty.dl,Bool.or_eq_false_iff] at hd
  rw [DFl.flat (fun σ e=>by subst e; cases hd.1)] at h1
  exact ⟨c,d,e,h1,ihb hd.2 h2⟩
 | unit=>intro i x cs _ h; exact h
 | _=>intro i x cs _ h; exact h.elim
theorem zLD {p:List Nat} {τ:Ty} {x:τ.I} {σ:Ty} {y:σ.I} {off:Nat} {ρ:Ty} {cs:List Value} (hg:zW p τ x = some (.dat σ y)) (ho:qa p τ = some (off,ρ)) (hd:σ.dl = false) (hr:DR P F w D τ x cs) :
 ∃ c,ρ = σ ∧ Rep P F σ y c ∧ ∀ (j:Nat) (u:Value),c[j]? = some u→cs[off + j]? = some u:=by
 cases τ with
 | sl σ' =>
  cases p with
  | nil=>simp only [zW,Option.some.injEq] at hg; cases hg; cases hd
  | cons _ _=>simp [zW] at hg
 | st a =>
  cases p with
  | nil =>
   simp only [zW,Option.some.injEq] at hg
   cases hg
   simp only [qa,Option.some.injEq,Prod.mk.injEq] at ho
   obtain ⟨rfl,rfl⟩:=ho
   exact ⟨cs,rfl,DC.flat (a:=a) hd hr,fun j u hj=>by rw [Nat.zero_add]; exact hj⟩
  | cons i p =>
   simp only [zW] at hg
   split at hg
   ·rename_i ρ' z hz
    obtain ⟨o,ρ2,z',c,h1,h2,h3,h4⟩:=zxC (a:=a) hz hr
    cases h2
    simp only [qa,h1,Option.bind_some,Option.map_eq_some_iff,Prod.mk.injEq,Prod.exists] at ho
    obtain ⟨o',σ',h5,h6,h7⟩:=ho
    subst h7
    by_cases hs:∃ σ0,ρ' = .sl σ0
    ·obtain ⟨σ0,rfl⟩:=hs
     cases p with
     | nil=>simp only [zW,Option.some.injEq] at hg; cases hg; cases hd
     | cons _ _=>simp [zW] at hg
    ·rw [DFl.flat (fun σ0 e=>hs ⟨σ0,e⟩)] at h3
     obtain ⟨y',c',h8,h9,h10⟩:=zg9 hg h5 h3
     cases h8
     refine ⟨c',rfl,h9,fun j u hj=>?_⟩
     rw [← h6,Nat.add_assoc]
     exact h4 _ _ (h10 j u hj)
   ·cases hg
 | _=>exact hr.elim
theorem zzK {p:List Nat} {τ:Ty} {x:τ.I} {σ:Ty} {ys:(Ty.sl σ).I} {off:Nat} {ρ:Ty} {cs:List Value} (hdst:τ.dst = true) (hg:zW p τ x = some (.dat (.sl σ) ys)) (ho:qa p τ = some (off,ρ)) (hr:DR P F w D τ x cs) :
 ∃ u,ρ = .sl σ ∧ cs[off]? = some u ∧ DSl P F w (D p) σ ys [u]:=by
 have one:∀ {c:List Value} {o:Option (Nat × Nat)},DSl P F w o σ ys c→∃ u,c = [u]:=by
  intro c o h
  have:=h.length
  match c,this with
  | [u],_=>exact ⟨u,rfl⟩
 cases τ with
 | sl σ' =>
  cases p with
  | nil =>
   simp only [zW,Option.some.injEq] at hg
   cases hg
   simp only [qa,Option.some.injEq,Prod.mk.injEq] at ho
   obtain ⟨rfl,rfl⟩:=ho
   obtain ⟨u,rfl⟩:=one (show DSl P F w (D []) σ ys cs from hr)
   exact ⟨u,rfl,rfl,hr⟩
  | cons _ _=>simp [zW] at hg
 | st a =>
  cases p with
  | nil=>simp only [zW,Option.some.injEq] at hg; cases hg
  | cons i p =>
   simp only [zW] at hg
   split at hg
   ·rename_i ρ' z hz
    obtain ⟨o,ρ2,z',c,h1,h2,h3,h4⟩:=zxC (a:=a) hz hr
    cases h2
    simp only [qa,h1,Option.bind_some,Option.map_eq_some_iff,Prod.mk.injEq,Prod.exists] at ho
    obtain ⟨o',σ',h5,h6,h7⟩:=ho
    subst h7
    rcases zuo (show a.dch = true from hdst) hz with ⟨σ0,rfl⟩ | hdl
    ·cases p with
     | nil =>
      simp only [zW,Option.some.injEq] at hg
      cases hg
      simp only [qa,Option.some.injEq,Prod.mk.injEq] at h5
      obtain ⟨rfl,rfl⟩:=h5
      obtain ⟨u,rfl⟩:=one (show DSl P F w (D [0 + i]) σ ys c from h3)
      refine ⟨u,rfl,?_,?_⟩
      ·rw [← h6]; exact h4 0 u rfl
      ·have h3':DSl P F w (D [0 + i]) σ ys [u]:=h3
       rw [Nat.zero_add] at h3'; exact h3'
     | cons _ _=>simp [zW] at hg
    ·have:=zum hdl hg
     cases this
   ·cases hg
 | _=>cases hdst
theorem zLE {p:List Nat} {τ:Ty} {x x':τ.I} {σ ρ:Ty} {y:σ.I} {off:Nat} {cs c:List Value} (hs:j6 p τ x σ y = some x') (ho:qa p τ = some (off,ρ)) (hd:σ.dl = false) (hr:DR P F w D τ x cs) (hc:Rep P F σ y c) :
 σ = ρ ∧ DR P F w D τ x' (zB cs off c) ∧ off + c.length ≤ cs.length:=by
 cases τ with
 | sl σ' =>
  cases p with
  | nil=>simp only [j6] at hs; obtain ⟨rfl,rfl⟩:=zP hs; cases hd
  | cons _ _=>simp [j6] at hs
 | st a =>
  cases p with
  | nil =>
   simp only [j6] at hs
   obtain ⟨rfl,rfl⟩:=zP hs
   simp only [qa,Option.some.injEq,Prod.mk.injEq] at ho
   obtain ⟨rfl,rfl⟩:=ho
   have hl:=Rep.length hc
   have hl':=hr.length
   refine ⟨rfl,?_,by omega⟩
   have:zB cs 0 c = c:=by unfold zB; simp [hl,← hl']
   rw [this]
   have key:∀ (b:Ty) (i:Nat) (x:b.I) (y:b.I) (cs c:List Value),b.dl = false→DC P F w D b i x cs→Rep P F b y c→DC P F w D b i y c:=by
    intro b
    induction b with
    | pair a b _ ihb =>
     rintro i x y cs c hd ⟨c1,d1,e1,h1,h2⟩ ⟨c2,d2,e2,h3,h4⟩
     simp only [Ty.dl,Bool.or_eq_false_iff] at hd
     exact ⟨c2,d2,e2,by rw [DFl.flat (fun σ e=>by subst e; cases hd.1)]; exact h3,ihb _ _ _ _ _ hd.2 h2 h4⟩
    | unit=>intro i x y cs c _ _ h; exact h
    | _=>intro i x y cs c _ h _; exact h.elim
   exact key a 0 x _ cs c hd hr hc
  | cons i p =>
   simp only [j6] at hs
   split at hs
   ·rename_i ρ' z hz
    obtain ⟨o,ρ2,z',c0,h1,h2,h3,h4⟩:=zxC (a:=a) hz hr
    cases h2
    simp only [qa,h1,Option.bind_some,Option.map_eq_some_iff,Prod.mk.injEq,Prod.exists] at ho
    obtain ⟨o',σ',h5,h6,h7⟩:=ho
    subst h7
    simp only [Option.bind_eq_some_iff] at hs
    obtain ⟨z',hz',hs⟩:=hs
    by_cases hsl:∃ σ0,ρ' = .sl σ0
    ·obtain ⟨σ0,rfl⟩:=hsl
     cases p with
     | nil=>simp only [j6] at hz'; obtain ⟨rfl,rfl⟩:=zP hz'; cases hd
     | cons _ _=>simp [j6] at hz'
    ·have hfl:=fun (o:Option (Nat × Nat)) (z:ρ'.I) (c:List Value)=>DFl.flat (P:=P) (F:=F) (w:=w) (o:=o) (x:=z) (cs:=c) (fun σ0 e=>hsl ⟨σ0,e⟩)
     rw [hfl] at h3
     obtain ⟨e1,e2,e3⟩:=zjq hz' h5 h3 hc
     obtain ⟨o2,e4,e5,e6⟩:=zA9 (a:=a) (F':=F) (w':=w) hs hr (by rw [hfl]; exact e2) fun _ _ _ _ _ _ _ _ h=>h
     rw [h1] at e4
     obtain ⟨rfl,-⟩:=by simpa using e4
     rw [jN (by omega)] at e6
     refine ⟨e1,?_,by omega⟩
     rw [← h6,← zb8 h4 e3 e6]
     exact e5
   ·cases hs
 | _=>exact hr.elim
theorem zLF {F':FH} {w':World} {p:List Nat} {τ:Ty} {x x':τ.I} {σ:Ty} {ys ys':(Ty.sl σ).I} {cs:List Value} (hdst:τ.dst = true) (hg:zW p τ x = some (.dat (.sl σ) ys)) (hs:j6 p τ x (.sl σ) ys' = some x') (hr:DR P F w D τ x cs)
 (hnew:∀ u,DSl P F w (D p) σ ys [u]→DSl P F' w' (D p) σ ys' [u]) (hold:∀ q τ' z c,q ≠ p→DFl P F w (D q) τ' z c→DFl P F' w' (D q) τ' z c):DR P F' w' D τ x' cs:=by
 have one:∀ {c:List Value} {o:Option (Nat × Nat)},DSl P F w o σ ys c→∃ u,c = [u]:=by
  intro c o h
  have:=h.length
  match c,this with
  | [u],_=>exact ⟨u,rfl⟩
 cases τ with
 | sl σ' =>
  cases p with
  | nil =>
   simp only [zW,Option.some.injEq] at hg
   cases hg
   simp only [j6] at hs
   obtain ⟨_,rfl⟩:=zP hs
   obtain ⟨u,rfl⟩:=one (show DSl P F w (D []) σ ys cs from hr)
   exact hnew u hr
  | cons _ _=>simp [zW] at hg
 | st a =>
  cases p with
  | nil=>simp only [zW,Option.some.injEq] at hg; cases hg
  | cons i p =>
   simp only [zW] at hg
   split at hg
   ·rename_i ρ' z hz
    simp only [j6,hz,Option.bind_eq_some_iff] at hs
    obtain ⟨z',hz',hs⟩:=hs
    obtain ⟨o,ρ2,z2,c,h1,h2,h3,h4⟩:=zxC (a:=a) hz hr
    cases h2
    rcases zuo (show a.dch = true from hdst) hz with ⟨σ0,rfl⟩ | hdl
    ·cases p with
     | nil =>
      simp only [zW,Option.some.injEq] at hg
      cases hg
      simp only [j6] at hz'
      obtain ⟨_,rfl⟩:=zP hz'
      obtain ⟨u,rfl⟩:=one (show DSl P F w (D [0 + i]) σ ys c from h3)
      have h3':DSl P F w (D [i]) σ ys [u]:=by
       have:DSl P F w (D [0 + i]) σ ys [u]:=h3
       rw [Nat.zero_add] at this; exact this
      obtain ⟨o2,e4,e5,e6⟩:=zA9 (a:=a) (F':=F') (w':=w') (c:=[u]) hs hr (by
       show DSl P F' w' (D [0 + i]) σ _ [u]
       rw [Nat.zero_add]; exact hnew u h3') (fun j o τ z c _ hj ho h=>by subst ho; exact hold _ _ _ _ (by simpa using hj) h)
      rw [h1] at e4
      obtain ⟨rfl,-⟩:=by simpa using e4
      have:zB cs o [u] = cs:=by
       have hu:=h4 0 u rfl
       apply List.ext_getElem?
       intro j
       rw [zfM e6]
       split
       ·rename_i hj
        have:j = o:=by simp at hj; omega
        subst this
        simp only [Nat.sub_self,List.getElem?_cons_zero]
        exact hu.symm
       ·rfl
      rw [this] at e5
      exact e5
     | cons _ _=>simp [zW] at hg
    ·have:=zum hdl hg
     cases this
   ·cases hg
 | _=>cases hdst
end
end Go.Ev
end
section
namespace Go.Ev
open Go.RowKit
theorem qw (b off j:Nat):(⟨b,off,none⟩:Addr).add j = ⟨b,off + j,none⟩:=by
 unfold Addr.add
 split
 ·rename_i h; subst h; rfl
 ·rfl
theorem zqw {d:Addr} (h:d.spot = none) (j:Nat):d.add j = ⟨d.block,d.off + j,none⟩:=by
 obtain ⟨b,off,s⟩:=d
 simp only at h
 subst h
 exact qw b off j
theorem jy {w:World} {b off:Nat} {cs:Array Value} {el:TypeId} {fr:Nat × Nat} (h:w.heap[b]? = some (.cells cs el fr)):w.cell? ⟨b,off,none⟩ = cs.toList[off]?:=by
 simp [World.cell?,h]
end Go.Ev
end
