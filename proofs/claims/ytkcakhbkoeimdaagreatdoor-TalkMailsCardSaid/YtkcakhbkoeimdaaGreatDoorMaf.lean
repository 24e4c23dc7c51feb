import Derived.Test.YtkcakhbkoeimdaaGreatDoorMae
import Derived.Shelf.Spec.BitsCarry
import Derived.Test.YtkcakhbkoeimdaaGreatDoorCards
import Derived.Test.YtkcakhbkoeimdaaGreatDoorTie
import Derived.ProofKit
import Derived.OpenShut
import Derived.Deep.DeepHandedRow
import Derived.Lib.LaidTab
set_option linter.unusedVariables false
set_option linter.unusedSimpArgs false
section
namespace Go.Proofs.YtkcakhbkoeimdaaGreatDoor
open Go.Ev
def qS (r:zd):Bool:=zbV r.1 && (zms r && (zeN r.2.2.1 && (znL r.1 r.2.2.1.length r.2.2.2.1 && (zhs r.1.length r.2.2.2.2.1 && zx2 r))))
structure qi (r:zd):Prop where
 labels:zo7 r.1
 guilds:r.2.2.2.1.length ≤ Go.maxLen
 quotas:r.2.2.2.2.1.length ≤ Go.maxLen
theorem zm6 (r:zd) (h:qi r):vo (r,()) = some (qS r,()):=by
 rw [zB]
 show zg zgi K0 (6,0,r,[some vK,some ym,some jO,some vI,some vJ,some y8]) = _
 obtain ⟨m,hm⟩:=zx0
 have hu:zg zgi (m + 8) (6,0,r,[some vK,some ym,some jO,some vI,some vJ,some y8]) =
  Option.bind (vK (r,())) fun q=>bif q.1 then Option.bind (ym (r,())) fun q=>bif q.1 then Option.bind (jO (r,())) fun q=>bif q.1 then Option.bind (vI (r,())) fun q=>bif q.1 then Option.bind (vJ (r,())) fun q=>bif q.1 then Option.bind (y8 (r,())) fun q=>bif q.1 then some (true,()) else some (false,()) else some (false,()) else some (false,()) else some (false,()) else some (false,()) else some (false,()):=by kernel_rfl
 rw [hm,hu,zPS]
 unfold qS
 simp only [Option.bind_some]
 cases h1:zbV r.1 with
 | false=>rfl
 | true =>
  have hb:1 ≤ r.1.length ∧ r.1.length ≤ 8:=by unfold zbV zT at h1; grind
  rw [zQw r (by omega),zNE]
  simp only [Option.bind_some,cond_true]
  cases zms r with
  | false=>rfl
  | true =>
   cases h2:zeN r.2.2.1 with
   | false=>rfl
   | true =>
    have hc:r.2.2.1.length ≤ 8:=by unfold zeN zT at h2; grind
    rw [zPX r (by unfold Go.maxLen; omega) (by omega) h.guilds h.labels,zPU r (by omega),zQ4]
    simp only [Option.bind_some]
    grind
theorem zvd (r:zd) (h:qi r):zfx (r,()) = some (qS r,()):=by
 rw [zB]
 simp only [zfx,ziD,zEP,zAC,Option.bind_some]
 unfold qS
 cases h1:zbV r.1 with
 | false=>rfl
 | true =>
  have hb:1 ≤ r.1.length ∧ r.1.length ≤ 8:=by unfold zbV zT at h1; grind
  rw [zER _ _ _ (by unfold Go.maxLen; omega) h.labels]
  simp only [Option.bind_some]
  by_cases hw:zT (List.length r.2.1:Int) 1 8 = true
  ·have hloop:zkh K0 (0,r) = bif (r.2.1.all fun i=>decide (0 ≤ i) && decide (i < (r.1.length:Int))) then some (zhs r.1.length r.2.2.2.2.1 && zx2 r,()) else some (false,()) :=
    jz (l:=r.2.1) (0:Int) (fun i=>(i,r)) (by unfold zT at hw; unfold Go.maxLen; grind) (fun k i x hi hx _=>by
     simp only [zgd]
     rw [ltT hi,zj hi,zj hi,zE,hx]
     grind) (fun k=>by
     simp only [zgd]
     rw [ltF,zEQ _ h.quotas,ziq]
     simp only [Option.bind_some,zhs,zx2,zT]
     by_cases hn:r.2.2.2.2.1.length = r.1.length
     ·rw [hn]; grind
     ·grind)
   rw [hloop]
   unfold zms
   unfold zT at hw ⊢
   grind
  ·unfold zms
   unfold zT at hw ⊢
   grind
end Go.Proofs.YtkcakhbkoeimdaaGreatDoor
end
section
namespace Go.Proofs.YtkcakhbkoeimdaaGreatDoor
open Go.Ev
def qn (x:Int):Bool:=decide (0 ≤ x ∧ x ≤ 127)
theorem zNI (x:Int):zeZ (x,()) = some (qn x,()):=by simp only [zeZ,qn]; grind
theorem zLH (x:Int):zh7 (x,()) = some (qn x,()):=by simp only [zh7,qn]; grind
theorem zFD (x:Int):zjo (x,()) = some (qn x,()):=by simp only [zjo,qn]; grind
theorem zlZ (x:Int):yZ (x,()) = some (qn x,()):=by simp only [yZ,qn]; grind
def zqH (x:vN):Bool:=qn x.1 && qn x.2.1
theorem zQy (x:vN):zgz (x,()) = some (zqH x,()):=by simp only [zgz,zqH,qn]; grind
theorem zve (x:vN):qF (x,()) = some (zqH x,()):=by simp only [qF,zqH,qn]; grind
def zHE (x:Int):Bool:=decide (0 ≤ x ∧ x ≤ 5)
theorem zQz (x:Int):zjP (x,()) = some (zHE x,()):=by simp only [zjP,zHE]; grind
def zo8 (s:ByteArray):Bool:=ByteArray.toList s == ByteArray.toList (ByteArray.mk #[])
def zkK (x:qP):Bool:=bif x.1 then zkH x.2.1 else zo8 x.2.1
theorem zLI {s:ByteArray} (h:zo8 s = true):zkH s = false:=by
 unfold zo8 at h
 have:=eq_of_beq h
 rw [Go.ByteArray.toList_eq,Go.ByteArray.toList_eq] at this
 have h2:s.size = 0:=by
  rw [← znK,this]; rfl
 unfold zkH; rw [h2]; rfl
theorem zO2 (x:qP):zhn (x,()) = some (!zkK x,()):=by
 rw [zB]
 simp only [zhn,zo6,Option.bind_some,zkK,zo8]
 grind
theorem zJT {l:List qP} (hl:l.length ≤ Go.maxLen):zku (l,()) = some (l.all zkK,()):=by
 rw [zB]
 simp only [zku]
 rw [zvH (p:=fun x=>!zkK x) hl fun x _=>zO2 x,Option.bind_some,← va]
 cases l.any fun x=>!zkK x <;> rfl
theorem zG4 {l:List qP} (hl:l.length ≤ Go.maxLen):zmG (l,()) = some (l.all zkK,()):=by
 rw [zB]
 exact jz (B:=zco) (l:=l) zg4 (fun i=>(l,i)) hl (fun k i x hi hx _=>by
  simp only [zco]
  rw [ltT hi]
  simp only [zj hi,zE,hx,zm4,Option.bind_some,cond_true,zkK]
  have:=@zLI x.2.1
  unfold zo8 at this ⊢
  grind) (fun k=>by simp only [zco]; rw [ltF]; rfl)
theorem zQA (a b:vN):eqI zL a b = ((a.1:Int) == b.1 && (a.2.1:Int) == b.2.1):=by
 show cond ((a.1:Int) == b.1) (cond ((a.2.1:Int) == b.2.1) true false) false = _
 cases ((a.1:Int) == b.1) <;> cases ((a.2.1:Int) == b.2.1) <;> rfl
def zxC (x:qb):Bool:=bif x.1 then zqH x.2.1 && (zqH x.2.2.1 && zHE x.2.2.2.1) else eqI zU x (ze zU)
theorem zJU (x:qb):zj3 (x,()) = some (!zxC x,()):=by
 rw [zB]
 simp only [zj3,zQy,zQz,Option.bind_some,zxC]
 grind
def zhu (a b:qb):Bool:=a.1 && (eqI zL a.2.1 b.2.1 && (a.2.2.2.1:Int) == b.2.2.2.1)
theorem zES (x:qb) (r:vN) (d:Int):zg5 (x,some r,some d,()) = some (x.1 && (eqI zL x.2.1 r && (x.2.2.2.1:Int) == d),()):=by
 rw [zB]
 simp only [zg5,Option.bind_some]
 grind
theorem zQB {α:Type} {d:α} {p:α→Bool}:∀ (l:List α) (i:Nat) (a:Int),i < l.length→p (l.getD i d) = true→((qK p l a) == a + (i:Int)) = zV (fun j=>!p (l.getD j d)) 0 i:=by
 intro l
 induction l with
 | nil=>intro i a h; simp at h
 | cons x l ih =>
  intro i a h hp
  cases i with
  | zero =>
   have hx:p x = true:=hp
   simp only [qK,hx,cond_true,zV]
   simp
  | succ i =>
   have h':i < l.length:=by simpa using h
   have hp':p (l.getD i d) = true:=hp
   have:=ih i (a + 1) h' hp'
   have e:a + 1 + (i:Int) = a + ((i + 1:Nat):Int):=by omega
   rw [e] at this
   simp only [qK]
   rw [Bool.eq_iff_iff,qy]
   rw [Bool.eq_iff_iff,qy] at this
   cases hx:p x with
   | true =>
    simp only [cond_true]
    constructor
    ·intro h1
     have:=eq_of_beq h1
     omega
    ·intro h1
     have h2:(!p x) = true:=h1 0 (by omega) (by omega)
     rw [hx] at h2; cases h2
   | false =>
    simp only [cond_false]
    rw [this]
    constructor
    ·intro h1 j _ h2
     cases j with
     | zero=>show (!p x) = true; rw [hx]; rfl
     | succ j=>exact h1 j (by omega) (by omega)
    ·intro h1 j _ h2
     exact h1 (j + 1) (by omega) (by omega)
def zC6 (l:List qb):Bool:=zV (fun i=>zxC (l.getD i qf) && bif (l.getD i qf).1 then zV (fun j=>!zhu (l.getD j qf) (l.getD i qf)) 0 i else true) 0 (l.length - 0)
theorem zJV {l:List qb} (hl:l.length ≤ Go.maxLen):zoL (l,()) = some (zC6 l,()):=by
 rw [zB]
 exact z7 (B:=zes) (i0:=0) hl (Nat.zero_le _) (fun i=>(l,l,(l.length:Int),i)) (fun k i h1 h2=>by
  simp only [zes]
  rw [ltT h2,zj h2]
  simp only [zE,zJU,Option.bind_some,cond_true]
  cases he:zxC (l.getD i qf) with
  | false=>rfl
  | true =>
   cases hs:(l.getD i qf).1 with
   | false=>rfl
   | true =>
    have hi:zj4 (l,(l.getD i qf).2.1,(l.getD i qf).2.2.2.1,()) = some (qK (fun x=>zhu x (l.getD i qf)) l 0,()):=by
     simp only [zj4]
     rw [zo4 (p:=fun x=>zhu x (l.getD i qf)) hl fun x _=>zES x _ _]
     rfl
    have hp:zhu (l.getD i qf) (l.getD i qf) = true:=by
     unfold zhu; rw [zQA,hs]; simp
    have:=zQB (d:=qf) (p:=fun x=>zhu x (l.getD i qf)) l i 0 h2 hp
    rw [Int.zero_add] at this
    rw [hi,← this]
    simp only [Option.bind_some,Bool.not_true,cond_false,cond_true,Bool.true_and,bne]
    cases (qK (fun x=>zhu x (l.getD i qf)) l 0 == (i:Int)) <;> rfl) (fun k=>by simp only [zes]; rw [ltF]; rfl)
theorem zG5 {l:List qb} (hl:l.length ≤ Go.maxLen):zmI (l,()) = some (zC6 l,()):=by
 rw [zB]
 have inner:∀ k0 (i:Nat),i < l.length→zcr K0 k0 (l,(i:Int),0,l.getD i qf) = bif zV (fun j=>!((l.getD i qf).1 && zhu (l.getD j qf) (l.getD i qf))) 0 (i - 0) then k0 (l,wI ((i:Int) + 1)) else some (false,()):=fun k0 i hi =>
  z7 (B:=zcq k0) (i0:=0) (n:=i) (by omega) (Nat.zero_le _) (fun j=>(l,(i:Int),j,l.getD i qf)) (fun k j h1 h2=>by
   simp only [zcq]
   rw [ltT h2]
   simp only [zj (show j < l.length by omega),zE,cond_true,zhu]
   grind) (fun k=>by simp only [zcq]; rw [ltF]; rfl)
 exact z7 (B:=fun k=>zak (zcr K0 k) k) (i0:=0) hl (Nat.zero_le _) (fun i=>(l,i)) (fun k i h1 h2=>by
  simp only [zak]
  rw [ltT h2]
  simp only [zj h2,zE,zve,Option.bind_some,cond_true,zxC,zHE]
  have:=inner k i h2
  rw [this]
  cases hs:(l.getD i qf).1 with
  | false =>
   simp only [Bool.false_and,Bool.not_false,cond_false,Bool.and_true]
   have:zV (fun _=>true) 0 (i - 0) = true:=qy.2 fun _ _ _=>rfl
   rw [this]
   grind
  | true =>
   simp only [Bool.true_and,cond_true,Nat.sub_zero]
   grind) (fun k=>by simp only [zak]; rw [ltF]; rfl)
def zlw (k n:Int) (r:vN):Bool:=((k == 1 || k == 3) && (qn n && eqI zL r (ze zL))) || (k == 2 && (n == 0 && zqH r))
def j5 (x:z5):Bool:=bif x.1 then zkH x.2.1 && zlw x.2.2.1 x.2.2.2.1 x.2.2.2.2.1 else eqI zH x (ze zH)
theorem zJW (x:zxZ):zck (x,()) = some (zlw x.1 x.2.1 x.2.2.1,()):=by
 rw [zB]
 simp only [zck,zNI,Option.bind_some,zlw,zqH]
 grind
theorem zG6 (x:z5):ziG (x,()) = some (!j5 x,()):=by
 rw [zB]
 have h:ztA (x,()) = some ((x.2.2.1,x.2.2.2.1,x.2.2.2.2.1,()),()):=rfl
 simp only [ziG,zo6,Option.bind_some,j5,h,zJW]
 grind
theorem zG7 {l:List z5} (hl:l.length ≤ Go.maxLen):ziI (l,()) = some (l.all j5,()):=by
 rw [zB]
 simp only [ziI]
 rw [zk7 (p:=fun x=>!j5 x) hl fun x _=>zG6 x,Option.bind_some,← va]
 cases l.any fun x=>!j5 x <;> rfl
theorem zG8 {l:List z5} (hl:l.length ≤ Go.maxLen):zmK (l,()) = some (l.all j5,()):=by
 rw [zB]
 exact jz (B:=zct) (l:=l) zC (fun i=>(l,i)) hl (fun k i x hi hx _=>by
  simp only [zct]
  rw [ltT hi]
  simp only [zj hi,zE,hx,zm4,zLH,zve,Option.bind_some,cond_true,j5,zlw]
  grind) (fun k=>by simp only [zct]; rw [ltF]; rfl)
def zsW (c:Int):Bool:=decide (32 ≤ c ∧ c ≤ 126)
theorem zQC (c:Int):zjQ (c,()) = some (zsW c,()):=by simp only [zjQ,zsW]; grind
theorem zRf (c:Int):zlO (c,()) = some (zsW c,()):=by simp only [zlO,zsW]; grind
def zdL (s:ByteArray):Bool:=decide (1 ≤ s.size ∧ s.size ≤ 40) && ((chr s 0 != 32 && chr s (s.size - 1) != 32) && zV (fun i=>zsW (chr s i)) 0 s.size)
theorem zC7 (a b:ByteArray) (h:a.size < b.size):(ByteArray.toList a == ByteArray.toList b) = false:=by
 rw [beq_eq_false_iff_ne]
 intro e
 rw [Go.ByteArray.toList_eq,Go.ByteArray.toList_eq] at e
 have:=congrArg List.length e
 rw [znK,znK] at this
 omega
theorem zRg (s:ByteArray):∀ (n:Nat) (t:ByteArray),t.size ≤ n→∀ fuel,n < fuel→∃ r,zg zS fuel (t,32) = some (r,()) ∧ r.size ≤ t.size ∧ (chr t 0 ≠ 32→r = t) ∧ (1 ≤ t.size→chr t 0 = 32→r.size < t.size):=by
 intro n
 induction n with
 | zero =>
  intro t ht fuel hf
  obtain ⟨f,rfl⟩:∃ f,fuel = f + 1:=⟨fuel - 1,by omega⟩
  refine ⟨t,?_,Nat.le_refl _,fun _=>rfl,fun h=>by omega⟩
  show zS _ (t,32) = _
  simp only [zS]
  rw [decide_eq_false (by omega)]; rfl
 | succ n ih =>
  intro t ht fuel hf
  obtain ⟨f,rfl⟩:∃ f,fuel = f + 1:=⟨fuel - 1,by omega⟩
  by_cases h0:t.size = 0
  ·refine ⟨t,?_,Nat.le_refl _,fun _=>rfl,fun h=>by omega⟩
   show zS _ (t,32) = _
   simp only [zS]
   rw [decide_eq_false (by omega)]; rfl
  have hc:((UInt8.toNat (List.getD t.data.toList (Int.toNat 0) 0):Nat):Int) = chr t 0:=rfl
  by_cases h32:chr t 0 = 32
  ·have hsz:(ByteArray.extract t (Int.toNat 1) t.size).size = t.size - 1:=by
    rw [ByteArray.size_extract]
    show min t.size t.size - 1 = _
    omega
   obtain ⟨r,h1,h2,-⟩:=ih (ByteArray.extract t (Int.toNat 1) t.size) (by rw [hsz]; omega) f (by omega)
   refine ⟨r,?_,by omega,fun h=>absurd h32 h,fun _ _=>by omega⟩
   show zS (zg zS f) (t,32) = _
   simp only [zS]
   rw [hc,h32,h1]
   grind
  ·refine ⟨t,?_,Nat.le_refl _,fun _=>rfl,fun _ h=>absurd h h32⟩
   show zS (zg zS f) (t,32) = _
   simp only [zS]
   rw [hc,decide_eq_true (by omega),decide_eq_true (by omega)]
   grind
theorem zRh:∀ (n:Nat) (t:ByteArray),t.size ≤ n→n ≤ 100→∀ fuel,n < fuel→∃ r,zg zO fuel (t,32) = some (r,()) ∧ r.size ≤ t.size ∧ (chr t (t.size - 1) ≠ 32→r = t) ∧ (1 ≤ t.size→chr t (t.size - 1) = 32→r.size < t.size):=by
 intro n
 induction n with
 | zero =>
  intro t ht _ fuel hf
  obtain ⟨f,rfl⟩:∃ f,fuel = f + 1:=⟨fuel - 1,by omega⟩
  refine ⟨t,?_,Nat.le_refl _,fun _=>rfl,fun h=>by omega⟩
  show zO _ (t,32) = _
  simp only [zO]
  rw [decide_eq_false (by omega)]; rfl
 | succ n ih =>
  intro t ht hn fuel hf
  obtain ⟨f,rfl⟩:∃ f,fuel = f + 1:=⟨fuel - 1,by omega⟩
  by_cases h0:t.size = 0
  ·refine ⟨t,?_,Nat.le_refl _,fun _=>rfl,fun h=>by omega⟩
   show zO _ (t,32) = _
   simp only [zO]
   rw [decide_eq_false (by omega)]; rfl
  have hw:wI ((t.size:Int) - 1) = ((t.size - 1:Nat):Int):=zji (by omega) (by unfold Go.maxLen; omega)
  have hc:((UInt8.toNat (List.getD t.data.toList (Int.toNat ((t.size - 1:Nat):Int)) 0):Nat):Int) = chr t (t.size - 1):=by rw [Int.toNat_natCast]; rfl
  by_cases h32:chr t (t.size - 1) = 32
  ·have hsz:(ByteArray.extract t 0 (Int.toNat ((t.size - 1:Nat):Int))).size = t.size - 1:=by
    rw [ByteArray.size_extract,Int.toNat_natCast]
    omega
   obtain ⟨r,h1,h2,-⟩:=ih (ByteArray.extract t 0 (Int.toNat ((t.size - 1:Nat):Int))) (by rw [hsz]; omega) (by omega) f (by omega)
   refine ⟨r,?_,by omega,fun h=>absurd h32 h,fun _ _=>by omega⟩
   show zO (zg zO f) (t,32) = _
   simp only [zO]
   rw [hw,hc,h32,h1,zj (by omega)]
   grind
  ·refine ⟨t,?_,Nat.le_refl _,fun _=>rfl,fun _ h=>absurd h h32⟩
   show zO (zg zO f) (t,32) = _
   simp only [zO]
   rw [hw,hc,zj (by omega),decide_eq_true (by omega)]
   grind
theorem zQ6 (s:ByteArray) (h:1 ≤ s.size ∧ s.size ≤ 40):∃ r,zhb (s,ByteArray.mk #[32],()) = some (r,()) ∧ (ByteArray.toList r == ByteArray.toList s) = (chr s 0 != 32 && chr s (s.size - 1) != 32):=by
 obtain ⟨r,h1,h2,h3,h4⟩:=zRh s.size s (Nat.le_refl _) (by omega) K0 (zHC (by unfold Go.maxLen; omega))
 obtain ⟨r',h5,h6,h7,h8⟩:=zRg s r.size r (Nat.le_refl _) K0 (zHC (by unfold Go.maxLen; omega))
 refine ⟨r',?_,?_⟩
 ·simp only [zhb]
  have e0:(ByteArray.toList s == ByteArray.toList (ByteArray.mk #[])) = false:=by
   cases he:zo8 s with
   | false=>exact he
   | true =>
    unfold zo8 at he
    have:=eq_of_beq he
    rw [Go.ByteArray.toList_eq,Go.ByteArray.toList_eq] at this
    have h2:s.size = 0:=by
     rw [← znK,this]; rfl
    omega
  have e1:(ByteArray.toList (ByteArray.mk #[32]) == ByteArray.toList (ByteArray.mk #[])) = false:=by
   rw [Go.ByteArray.toList_eq,Go.ByteArray.toList_eq]; rfl
  have p1:zbQ (s,32,()) = some (r,()):=h1
  have p2:zdp (r,32,()) = some (r',()):=h5
  have z1:((ByteArray.size (ByteArray.mk #[32]):Nat):Int) = 1:=rfl
  have z2:((UInt8.toNat (List.getD (Array.toList (ByteArray.data (ByteArray.mk #[32]))) (Int.toNat 0) 0):Nat):Int) = 32:=rfl
  rw [e0,e1,z1,z2,p1,Option.bind_some,p2]
  rfl
 ·by_cases hl:chr s (s.size - 1) = 32
  ·have:=h4 h.1 hl
   rw [zC7 r' s (by omega),hl]; simp
  ·obtain rfl:=h3 hl
   by_cases hf:chr r 0 = 32
   ·have:=h8 h.1 hf
    rw [zC7 r' r (by omega),hf]; simp
   ·rw [h7 hf]
    simp [hf,hl]
theorem zzi (s:ByteArray):zdv (s,()) = some (zdL s,()):=by
 rw [zB]
 simp only [zdv]
 unfold zdL
 by_cases hb:1 ≤ s.size ∧ s.size ≤ 40
 ·obtain ⟨r,h1,h2⟩:=zQ6 s hb
  rw [zC2 (by unfold Go.maxLen; omega) zQC,h1,zC1,← h2]
  simp only [Option.bind_some]
  grind
 ·grind
theorem zo9 (s:ByteArray):zej (s,()) = some (zdL s,()):=by
 rw [zB]
 simp only [zej,zj6]
 unfold zdL
 by_cases hb:1 ≤ s.size ∧ s.size ≤ 40
 ·have hw:wI ((s.size:Int) - 1) = ((s.size - 1:Nat):Int):=zji hb.1 (by unfold Go.maxLen; omega)
  have hc:((UInt8.toNat (List.getD s.data.toList (Int.toNat ((s.size - 1:Nat):Int)) 0):Nat):Int) = chr s (s.size - 1):=by rw [Int.toNat_natCast]; rfl
  have hc0:((UInt8.toNat (List.getD s.data.toList (Int.toNat 0) 0):Nat):Int) = chr s 0:=rfl
  have hloop:zlo K0 (s,0) = bif zV (fun i=>zsW (chr s i)) 0 (s.size - 0) then some (true,()) else some (false,()) :=
   z7 (i0:=0) (n:=s.size) (by unfold Go.maxLen; omega) (Nat.zero_le _) (fun i=>(s,i)) (fun k i h1 h2=>by
    simp only [zhh]
    have hc:((UInt8.toNat (List.getD s.data.toList (Int.toNat (i:Int)) 0):Nat):Int) = chr s i:=by rw [Int.toNat_natCast]; rfl
    rw [hc,ltT h2,zj h2,zRf]; rfl) (fun k=>by simp only [zhh]; rw [ltF]; rfl)
  rw [hw,zj (by omega),hc,hc0,hloop]
  grind
 ·grind
def zad (x:zk):Bool:=bif x.1 then (qn x.2.1 && (qn x.2.2.1 && qn x.2.2.2.1)) && zdL x.2.2.2.2.1 else eqI zu x (ze zu)
theorem zJX (x:zk):zks (x,()) = some (!zad x,()):=by
 rw [zB]
 simp only [zks,zaX,zFD,zzi,Option.bind_some,zad]
 grind
theorem zpa {l:List zk} (hl:l.length ≤ Go.maxLen):zeD (l,()) = some (l.all zad,()):=by
 rw [zB]
 simp only [zeD]
 rw [zk8 (p:=fun x=>!zad x) hl fun x _=>zJX x,Option.bind_some,← va]
 cases l.any fun x=>!zad x <;> rfl
theorem zm7 {l:List zk} (hl:l.length ≤ Go.maxLen):zfy (l,()) = some (l.all zad,()):=by
 rw [zB]
 exact jz (B:=zcw) (l:=l) qj (fun i=>(l,i)) hl (fun k i x hi hx _=>by
  simp only [zcw]
  rw [ltT hi]
  simp only [zj hi,zE,hx,zo9,zlZ,Option.bind_some,cond_true,zad]
  grind) (fun k=>by simp only [zcw]; rw [ltF]; rfl)
end Go.Proofs.YtkcakhbkoeimdaaGreatDoor
end
section
namespace Go.Proofs.YtkcakhbkoeimdaaGreatDoor
open Go.Ev
abbrev M62:Int:=4611686018427387904
abbrev U64:Int:=18446744073709551616
def qC (x:Int):Bool:=decide (0 ≤ x ∧ x ≤ 3)
theorem zbC (x:Int):jk (x,()) = some (qC x,()):=by simp only [jk,qC]; grind
def ztT (a b:Int):Int × Int × Unit:=bif decide (a + b > M62) then (0,7,()) else (a + b,0,())
theorem zLJ {a b:Int} (ha:0 ≤ a) (hb:0 ≤ b ∧ b < U64):zlL (a,b,()) = some (ztT a b):=by
 simp only [zlL,extA,extB,ztT,cond_true]
 have h0:0 ≤ (a + b) / 18446744073709551616:=by omega
 have h1:((a + b) / 18446744073709551616 != 0) = decide (18446744073709551616 ≤ a + b):=by
  rw [Bool.eq_iff_iff]; simp only [bne_iff_ne,ne_eq,decide_eq_true_eq]; omega
 have h2:a + b < 18446744073709551616→(a + b) % 18446744073709551616 = a + b:=fun h=>by omega
 unfold M62 at *
 unfold U64 at *
 grind
theorem zeJ {a b:Int} (ha:0 ≤ a ∧ a < U64) (hb:0 ≤ b ∧ b < U64):vY (a,b,()) = some (ztT a b):=by
 simp only [vY,ztT]
 unfold M62
 unfold U64 at *
 by_cases h1:a > 4611686018427387904
 ·grind
 ·have hw:wU (4611686018427387904 - a) = 4611686018427387904 - a:=zkJ (by omega)
  rw [hw]
  by_cases h2:b > 4611686018427387904 - a
  ·grind
  ·have hw:wU (a + b) = a + b:=zkJ (by omega)
   rw [hw]
   grind
def zsX (a b:Int):Int × Int × Unit:=bif decide (a * b > M62) then (0,7,()) else (a * b,0,())
theorem zRi (a b:Nat) (ha:a < 18446744073709551616) (hb:b < 18446744073709551616):zdE ((a:Int),(b:Int),()) = some ((((a * b) / 18446744073709551616:Nat):Int),(((a * b) % 18446744073709551616:Nat):Int),()):=by
 have e32:((2:Int) ^ min (Int.toNat 32) (Go.IntKind.bits .u64)) = 4294967296:=rfl
 have hand:∀ x:Nat,x < 18446744073709551616→wU (BitVec.toNat (BitVec.ofInt (Go.IntKind.bits .u64) (x:Int) &&& BitVec.ofInt (Go.IntKind.bits .u64) 4294967295):Int) = ((x % 4294967296:Nat):Int):=fun x hx=>by
  have h1:BitVec.ofInt (Go.IntKind.bits .u64) 4294967295 = BitVec.ofNat 64 4294967295:=rfl
  rw [zmt,h1]
  have h2:(BitVec.ofNat 64 x &&& BitVec.ofNat 64 4294967295).toNat = x % 4294967296:=by
   rw [BitVec.toNat_and,BitVec.toNat_ofNat,BitVec.toNat_ofNat,Nat.mod_eq_of_lt (show x < 2 ^ 64 by omega)]
   exact Nat.and_two_pow_sub_one_eq_mod x 32
  have h3:((BitVec.ofNat 64 x &&& BitVec.ofNat 64 4294967295:BitVec (Go.IntKind.bits .u64)).toNat:Int) = ((x % 4294967296:Nat):Int):=congrArg _ h2
  exact (congrArg wU h3).trans (zkJ (by omega))
 have hdiv:∀ x:Nat,Int.fdiv (x:Int) 4294967296 = ((x / 4294967296:Nat):Int):=fun x=>by
  rw [Int.fdiv_eq_ediv_of_nonneg _ (by omega)]; rfl
 have hw:∀ x:Nat,x < 18446744073709551616→wU (x:Int) = (x:Int):=fun x hx=>zkJ (by omega)
 have hmod:wU ((a:Int) * (b:Int)) = (((a * b) % 18446744073709551616:Nat):Int):=by
  rw [show ((a:Int) * (b:Int)) = ((a * b:Nat):Int) by simp]
  show ((a * b:Nat):Int) % ((2 ^ 64:Nat):Int) = _
  rfl
 simp only [zdE,e32]
 have ha1:a / 4294967296 ≤ 4294967295:=by omega
 have ha0:a % 4294967296 ≤ 4294967295:=by omega
 have hb1:b / 4294967296 ≤ 4294967295:=by omega
 have hb0:b % 4294967296 ≤ 4294967295:=by omega
 have hp:=Nat.mul_le_mul ha1 hb1
 have hq:=Nat.mul_le_mul ha1 hb0
 have hr:=Nat.mul_le_mul ha0 hb1
 have hs:=Nat.mul_le_mul ha0 hb0
 have hab:a * b = (a / 4294967296 * (b / 4294967296)) * 18446744073709551616 + (a / 4294967296 * (b % 4294967296) + a % 4294967296 * (b / 4294967296)) * 4294967296 + a % 4294967296 * (b % 4294967296):=by
  conv=>lhs; rw [← Nat.div_add_mod a 4294967296,← Nat.div_add_mod b 4294967296]
  grind
 rw [hmod,hab,hand a ha,hand b hb,hdiv a,hdiv b]
 generalize a / 4294967296 = a1 at *
 generalize a % 4294967296 = a0 at *
 generalize b / 4294967296 = b1 at *
 generalize b % 4294967296 = b0 at *
 simp only [← Int.natCast_mul]
 generalize a1 * b1 = p at *
 generalize a1 * b0 = q at *
 generalize a0 * b1 = r at *
 generalize a0 * b0 = s at *
 rw [hw p (by omega),hw q (by omega),hw r (by omega),hw s (by omega),hdiv s]
 simp only [← Int.natCast_add]
 rw [hw (q + s / 4294967296) (by omega),hdiv (q + s / 4294967296),hand _ (by omega)]
 simp only [← Int.natCast_add]
 rw [hw (p + (q + s / 4294967296) / 4294967296) (by omega),hw ((q + s / 4294967296) % 4294967296 + r) (by omega),hdiv]
 simp only [← Int.natCast_add]
 rw [hw _ (by omega)]
 have:p + (q + s / 4294967296) / 4294967296 + ((q + s / 4294967296) % 4294967296 + r) / 4294967296 = (p * 18446744073709551616 + (q + r) * 4294967296 + s) / 18446744073709551616:=by omega
 rw [this]
theorem zJY {a b:Int} (ha:0 ≤ a ∧ a < U64) (hb:0 ≤ b ∧ b < U64):zgF (a,b,()) = some (zsX a b):=by
 obtain ⟨m,rfl⟩:=Int.eq_ofNat_of_zero_le ha.1
 obtain ⟨n,rfl⟩:=Int.eq_ofNat_of_zero_le hb.1
 unfold U64 at *
 simp only [zgF]
 rw [zRi m n (by omega) (by omega),Option.bind_some]
 unfold zsX M62
 have e:((m:Int) * (n:Int)) = ((m * n:Nat):Int):=by simp
 rw [e]
 generalize m * n = p
 by_cases h:p < 18446744073709551616
 ·have h1:p / 18446744073709551616 = 0:=by omega
  have h2:p % 18446744073709551616 = p:=by omega
  simp only [h1,h2]
  grind
 ·have h1:(((p / 18446744073709551616:Nat):Int) != 0) = true:=by simp only [bne_iff_ne,ne_eq]; omega
  simp only [h1]
  grind
theorem zG9 {a b:Int} (ha:0 ≤ a ∧ a < U64) (hb:0 ≤ b ∧ b < U64):ziz (a,b,()) = some (zsX a b):=by
 obtain ⟨m,rfl⟩:=Int.eq_ofNat_of_zero_le ha.1
 obtain ⟨n,rfl⟩:=Int.eq_ofNat_of_zero_le hb.1
 unfold U64 at *
 simp only [ziz,zsX]
 unfold M62
 by_cases h0:m = 0
 ·subst h0
  simp only [Int.natCast_zero,Int.zero_mul]
  rfl
 ·have e:((m:Int) * (n:Int)) = ((m * n:Nat):Int):=by simp
  have hd:Int.tdiv 4611686018427387904 (m:Int) = ((4611686018427387904 / m:Nat):Int):=rfl
  have hle:4611686018427387904 / m ≤ 4611686018427387904:=Nat.div_le_self _ _
  have h1:4611686018427387904 / m < n ↔ 4611686018427387904 < m * n:=by
   have:=Nat.div_lt_iff_lt_mul (x:=4611686018427387904) (y:=n) (k:=m) (by omega)
   rw [Nat.mul_comm] at this
   exact this
  rw [hd]
  generalize 4611686018427387904 / m = q at *
  have hw:wU ((q:Nat):Int) = (q:Int):=zkJ (by omega)
  have b1:(((m:Nat):Int) != 0) = true:=by simp only [bne_iff_ne,ne_eq]; omega
  have b2:(((m:Nat):Int) == 0) = false:=by simp only [beq_eq_false_iff_ne,ne_eq]; omega
  rw [hw,b1,b2,e]
  by_cases h2:m * n > 4611686018427387904
  ·have:=h1.2 h2
   rw [decide_eq_true (by omega),decide_eq_true (by omega)]
   rfl
  ·have h3:¬ q < n:=fun h=>h2 (h1.1 h)
   have hw2:wU ((m * n:Nat):Int) = ((m * n:Nat):Int):=zkJ (by omega)
   rw [decide_eq_false (by omega),decide_eq_false (by omega),hw2]
   rfl
def zlx:Int→List Int→Int × Int × Unit
 | a,[]=>(a,0,())
 | a,x :: l=>bif decide (a + x > M62) then (0,7,()) else zlx (a + x) l
theorem jV {σ α β ρ:Type} {B:(σ→Option ρ)→σ→Option ρ} {l:List β} (d:β) (I:Nat→α→Prop) (st:Int→α→σ) (G:List β→α→Option ρ) (hl:l.length ≤ Go.maxLen)
 (hin:∀ k (i:Nat) x rest s,i < l.length→I i s→l.getD i d = x→x ∈ l→l.drop (i + 1) = rest→(∀ s',I (i + 1) s'→k (st (wI (i + 1)) s') = G rest s')→B k (st i s) = G (x :: rest) s) (hout:∀ k s,I l.length s→B k (st l.length s) = G [] s) (s:α) (h0:I 0 s):zg B K0 (st 0 s) = G l s:=by
 have:=zaT (B:=B) hl st (fun i s=>G (l.drop i) s) I (fun k i s hi hI h=>?_) (fun k s hI=>?_) s h0
 ·simpa using this
 ·rw [yi d hi]
  exact hin k i _ _ s hi hI rfl (zX hi) rfl fun s' hI'=>h s' hI'
 ·rw [hout _ _ hI,List.drop_of_length_le (Nat.le_refl _)]
theorem znF {l:List Int} (hl:l.length ≤ Go.maxLen) (h:∀ x ∈ l,0 ≤ x ∧ x < U64):zhc (l,()) = some (zlx 0 l) :=
 jV (B:=zgH) (l:=l) (α:=Int) (0:Int) (fun _ s=>0 ≤ s) (fun i s=>(s,l,(l.length:Int),i)) (fun rest s=>some (zlx s rest)) hl (fun k i x rest s hi hI hx hm hr hk=>by
  simp only [zgH]
  have hxx:=h x hm
  rw [ltT hi,zj hi,zE,hx,zLJ hI hxx]
  simp only [cond_true,Option.bind_some,ztT,zlx]
  by_cases hb:s + x > M62
  ·rw [decide_eq_true hb]; rfl
  ·rw [decide_eq_false hb]
   exact hk (s + x) (by omega)) (fun k s _=>by simp only [zgH]; rw [ltF]; rfl) 0 (Int.le_refl 0)
def zET (a b:zz):Bool:=decide (a.1 ≤ b.1) && (List.range' 0 64).all fun i=>!zm5 a.2.1 i || zm5 b.2.1 i
def zpb (a:zz):Prop:=0 ≤ a.2.1 ∧ a.2.1 < U64
theorem zzj {a b:zz} (ha:zpb a) (hb:zpb b):zh5 (a,b,()) = some (zET a b,()):=by
 rw [zB]
 simp only [zh5]
 unfold zET
 unfold zpb U64 at *
 obtain ⟨m,hm⟩:=Int.eq_ofNat_of_zero_le ha.1
 obtain ⟨n,hn⟩:=Int.eq_ofNat_of_zero_le hb.1
 have h1:=zzh m n (by omega) (by omega)
 unfold zht at h1
 have h2:(wU (BitVec.toNat (BitVec.ofInt (Go.IntKind.bits .u64) (a.2.1:Int) &&& ~~~BitVec.ofInt (Go.IntKind.bits .u64) (b.2.1:Int)):Int) == 0) = (List.range' 0 64).all fun i=>!zm5 a.2.1 i || zm5 b.2.1 i:=by
  rw [hm,hn]
  have h3:∀ z:Int,(z != 0) = !(z == 0):=fun z=>rfl
  rw [h3] at h1
  have h4:=congrArg (!·) h1
  simp only [Bool.not_not] at h4
  exact h4
 rw [h2]
 grind
theorem zLK {a b:zz} (ha:zpb a) (hb:zpb b):zri (a,b,()) = some (zET a b,()):=by
 rw [zB]
 unfold zET
 unfold zpb U64 at *
 have hr:List.range 64 = List.range' 0 64:=List.range_eq_range'
 rw [← hr]
 have hloop:=zFv (B:=zfw) (n:=64) (by unfold Go.maxLen; omega) (p:=fun i=>!zm5 a.2.1 i || zm5 b.2.1 i) (fin:=bif decide (a.1 ≤ b.1) then some (true,()) else some (false,())) (bad:=some (false,())) (fun i=>(i,a,b)) (fun k i hi=>by
  simp only [zfw]
  rw [decide_eq_true (by omega),zro _ _ ha.1 (by omega),zro _ _ hb.1 (by omega),Int.toNat_natCast]
  simp only [cond_true,Option.bind_some]
  grind) (fun k=>by simp only [zfw]; rfl)
 refine hloop.trans ?_
 grind
theorem zC8 (x:Int):zg6 (x,()) = some (qn x,()):=by simp only [zg6,qn]; grind
theorem zLL (x:Int):jo (x,()) = some (qn x,()):=by simp only [jo,qn]; grind
def zij (x:zjE):Bool:=qC x.1 && (decide (x.2.1 ≤ M62) && decide (-1 ≤ x.2.2.1 ∧ x.2.2.1 ≤ 127))
theorem zLM (x:zjE):zie (x,()) = some (zij x,()):=by
 rw [zB]
 simp only [zie,zbC,zC8,Option.bind_some,zij,qn]
 unfold M62
 grind
theorem zLN (x:zjE):jp (x,()) = some (zij x,()):=by
 rw [zB]
 simp only [jp,zij,qC]
 unfold M62
 grind
def zqI (x:zjE):Bool:=(x.2.1:Int) == 0 && (x.2.2.1:Int) == -1
theorem zJZ (x:zjE):zgB (x,()) = some (zqI x,()):=by
 rw [zB]
 simp only [zgB,zqI]
 have h:eqI zdD x (x.1,(ze zdD).2.1,-1,(ze zdD).2.2.2) = ((x.2.1:Int) == 0 && (x.2.2.1:Int) == -1):=by
  show cond ((x.1:Int) == x.1) (cond ((x.2.1:Int) == 0) (cond ((x.2.2.1:Int) == -1) true false) false) false = _
  rw [beq_self_eq_true]
  cases ((x.2.1:Int) == 0) <;> cases ((x.2.2.1:Int) == -1) <;> rfl
 rw [h]
def zpc (x:zv):Bool:=(qn x.2.1 && (qn x.2.2.1 && (x.2.1:Int) != x.2.2.1)) && ((zij x.2.2.2.1 && zij x.2.2.2.2.1) && !(zqI x.2.2.2.1 && zqI x.2.2.2.2.1))
def zhv (x:zv):Prop:=(0 ≤ x.2.2.2.1.2.1 ∧ x.2.2.2.1.2.1 < U64) ∧ (0 ≤ x.2.2.2.2.1.2.1 ∧ x.2.2.2.2.1.2.1 < U64)
theorem zLO (x:zv):zlQ (x,()) = some (zpc x,()):=by
 rw [zB]
 simp only [zlQ,zC8,zLM,zJZ,Option.bind_some,zpc]
 grind
theorem zJ0 {x:zv} (h:zhv x):zj7 (x,()) = some (zpc x,()):=by
 rw [zB]
 simp only [zj7,zLL,zLN,Option.bind_some,zpc]
 have h1:zij x.2.2.2.1 = true→zqI x.2.2.2.1 = !(decide (x.2.2.2.1.2.1 > 0) || decide (x.2.2.2.1.2.2.1 ≥ 0)):=fun hp=>by
  unfold zij at hp; unfold zqI; unfold zhv at h; grind
 have h2:zij x.2.2.2.2.1 = true→zqI x.2.2.2.2.1 = !(decide (x.2.2.2.2.1.2.1 > 0) || decide (x.2.2.2.2.1.2.2.1 ≥ 0)):=fun hp=>by
  unfold zij at hp; unfold zqI; unfold zhv at h; grind
 generalize decide (x.2.2.2.1.2.1 > 0) = c1 at *
 generalize decide (x.2.2.2.1.2.2.1 ≥ 0) = c2 at *
 generalize decide (x.2.2.2.2.1.2.1 > 0) = c3 at *
 generalize decide (x.2.2.2.2.1.2.2.1 ≥ 0) = c4 at *
 cases c1 <;> cases c2 <;> cases c3 <;> cases c4 <;> grind
def zhw (x:zv):Bool:=bif x.1 then zpc x else eqI zw x (ze zw)
theorem zC9 (x:zv):zge (x,()) = some (!zhw x,()):=by
 rw [zB]
 simp only [zge,zLO,Option.bind_some,zhw]
 grind
theorem zHa {l:List zv} (hl:l.length ≤ Go.maxLen):ziH (l,()) = some (l.all zhw,()):=by
 rw [zB]
 simp only [ziH]
 rw [zkF (p:=fun x=>!zhw x) hl fun x _=>zC9 x,Option.bind_some,← va]
 cases l.any fun x=>!zhw x <;> rfl
theorem zHb {l:List zv} (hl:l.length ≤ Go.maxLen) (h:∀ x ∈ l,zhv x):zmN (l,()) = some (l.all zhw,()):=by
 rw [zB]
 exact jz (B:=zcy) (l:=l) zR (fun i=>(l,i)) hl (fun k i x hi hx hm=>by
  simp only [zcy]
  rw [ltT hi]
  simp only [zj hi,zE,hx,zJ0 (h x hm),Option.bind_some,cond_true,zhw]
  grind) (fun k=>by simp only [zcy]; rw [ltF]; rfl)
end Go.Proofs.YtkcakhbkoeimdaaGreatDoor
end
section
namespace Go.Proofs.YtkcakhbkoeimdaaGreatDoor
open Go.Ev
theorem zjs {α:Type} {p:α→Bool} {x:α} {l:List α}:(x :: l).filter p = bif p x then x :: l.filter p else l.filter p:=by
 rw [List.filter_cons]; cases p x <;> rfl
def z8 {α:Type} (p:α→Bool):Nat→List α→List Int
 | _,[]=>[]
 | i,x :: l=>bif p x then (i:Int) :: z8 p (i + 1) l else z8 p (i + 1) l
theorem zhx {α:Type} {p:α→Bool}:∀ (l:List α) (i:Nat),(z8 p i l).length ≤ l.length
 | [],_=>Nat.le_refl _
 | x :: l,i=>by
  have:=zhx (p:=p) l (i + 1)
  simp only [z8,List.length_cons]
  cases p x <;> simp <;> omega
theorem zkL {α:Type} {p:α→Bool}:∀ (l:List α) (i:Nat),∀ z ∈ z8 p i l,∃ j:Nat,z = (j:Int) ∧ i ≤ j ∧ j < i + l.length
 | [],i,z,h=>by cases h
 | x :: l,i,z,h=>by
  simp only [z8] at h
  have ih:=zkL (p:=p) l (i + 1)
  cases hp:p x with
  | true =>
   rw [hp,cond_true] at h
   rcases List.mem_cons.1 h with rfl | h
   ·exact ⟨i,rfl,Nat.le_refl _,by simp⟩
   ·obtain ⟨j,h1,h2,h3⟩:=ih z h
    exact ⟨j,h1,by omega,by simp; omega⟩
  | false =>
   rw [hp,cond_false] at h
   obtain ⟨j,h1,h2,h3⟩:=ih z h
   exact ⟨j,h1,by omega,by simp; omega⟩
theorem zm8 {α β:Type} {p q:α→Bool} {g:α→β} (d:α) (L:List α):∀ (l:List α) (i:Nat),(∀ j,j < l.length→L.getD (i + j) d = l.getD j d)→((z8 p i l).filter fun z=>q (L.getD z.toNat d)).map (fun z=>g (L.getD z.toNat d)) = (l.filter fun x=>p x && q x).map g
 | [],_,_=>rfl
 | x :: l,i,h=>by
  have ih:=zm8 (p:=p) (q:=q) (g:=g) d L l (i + 1) fun j hj=>by
   have:=h (j + 1) (by simp; omega)
   rw [show i + 1 + j = i + (j + 1) by omega,this]; rfl
  have h0:L.getD i d = x:=h 0 (by simp)
  simp only [z8,zjs]
  cases hp:p x with
  | false=>simp only [cond_false,Bool.false_and]; exact ih
  | true =>
   simp only [cond_true,Bool.true_and,zjs,Int.toNat_natCast,h0]
   cases hq:q x with
   | false=>exact ih
   | true=>simp only [cond_true,List.map_cons,Int.toNat_natCast,h0,ih]
theorem zxD {l:List zv} {g:zv × Unit→Option (Bool × Unit)}:ze5 (some (l,some g,()),()) = some (true,()):=rfl
theorem zzk {l:List zv} {g:zv × Unit→Option (Bool × Unit)} {p:zv→Bool} (hg:∀ x,g (x,()) = some (p x,())) {i:Nat} (hi:i < l.length):ya (some (l,some g,()),(i:Int),()) = some (p (l.getD i zR),()):=by
 rw [zB]
 simp only [ya,zxD,Option.bind_some,cond_true]
 rw [decide_eq_true (by omega),ltT hi,zj hi,zE,hg]
 simp only [cond_true,Option.bind_some]
theorem zvf {l:List zv} {g:zv × Unit→Option (Bool × Unit)} {p:zv→Bool} (hl:l.length ≤ lim) (hg:∀ x,g (x,()) = some (p x,())):zdK (some (l,some g,()),()) = some (z8 p 0 l,()):=by
 have hl':l.length ≤ Go.maxLen:=by unfold lim at hl; unfold Go.maxLen; omega
 have:=zaT (B:=yG) (α:=List Int) hl' (fun i o=>(some (l,some g,()),(l.length:Int),i,o)) (fun i o=>some (o ++ z8 p i (l.drop i),())) (fun i o=>o.length ≤ i) (fun k i o hi hI hk=>by
  simp only [yG]
  rw [ltT hi,zzk hg hi,zhH,yi zR hi]
  simp only [cond_true,Option.bind_some,z8]
  rw [decide_eq_true (by simp; omega)]
  cases hp:p (l.getD i zR) with
  | false =>
   simp only [cond_false]
   exact hk o (by omega)
  | true =>
   simp only [cond_true]
   rw [hk _ (by simp; omega)]
   simp) (fun k o _=>by
  simp only [yG]
  rw [ltF,List.drop_of_length_le (Nat.le_refl _)]
  simp [z8]) [] (Nat.le_refl _)
 refine Eq.trans ?_ (this.trans ?_)
 ·rfl
 ·simp
theorem zJ1 {l:List zt} {g:zt × Unit→Option (Bool × Unit)}:ze6 (some (l,some g,()),()) = some (true,()):=rfl
theorem zLP {l:List zt} {g:zt × Unit→Option (Bool × Unit)} {p:zt→Bool} (hg:∀ x,g (x,()) = some (p x,())) {i:Nat} (hi:i < l.length):zgc (some (l,some g,()),(i:Int),()) = some (p (l.getD i zI),()):=by
 rw [zB]
 simp only [zgc,zJ1,Option.bind_some,cond_true]
 rw [decide_eq_true (by omega),ltT hi,zj hi,zE,hg]
 simp only [cond_true,Option.bind_some]
theorem zHc {l:List zt} {g:zt × Unit→Option (Bool × Unit)} {p:zt→Bool} (hl:l.length ≤ lim) (hg:∀ x,g (x,()) = some (p x,())):zhT (some (l,some g,()),()) = some (z8 p 0 l,()):=by
 have hl':l.length ≤ Go.maxLen:=by unfold lim at hl; unfold Go.maxLen; omega
 have:=zaT (B:=yI) (α:=List Int) hl' (fun i o=>(some (l,some g,()),(l.length:Int),i,o)) (fun i o=>some (o ++ z8 p i (l.drop i),())) (fun i o=>o.length ≤ i) (fun k i o hi hI hk=>by
  simp only [yI]
  rw [ltT hi,zLP hg hi,zhH,yi zI hi]
  simp only [cond_true,Option.bind_some,z8]
  rw [decide_eq_true (by simp; omega)]
  cases hp:p (l.getD i zI) with
  | false =>
   simp only [cond_false]
   exact hk o (by omega)
  | true =>
   simp only [cond_true]
   rw [hk _ (by simp; omega)]
   simp) (fun k o _=>by
  simp only [yI]
  rw [ltF,List.drop_of_length_le (Nat.le_refl _)]
  simp [z8]) [] (Nat.le_refl _)
 refine Eq.trans ?_ (this.trans ?_)
 ·rfl
 ·simp
def zjt (l:List zv) (c:Int):Int × Int × Unit:=bif qC c then zlx 0 ((l.filter fun x=>x.1 && (x.2.2.2.1.1:Int) == c).map fun x=>x.2.2.2.1.2.1) else (0,1,())
theorem zLQ (l:List zv) (hl:l.length ≤ lim):zlR (l,()) = some (some (l,some zit,()),()):=by
 simp only [zlR,yM,zvb hl,Option.bind_some]
 rfl
theorem zHd (x:zv):zit (x,()) = some (x.1,()):=by
 rw [zB]; rfl
theorem zJ2 {l:List zv} (hl:l.length ≤ lim) (h:∀ x ∈ l,zhv x) (c:Int):zkn (l,c,()) = some (zjt l c):=by
 have hl':l.length ≤ Go.maxLen:=by unfold lim at hl; unfold Go.maxLen; omega
 simp only [zkn,zkm,zbC,Option.bind_some]
 unfold zjt
 cases hc:qC c with
 | false=>rfl
 | true =>
  simp only [cond_true]
  rw [zLQ l hl,Option.bind_some,zvf hl zHd,Option.bind_some]
  have hsl:=zhx (p:=fun x:zv=>x.1) l 0
  have hsm:=zkL (p:=fun x:zv=>x.1) l 0
  have hloop:=jV (B:=zeA) (l:=z8 (fun x:zv=>x.1) 0 l) (α:=List Int) (0:Int) (fun i o=>o.length ≤ i ∧ ∀ x ∈ o,0 ≤ x ∧ x < U64) (fun i o=>(l,c,z8 (fun x:zv=>x.1) 0 l,((z8 (fun x:zv=>x.1) 0 l).length:Int),i,o))
   (fun rest o=>some (zlx 0 (o ++ (rest.filter fun z=>((l.getD z.toNat zR).2.2.2.1.1:Int) == c).map fun z=>(l.getD z.toNat zR).2.2.2.1.2.1))) (by omega) (fun k i x rest o hi hI hx hm hr hk=>by
    simp only [zeA]
    obtain ⟨j,rfl,-,hj⟩:=hsm x hm
    rw [ltT hi,zj hi,zE,hx,zj (by omega),zj (by omega),Int.toNat_natCast,zhH]
    have hxx:=(h (l.getD j zR) (zX (by omega))).1
    simp only [cond_true,zjs,Int.toNat_natCast]
    rw [decide_eq_true (by simp; omega)]
    simp only [cond_true]
    cases hq:((l.getD j zR).2.2.2.1.1:Int) == c with
    | false =>
     exact hk o ⟨by omega,hI.2⟩
    | true =>
     simp only [cond_true,List.map_cons,Int.toNat_natCast]
     refine (hk _ ⟨by simp; omega,fun x hx=>?_⟩).trans ?_
     ·rcases List.mem_append.1 hx with hx | hx
      ·exact hI.2 x hx
      ·rcases List.mem_singleton.1 hx with rfl
       exact hxx
     ·rw [List.append_assoc]; rfl) (fun k o hI=>by
    simp only [zeA]
    rw [ltF]
    simp only [cond_false]
    rw [znF (by omega) hI.2,List.filter_nil,List.map_nil,List.append_nil]
    rfl) [] ⟨Nat.le_refl _,fun x hx=>by cases hx⟩
  refine hloop.trans ?_
  rw [List.nil_append,zm8 (q:=fun x:zv=>(x.2.2.2.1.1:Int) == c) (g:=fun x:zv=>x.2.2.2.1.2.1) zR l l 0 fun j _=>by rw [Nat.zero_add]]
theorem zJ3 {l:List zv} (hl:l.length ≤ Go.maxLen) (h:∀ x ∈ l,zhv x) (c:Int):zkc (l,c,()) = some (zjt l c):=by
 simp only [zkc,zkb]
 unfold zjt
 cases hc:qC c with
 | false=>unfold qC at hc; grind
 | true =>
  have hloop:=jV (B:=zen) (l:=l) (α:=Int) zR (fun _ s=>0 ≤ s ∧ s ≤ M62) (fun i s=>(l,c,s,i)) (fun rest s=>some (zlx s ((rest.filter fun x=>x.1 && (x.2.2.2.1.1:Int) == c).map fun x=>x.2.2.2.1.2.1))) hl (fun k i x rest s hi hI hx hm hr hk=>by
   simp only [zen]
   have hxx:=(h x hm).1
   rw [ltT hi]
   simp only [zj hi,zE,hx,cond_true,zjs]
   unfold M62 at *
   unfold U64 at *
   rw [zeJ (by unfold U64; omega) (by unfold U64; omega)]
   cases hl:x.1 with
   | false=>exact hk s hI
   | true =>
    cases hq:(x.2.2.2.1.1:Int) == c with
    | false=>exact hk s hI
    | true =>
     simp only [cond_true,Option.bind_some,ztT,Bool.and_self,List.map_cons,zlx]
     unfold M62
     by_cases hb:s + x.2.2.2.1.2.1 > 4611686018427387904
     ·rw [decide_eq_true hb]; rfl
     ·rw [decide_eq_false hb]
      exact hk (s + x.2.2.2.1.2.1) (by omega)) (fun k s _=>by simp only [zen]; rw [ltF]; rfl) 0 (by unfold M62; omega)
  refine Eq.trans ?_ hloop
  unfold qC at hc
  grind
end Go.Proofs.YtkcakhbkoeimdaaGreatDoor
end
section
namespace Go.Proofs.YtkcakhbkoeimdaaGreatDoor
open Go.Ev
def zAG (x:Int):Bool:=decide (0 ≤ x ∧ x ≤ 2)
theorem zEU (x:Int):zaV (x,()) = some (!zAG x,()):=by simp only [zaV,zAG]; grind
def zsY (r:zd) (i:Nat) (row:List Int):Bool:=decide (row.length = r.2.2.1.length) && (row.all zAG && row.getD (Int.toNat (r.2.2.2.1.getD i qr).2.1) (0:Int) == 2)
def zik (r:zd) (l:List (List Int)):Bool:=decide (l.length = r.2.2.2.1.length) && zV (fun i=>zsY r i (l.getD i [])) 0 (l.length - 0)
structure zhy (r:zd):Prop where
 labels:1 ≤ r.1.length ∧ r.1.length ≤ 8
 lines:1 ≤ r.2.1.length ∧ r.2.1.length ≤ 8
 accounts:1 ≤ r.2.2.1.length ∧ r.2.2.1.length ≤ 8
 guilds:r.2.2.2.1.length ≤ 8
 quotas:r.2.2.2.2.1.length = r.1.length
 heads:∀ i,i < r.2.2.2.1.length→0 ≤ (r.2.2.2.1.getD i qr).2.1 ∧ (r.2.2.2.1.getD i qr).2.1 < (r.2.2.1.length:Int)
theorem j9 {r:zd} (h:qS r = true):zhy r:=by
 simp only [qS,Bool.and_eq_true] at h
 obtain ⟨h1,h2,h3,h4,h5,-⟩:=h
 simp only [zbV,zms,zeN,znL,zhs,zT,Bool.and_eq_true,decide_eq_true_eq,zC5,qy] at h1 h2 h3 h4 h5
 refine ⟨by omega,by omega,by omega,h4.1,by omega,fun i hi=>?_⟩
 have:=h4.2.1 i (by omega) (by omega)
 simp only [zAF,zT,Bool.and_eq_true,decide_eq_true_eq] at this
 omega
theorem ixR {n:Nat} {x:Int} {ρ:Type} {y:Option ρ} (h:0 ≤ x ∧ x < (n:Int)):inR x (n:Int) y = y:=zOO h.1 h.2
theorem zJ4 {r:zd} (hr:qi r) (l:List (List Int)):zeI (r,l,()) = some (qS r && zik r l,()):=by
 rw [zB]
 simp only [zeI,zkB,zm6 r hr,Option.bind_some]
 cases hb:qS r with
 | false=>rfl
 | true =>
  have ok:=j9 hb
  rw [ziq]
  unfold zik
  by_cases hn:l.length = r.2.2.2.1.length
  ·have hg:=ok.guilds
   have hloop:zlt K0 (some zaV,l,(l.length:Int),0,r) = bif zV (fun i=>zsY r i (l.getD i [])) 0 (l.length - 0) then some (true,()) else some (false,()) :=
    z7 (i0:=0) (n:=l.length) (by unfold Go.maxLen; omega) (Nat.zero_le _) (fun i=>(some zaV,l,(l.length:Int),i,r)) (fun k i h1 h2=>by
     simp only [zhq]
     rw [ltT h2,zj h2,Int.toNat_natCast,ziq]
     unfold zsY
     by_cases hm:(l.getD i []).length = r.2.2.1.length
     ·have ha:=ok.accounts
      have hh:=ok.heads i (by omega)
      rw [zde (p:=fun x=>!zAG x) (l:=l.getD i []) (by unfold Go.maxLen; omega) fun x _=>zEU x,zj (by omega),zE,ixR (by rw [hm]; exact hh)]
      have:=va (l:=l.getD i []) (p:=zAG)
      simp only [Option.bind_some,cond_true]
      grind
     ·grind) (fun k=>by simp only [zhq]; rw [ltF]; rfl)
   rw [hloop]
   grind
  ·grind
theorem zHe {r:zd} (hr:qi r) (l:List (List Int)):ziF (r,l,()) = some (qS r && zik r l,()):=by
 rw [zB]
 simp only [ziF,ziE,zvd r hr,Option.bind_some]
 cases hb:qS r with
 | false=>rfl
 | true =>
  have ok:=j9 hb
  rw [ziq]
  unfold zik
  by_cases hn:l.length = r.2.2.2.1.length
  ·have hg:=ok.guilds
   have ha:=ok.accounts
   have inner:∀ k0 (i:Nat),i < l.length→(l.getD i []).length = r.2.2.1.length→zgg K0 k0 (l,(i:Int),0,r) = bif (l.getD i []).all zAG then k0 (l,wI ((i:Int) + 1),r) else some (false,()):=fun k0 i hi hm =>
    jz (l:=l.getD i []) (0:Int) (fun j=>(l,(i:Int),j,r)) (by unfold Go.maxLen; omega) (fun k j x h1 h2 _=>by
     simp only [zgf]
     have h2':List.getD (l.getD i []) j (0:Int) = x:=h2
     simp only [zj hi,Int.toNat_natCast,ltT h1,zj h1,h2',cond_true,zAG]
     grind) (fun k=>by
     simp only [zgf]
     simp only [zj hi,Int.toNat_natCast]
     rw [ltF]; rfl)
   have hloop:zkp K0 (l,0,r) = bif zV (fun i=>zsY r i (l.getD i [])) 0 (l.length - 0) then some (true,()) else some (false,()) :=
    z7 (i0:=0) (n:=l.length) (by unfold Go.maxLen; omega) (Nat.zero_le _) (fun i=>(l,i,r)) (fun k i h1 h2=>by
     simp only [zcG]
     rw [ltT h2]
     simp only [zj h2,Int.toNat_natCast]
     rw [ziq]
     unfold zsY
     by_cases hm:(l.getD i []).length = r.2.2.1.length
     ·have hh:=ok.heads i (by omega)
      have hi:=inner k i h2 hm
      rw [zj (by omega),zE,ixR (by rw [hm]; exact hh),hi]
      simp only [cond_true]
      grind
     ·grind) (fun k=>by simp only [zcG]; rw [ltF]; rfl)
   rw [hloop]
   grind
  ·grind
theorem zO3 (x:Int):zmf (x,()) = some (qn x,()):=by simp only [zmf,qn]; grind
theorem zLR (x:Int):zh6 (x,()) = some (qn x,()):=by simp only [zh6,qn]; grind
theorem zNJ (x:Int):ze1 (x,()) = some (qn x,()):=by simp only [ze1,qn]; grind
theorem zLS (x:Int):zdt (x,()) = some (qn x,()):=by simp only [zdt,qn]; grind
def zkM (k a b:Int):Int × Int × Unit:=bif (k != 1 && k != 2) || (a == 0 || b == 0) then (0,1,()) else bif decide (a * b > M62) then (0,7,()) else bif k == 2 then (a,0,()) else (a * b,0,())
theorem zzl {k a b:Int} (ha:0 ≤ a ∧ a < U64) (hb:0 ≤ b ∧ b < U64):zih (k,a,b,()) = some (zkM k a b):=by
 simp only [zih,zJY ha hb,Option.bind_some,zsX,zkM]
 generalize a * b = p
 cases h:decide (p > M62) <;> simp only [cond_true,cond_false] <;> grind
theorem zxE {k a b:Int} (ha:0 ≤ a ∧ a < U64) (hb:0 ≤ b ∧ b < U64):zgJ (k,a,b,()) = some (zkM k a b):=by
 simp only [zgJ,zG9 ha hb,Option.bind_some,zsX,zkM]
 generalize a * b = p
 cases h:decide (p > M62) <;> simp only [cond_true,cond_false] <;> grind
def zgo (x:Int):Prop:=0 ≤ x ∧ x < U64
structure zhz (x:zt):Prop where
 amount:zgo x.2.2.2.2.2.2.1
 price:zgo x.2.2.2.2.2.2.2.1
 held:zgo x.2.2.2.2.2.2.2.2.1
def zi8 (x:zt):Bool:=((zkM x.2.2.2.1 x.2.2.2.2.2.2.2.1 x.2.2.2.2.2.2.1).2.1 == 0 && (zkM x.2.2.2.1 x.2.2.2.2.2.2.2.1 x.2.2.2.2.2.2.1).1 == x.2.2.2.2.2.2.2.2.1) && ((qn x.2.1 && qn x.2.2.1) && ((qC x.2.2.2.2.1 && qC x.2.2.2.2.2.1) && ((x.2.2.2.2.1:Int) != x.2.2.2.2.2.1 && decide (0 ≤ x.2.2.2.2.2.2.2.2.2.1))))
theorem zNK {x:zt} (h:zhz x):znB (x,()) = some (zi8 x,()):=by
 rw [zB]
 simp only [znB,zzl h.price h.amount,zO3,zbC,Option.bind_some,zi8]
 generalize zkM x.2.2.2.1 x.2.2.2.2.2.2.2.1 x.2.2.2.2.2.2.1 = n
 grind
theorem zLT {x:zt} (h:zhz x):zii (x,()) = some (zi8 x,()):=by
 rw [zB]
 simp only [zii,zxE h.price h.amount,zLR,Option.bind_some,zi8]
 generalize zkM x.2.2.2.1 x.2.2.2.2.2.2.2.1 x.2.2.2.2.2.2.1 = n
 unfold qC
 grind
def zly (x:zt):Bool:=bif x.1 then zi8 x else eqI zr x (ze zr)
def zrp (l:List zt):List Int:=(l.filter fun x=>x.1).map fun x=>x.2.2.2.2.2.2.2.2.2.1
theorem zNL (o:List (Int × Int)) (x z v:Int):jE tI (jI tI o x v) z = (jE tI o z || z == x):=by
 induction o with
 | nil=>simp only [jI,jE]; show (bif z == x then true else false) = (false || z == x); cases z == x <;> rfl
 | cons e o ih =>
  obtain ⟨e1,e2⟩:=e
  have hx:∀ y:Int,eqI tI y e1 = (y == e1):=fun y=>rfl
  simp only [jI,jE,hx]
  cases h:x == e1 with
  | true =>
   have:=eq_of_beq h
   subst this
   simp only [cond_true,jE,hx]
   cases z == x <;> simp
  | false =>
   simp only [cond_false,jE,ih,hx]
   cases z == e1 <;> rfl
theorem zFE (o:List (Int × Int)) (x v:Int):(jI tI o x v).length = o.length + (bif jE tI o x then 0 else 1):=by
 induction o with
 | nil=>rfl
 | cons e o ih =>
  simp only [jI,jE]
  cases h:eqI tI x e.1 with
  | true=>simp only [cond_true,List.length_cons,Nat.add_zero]
  | false =>
   simp only [cond_false,List.length_cons,ih]
   generalize (bif jE tI o x then 0 else 1) = n
   omega
def zrq:List Int→List (Int × Int)→Nat
 | [],o=>o.length
 | x :: l,o=>zrq l (jI tI o x (wI (zaD tI (0:Int) o x + 1)))
theorem zMv:∀ (l:List Int) (o:List (Int × Int)),zrq l o ≤ o.length + l.length
 | [],o=>Nat.le_refl _
 | x :: l,o=>by
  have h:=zMv l (jI tI o x (wI (zaD tI (0:Int) o x + 1)))
  rw [zFE] at h
  simp only [zrq,List.length_cons]
  cases hm:jE tI o x <;> (rw [hm] at h; simp only [cond_true,cond_false] at h; omega)
theorem zMw:∀ (l:List Int) (o:List (Int × Int)),zrq l o = o.length + l.length ↔ (l.Pairwise (· ≠ ·) ∧ ∀ x ∈ l,jE tI o x = false)
 | [],o=>by simp [zrq]
 | x :: l,o=>by
  have h:=zMv l (jI tI o x (wI (zaD tI (0:Int) o x + 1)))
  have ih:=zMw l (jI tI o x (wI (zaD tI (0:Int) o x + 1)))
  rw [zFE] at h ih
  simp only [zrq,List.length_cons,List.pairwise_cons]
  cases hm:jE tI o x with
  | true =>
   rw [hm] at h
   simp only [cond_true] at h
   constructor
   ·intro h1; omega
   ·rintro ⟨-,h1⟩
    have:=h1 x (by simp)
    rw [hm] at this; cases this
  | false =>
   rw [hm] at ih
   simp only [cond_false] at ih
   rw [show o.length + (l.length + 1) = o.length + 1 + l.length by omega,ih]
   simp only [zNL]
   constructor
   ·rintro ⟨h1,h2⟩
    refine ⟨⟨fun z hz=>?_,h1⟩,fun z hz=>?_⟩
    ·have:=h2 z hz
     simp only [Bool.or_eq_false_iff,beq_eq_false_iff_ne] at this
     exact fun e=>this.2 e.symm
    ·rcases List.mem_cons.1 hz with rfl | hz
     ·exact hm
     ·have:=h2 z hz
      simp only [Bool.or_eq_false_iff] at this
      exact this.1
   ·rintro ⟨⟨h1,h2⟩,h3⟩
    refine ⟨h2,fun z hz=>?_⟩
    simp only [Bool.or_eq_false_iff,beq_eq_false_iff_ne]
    exact ⟨h3 z (by simp [hz]),fun e=>h1 z hz e.symm⟩
def zfT (l:List zt):Bool:=l.all zly && zrq (zrp l) [] == (zrp l).length
theorem zJ5 {l:List zt} (hl:l.length ≤ 1000000) (h:∀ x ∈ l,zhz x):zoV (l,()) = some (zfT l,()):=by
 have hloop:=jV (B:=zeC) (l:=l) (α:=Nat × List (Int × Int)) zI (fun i s=>s.1 ≤ i) (fun i s=>((s.1:Int),l,(l.length:Int),i,s.2))
  (fun rest s=>some (rest.all zly && zrq (zrp rest) s.2 == s.1 + (zrp rest).length,())) (by unfold Go.maxLen; omega) (fun k i x rest s hi hI hx hm hr hk=>by
   obtain ⟨n,o⟩:=s
   simp only [zeC]
   have hn:n ≤ i:=hI
   have hw:wI ((n:Int) + 1) = ((n + 1:Nat):Int):=by
    unfold wI
    rw [IntWalk.i64_in _ (by omega)]; rfl
   rw [ltT hi,zj hi]
   simp only [zE,hx,cond_true,zNK (h x hm),Option.bind_some,hw,zrp,zjs,List.all_cons,zly]
   cases hlive:x.1 with
   | false =>
    simp only [cond_false]
    have:=hk (n,o) (by show n ≤ i + 1; omega)
    cases eqI zr x (ze zr) with
    | false=>rfl
    | true=>exact this
   | true =>
    simp only [cond_true,List.map_cons,zrq,List.length_cons]
    have:=hk (n + 1,jI tI o x.2.2.2.2.2.2.2.2.2.1 (wI (zaD tI (0:Int) o x.2.2.2.2.2.2.2.2.2.1 + 1))) (by show n + 1 ≤ i + 1; omega)
    cases zi8 x with
    | false=>rfl
    | true =>
     refine this.trans ?_
     simp only [zrp,Bool.true_and]
     rw [show n + 1 + (List.map (fun x:zt=>x.2.2.2.2.2.2.2.2.2.1) (List.filter (fun x=>x.1) rest)).length = n + ((List.map (fun x:zt=>x.2.2.2.2.2.2.2.2.2.1) (List.filter (fun x=>x.1) rest)).length + 1) by omega]) (fun k s _=>by
   obtain ⟨n,o⟩:=s
   simp only [zeC]
   rw [ltF]
   simp only [cond_false,zrp,List.filter_nil,List.map_nil,zrq,List.length_nil,List.all_nil,Bool.true_and,Nat.add_zero]
   rw [zO0]
   cases o.length == n <;> rfl) (0,[]) (Nat.le_refl _)
 refine hloop.trans ?_
 unfold zfT
 rw [Nat.zero_add]
theorem zLU {l:List zt} (hl:l.length ≤ Go.maxLen) (n:Nat) (hn:n ≤ l.length) (b:Int):zlN (l,(n:Int),b,()) = some (!zV (fun j=>!((l.getD j zI).1 && ((l.getD j zI).2.2.2.2.2.2.2.2.2.1:Int) == b)) 0 (n - 0),()):=by
 have hloop:=z7 (B:=zfs) (i0:=0) (n:=n) (p:=fun j=>!((l.getD j zI).1 && ((l.getD j zI).2.2.2.2.2.2.2.2.2.1:Int) == b)) (fin:=some (false,())) (bad:=some (true,())) (by omega) (Nat.zero_le _) (fun i=>(l,(n:Int),b,i)) (fun k i h1 h2=>by
  simp only [zfs]
  rw [ltT h2]
  simp only [zj (show i < l.length by omega),zE,cond_true]
  grind) (fun k=>by simp only [zfs]; rw [ltF]; rfl)
 refine hloop.trans ?_
 cases zV (fun j=>!((l.getD j zI).1 && ((l.getD j zI).2.2.2.2.2.2.2.2.2.1:Int) == b)) 0 (n - 0) <;> rfl
theorem zNM {l:List zt}:(zrp l).Pairwise (· ≠ ·) ↔ ∀ i j:Nat,i < j→j < l.length→(l.getD i zI).1 = true→(l.getD j zI).1 = true→(l.getD i zI).2.2.2.2.2.2.2.2.2.1 ≠ (l.getD j zI).2.2.2.2.2.2.2.2.2.1:=by
 unfold zrp
 rw [List.pairwise_map,List.pairwise_filter,List.pairwise_iff_getElem]
 have e:∀ i (h:i < l.length),l.getD i zI = l[i]:=fun i h=>by simp [List.getD,h]
 constructor
 ·intro h i j hij hj h1 h2
  rw [e i (by omega)] at h1 ⊢
  rw [e j hj] at h2 ⊢
  exact h i j (by omega) hj hij h1 h2
 ·intro h i j hi hj hij h1 h2
  have:=h i j hij hj (by rw [e i hi]; exact h1) (by rw [e j hj]; exact h2)
  rw [e i hi,e j hj] at this
  exact this
theorem zNN (l:List zt):zfT l = zV (fun i=>zly (l.getD i zI) && (!(l.getD i zI).1 || zV (fun j=>!((l.getD j zI).1 && ((l.getD j zI).2.2.2.2.2.2.2.2.2.1:Int) == (l.getD i zI).2.2.2.2.2.2.2.2.2.1)) 0 (i - 0))) 0 (l.length - 0):=by
 rw [Bool.eq_iff_iff,qy]
 unfold zfT
 have hc:=zMw (zrp l) []
 simp only [List.length_nil,Nat.zero_add] at hc
 simp only [Bool.and_eq_true,List.all_eq_true,beq_iff_eq,hc,zNM]
 constructor
 ·rintro ⟨h1,h2,-⟩ i _ hi
  refine ⟨h1 _ (zX (by omega)),?_⟩
  cases hlive:(l.getD i zI).1 with
  | false=>rfl
  | true =>
   simp only [Bool.not_true,Bool.false_or,qy]
   intro j _ hj
   cases hj1:(l.getD j zI).1 with
   | false=>rfl
   | true =>
    have:=h2 j i (by omega) (by omega) hj1 hlive
    simp only [Bool.true_and,Bool.not_eq_true',beq_eq_false_iff_ne]
    exact this
 ·intro h
  refine ⟨fun x hx=>?_,fun i j hij hj h1 h2=>?_,fun x _=>rfl⟩
  ·obtain ⟨i,hi,rfl⟩:=List.mem_iff_getElem.1 hx
   have e:l.getD i zI = l[i]:=by simp [List.getD,hi]
   rw [← e]
   exact (h i (by omega) (by omega)).1
  ·have:=(h j (by omega) (by omega)).2
   rw [h2] at this
   simp only [Bool.not_true,Bool.false_or,qy] at this
   have:=this i (by omega) (by omega)
   rw [h1] at this
   simp only [Bool.true_and,Bool.not_eq_true',beq_eq_false_iff_ne] at this
   exact this
theorem zHf {l:List zt} (hl:l.length ≤ Go.maxLen) (h:∀ x ∈ l,zhz x):zmR (l,()) = some (zfT l,()):=by
 rw [zB,zNN]
 exact z7 (B:=zcI) (i0:=0) hl (Nat.zero_le _) (fun i=>(l,i)) (fun k i h1 h2=>by
  simp only [zcI]
  rw [ltT h2]
  simp only [zj h2,zE,cond_true]
  rw [zLT (h _ (zX h2)),zLU hl i (by omega)]
  simp only [Option.bind_some,zly]
  grind) (fun k=>by simp only [zcI]; rw [ltF]; rfl)
structure znM (x:zG):Prop where
 amount:zgo x.2.2.2.2.2.2.2.1
 price:zgo x.2.2.2.2.2.2.2.2.1
def zhA (x:zG):Bool:=(decide (x.1 ≤ M62) && (qn x.2.1 && (qn x.2.2.1 && (qn x.2.2.2.1 && qn x.2.2.2.2.2.2.2.2.2.1)))) && bif (x.2.2.2.2.1:Int) == 3 then ((x.2.2.2.2.2.1:Int) == 0 && (x.2.2.2.2.2.2.1:Int) == 0) && ((x.2.2.2.2.2.2.2.1:Int) == 0 && (x.2.2.2.2.2.2.2.2.1:Int) == 0)
 else ((zkM x.2.2.2.2.1 x.2.2.2.2.2.2.2.1 x.2.2.2.2.2.2.2.2.1).2.1 == 0 && (x.2.2.2.2.2.2.2.2.2.1:Int) == 0) && ((x.2.2.2.2.2.1:Int) != x.2.2.2.2.2.2.1 && (qC x.2.2.2.2.2.1 && qC x.2.2.2.2.2.2.1))
theorem zO4 (x:zG):eqI zy x (x.1,x.2.1,x.2.2.1,x.2.2.2.1,x.2.2.2.2.1,(ze zy).2.2.2.2.2.1,(ze zy).2.2.2.2.2.2.1,(ze zy).2.2.2.2.2.2.2.1,(ze zy).2.2.2.2.2.2.2.2.1,x.2.2.2.2.2.2.2.2.2.1,(ze zy).2.2.2.2.2.2.2.2.2.2) = (((x.2.2.2.2.2.1:Int) == 0 && (x.2.2.2.2.2.2.1:Int) == 0) && ((x.2.2.2.2.2.2.2.1:Int) == 0 && (x.2.2.2.2.2.2.2.2.1:Int) == 0)):=by
 show cond ((x.1:Int) == x.1) (cond ((x.2.1:Int) == x.2.1) (cond ((x.2.2.1:Int) == x.2.2.1) (cond ((x.2.2.2.1:Int) == x.2.2.2.1) (cond ((x.2.2.2.2.1:Int) == x.2.2.2.2.1) (cond ((x.2.2.2.2.2.1:Int) == 0) (cond ((x.2.2.2.2.2.2.1:Int) == 0) (cond ((x.2.2.2.2.2.2.2.1:Int) == 0) (cond ((x.2.2.2.2.2.2.2.2.1:Int) == 0) (cond ((x.2.2.2.2.2.2.2.2.2.1:Int) == x.2.2.2.2.2.2.2.2.2.1) true false) false) false) false) false) false) false) false) false) false = _
 simp only [beq_self_eq_true,cond_true]
 cases ((x.2.2.2.2.2.1:Int) == 0) <;> cases ((x.2.2.2.2.2.2.1:Int) == 0) <;> cases ((x.2.2.2.2.2.2.2.1:Int) == 0) <;> cases ((x.2.2.2.2.2.2.2.2.1:Int) == 0) <;> rfl
theorem zLV {x:zG} (h:znM x):zlT (x,()) = some (zhA x,()):=by
 rw [zB]
 simp only [zlT,zzl h.amount h.price,zNJ,zbC,Option.bind_some,zhA]
 rw [zO4 x]
 generalize zkM x.2.2.2.2.1 x.2.2.2.2.2.2.2.1 x.2.2.2.2.2.2.2.2.1 = n
 unfold M62
 grind
theorem zLW {x:zG} (h:znM x):zlS (x,()) = some (zhA x,()):=by
 rw [zB]
 simp only [zlS,zxE h.amount h.price,zLS,Option.bind_some,zhA]
 have hz:(x.2.2.2.2.2.2.2.2.2.1:Int) == 0→qn x.2.2.2.2.2.2.2.2.2.1 = true:=fun h=>by unfold qn; grind
 generalize zkM x.2.2.2.2.1 x.2.2.2.2.2.2.2.1 x.2.2.2.2.2.2.2.2.1 = n
 unfold M62 qC
 grind
def zDa (a b:zG):Int:=orV (zkG a.1 b.1) (zkG a.2.1 b.2.1)
theorem zHg (a b:zG):ziC (a,b,()) = some (zDa a b,()):=by
 simp only [ziC,zvc,zo5,Option.bind_some]
 show Option.bind (zdS ([zkG a.1 b.1,zkG a.2.1 b.2.1],())) _ = _
 rw [zQ2]; rfl
theorem zEV (a b:zG):zg7 (a,b,()) = some (!decide (zDa b a ≥ 0),()):=by
 rw [zB]
 simp only [zg7,zDa,orV,zkG]
 grind
def zi9 (l:List zG):Bool:=zV (fun i=>zhA (l.getD i vS) && (decide (i = 0) || !decide (zDa (l.getD (i - 1) vS) (l.getD i vS) ≥ 0))) 0 (l.length - 0)
theorem zHh {l:List zG} (hl:l.length ≤ Go.maxLen) (h:∀ x ∈ l,znM x):zmW (l,()) = some (zi9 l,()):=by
 rw [zB]
 exact z7 (B:=zcN) (i0:=0) hl (Nat.zero_le _) (fun i=>(l,l,(l.length:Int),i)) (fun k i h1 h2=>by
  simp only [zcN]
  rw [ltT h2,zj h2,zE,zLV (h _ (zX h2))]
  by_cases h0:i = 0
  ·subst h0
   simp only [cond_true,Option.bind_some]
   grind
  ·rw [zji (by omega) (by omega),zj (by omega),Int.toNat_natCast,zHg]
   simp only [cond_true,Option.bind_some]
   grind) (fun k=>by simp only [zcN]; rw [ltF]; rfl)
theorem zHi {l:List zG} (hl:l.length ≤ Go.maxLen) (h:∀ x ∈ l,znM x):zmT (l,()) = some (zi9 l,()):=by
 rw [zB]
 exact z7 (B:=zcK) (i0:=0) hl (Nat.zero_le _) (fun i=>(l,i)) (fun k i h1 h2=>by
  simp only [zcK]
  rw [ltT h2,zj h2,zE,zLW (h _ (zX h2))]
  by_cases h0:i = 0
  ·subst h0
   simp only [cond_true,Option.bind_some]
   grind
  ·rw [zji (by omega) (by omega),zj h2,zj (by omega),Int.toNat_natCast,zEV]
   simp only [cond_true,Option.bind_some]
   grind) (fun k=>by simp only [zcK]; rw [ltF]; rfl)
end Go.Proofs.YtkcakhbkoeimdaaGreatDoor
end
section
namespace Go.Proofs.YtkcakhbkoeimdaaGreatDoor
open Go.Ev
def ztU (a:List Int):Prop:=∀ x ∈ a,zgo x
theorem zbD {a:List Int} (h:ztU a) (i:Nat):zgo (a.getD i 0):=by
 by_cases hi:i < a.length
 ·exact h _ (zX hi)
 ·rw [List.getD_eq_getElem?_getD,List.getElem?_eq_none (by omega)]
  unfold zgo U64; decide
structure zsZ (x:zp):Prop where
 trades:∀ t ∈ x.2.2.2.2.1,zhv t
 purses:∀ a ∈ x.2.2.2.2.2.1,ztU a
 made:ztU x.2.2.2.2.2.2.2.1
 spent:ztU x.2.2.2.2.2.2.2.2.1
structure jg (s:zb):Prop where
 shelves:∀ x ∈ s.2.1,zsZ x
 orders:∀ x ∈ s.2.2.2.1,zhz x
 entries:∀ x ∈ s.2.2.2.2.1,znM x
def zju (r:zd) (x:zp) (q:zba):Bool:=((decide ((x.1.length:Int) = q.1) && decide ((x.2.1.length:Int) = q.2.1)) && (decide ((x.2.2.1.length:Int) = q.2.2.1) && decide ((x.2.2.2.1.length:Int) = q.2.2.2.1))) && (decide ((x.2.2.2.2.1.length:Int) = q.2.2.2.2.1) && (decide (x.2.2.2.2.2.1.length = r.2.2.1.length) && decide (x.2.2.2.2.2.2.1.length = r.2.2.1.length)))
def zgT (r:zd) (s:zb):Bool:=(decide (s.2.1.length = r.1.length) && (decide ((s.2.2.2.1.length:Int) = r.2.2.2.2.2.1) && decide ((s.2.2.2.2.1.length:Int) ≤ r.2.2.2.2.2.2.1))) && ((decide (s.2.2.2.2.2.1.length = r.2.1.length) && decide (s.1 ≤ M62)) && zV (fun i=>zju r (s.2.1.getD i zf) (r.2.2.2.2.1.getD i qp)) 0 (s.2.1.length - 0))
theorem neI (a b:Int):(a != b) = !decide (a = b):=by
 rw [Bool.eq_iff_iff]; simp
theorem zHj {r:zd} (hr:qi r) (s:zb):zbT ((r,s,()),()) = some (qS r && zgT r s,()):=by
 rw [zB]
 simp only [zbT,ziM,zm6 r hr,Option.bind_some]
 cases hb:qS r with
 | false=>rfl
 | true =>
  have ok:=j9 hb
  have ok1:=ok.labels
  have ok2:=ok.quotas
  rw [ziq,ziq]
  unfold zgT M62
  by_cases hn:s.2.1.length = r.1.length
  ·have hloop:zkA K0 ((r.2.2.1.length:Int),s.2.1,(s.2.1.length:Int),0,(r,s,())) = bif zV (fun i=>zju r (s.2.1.getD i zf) (r.2.2.2.2.1.getD i qp)) 0 (s.2.1.length - 0) then some (true,()) else some (false,()) :=
    z7 (i0:=0) (n:=s.2.1.length) (by unfold Go.maxLen; omega) (Nat.zero_le _) (fun i=>((r.2.2.1.length:Int),s.2.1,(s.2.1.length:Int),i,(r,s,()))) (fun k i h1 h2=>by
     simp only [zgm]
     rw [ltT h2,zj h2,zj (by omega)]
     simp only [zE,neI,cond_true,zju]
     generalize s.2.1.getD i zf = x
     generalize r.2.2.2.2.1.getD i qp = q
     generalize k _ = kk
     grind (splits:=30)) (fun k=>by simp only [zgm]; rw [ltF]; rfl)
   rw [hloop]
   grind
  ·grind
theorem zHk {r:zd} (hb:qS r = true) (s:zb):ziy (r,s,()) = some (zgT r s,()):=by
 rw [zB]
 simp only [ziy,zix]
 have ok:=j9 hb
 have ok1:=ok.labels
 have ok2:=ok.quotas
 rw [ziq,ziq]
 unfold zgT M62
 by_cases hn:s.2.1.length = r.1.length
 ·have hloop:zjY K0 (0,r,s) = bif zV (fun i=>zju r (s.2.1.getD i zf) (r.2.2.2.2.1.getD i qp)) 0 (s.2.1.length - 0) then some (true,()) else some (false,()) :=
   z7 (i0:=0) (n:=s.2.1.length) (by unfold Go.maxLen; omega) (Nat.zero_le _) (fun i=>(i,r,s)) (fun k i h1 h2=>by
    simp only [zga]
    rw [ltT h2,zj h2,zj (by omega)]
    simp only [zE,neI,cond_true,zju]
    generalize s.2.1.getD i zf = x
    generalize r.2.2.2.2.1.getD i qp = q
    generalize k _ = kk
    grind (splits:=30)) (fun k=>by simp only [zga]; rw [ltF]; rfl)
  rw [hloop]
  grind
 ·grind
structure zeK (r:zd) (s:zb):Prop where
 shelves:s.2.1.length = r.1.length
 orders:s.2.2.2.1.length ≤ 24
 entries:s.2.2.2.2.1.length ≤ 48
 people:s.2.2.2.2.2.1.length = r.2.1.length
 shelf:∀ x ∈ s.2.1,x.1.length ≤ 12 ∧ x.2.1.length ≤ 12 ∧ x.2.2.1.length ≤ 12 ∧ x.2.2.2.1.length ≤ 12 ∧ x.2.2.2.2.1.length ≤ 12 ∧ x.2.2.2.2.2.1.length = r.2.2.1.length ∧ x.2.2.2.2.2.2.1.length = r.2.2.1.length
theorem zJ6:∀ (l:List zba) (n:Int),zkI n l = true→∀ q ∈ l,zsV q = true
 | [],_,_,q,h=>by cases h
 | a :: l,n,h,q,hq=>by
  simp only [zkI,Bool.and_eq_true] at h
  rcases List.mem_cons.1 hq with rfl | hq
  ·exact h.1
  ·exact zJ6 l _ h.2.2 q hq
theorem zaR {r:zd} {s:zb} (hb:qS r = true) (h:zgT r s = true):zeK r s:=by
 have ok:=j9 hb
 simp only [qS,Bool.and_eq_true] at hb
 obtain ⟨-,-,-,-,h5,h6⟩:=hb
 simp only [zhs,zx2,zT,Bool.and_eq_true,decide_eq_true_eq] at h5 h6
 simp only [zgT,Bool.and_eq_true,decide_eq_true_eq,qy] at h
 obtain ⟨⟨h7,h8,h9⟩,⟨h10,-⟩,h11⟩:=h
 refine ⟨h7,by omega,by omega,h10,fun x hx=>?_⟩
 obtain ⟨i,hi,rfl⟩:=List.mem_iff_getElem.1 hx
 have h12:=h11 i (by omega) (by omega)
 have e:s.2.1.getD i zf = s.2.1[i]:=by simp [List.getD,hi]
 rw [e] at h12
 have hq:=zJ6 _ _ h5.2.2.2 (r.2.2.2.2.1.getD i qp) (zX (by have:=ok.quotas; omega))
 simp only [zsV,zT,Bool.and_eq_true,decide_eq_true_eq] at hq
 simp only [zju,Bool.and_eq_true,decide_eq_true_eq] at h12
 omega
def qT (x:zp):Bool:=(x.1.all zkK) && (zC6 x.2.1 && (x.2.2.1.all j5 && (x.2.2.2.1.all zad && x.2.2.2.2.1.all zhw)))
theorem zDb {x:zp} (h:x.1.length ≤ 12 ∧ x.2.1.length ≤ 12 ∧ x.2.2.1.length ≤ 12 ∧ x.2.2.2.1.length ≤ 12 ∧ x.2.2.2.2.1.length ≤ 12):zgj (x,()) = some (qT x,()):=by
 rw [zB]
 have hm:12 ≤ Go.maxLen:=by unfold Go.maxLen; omega
 simp only [zgj]
 rw [zJT (by omega),zJV (by omega),zG7 (by omega),zpa (by omega),zHa (by omega)]
 simp only [Option.bind_some,qT]
 grind
theorem zHl {r:zd} {s:zb} (ok:zhy r) (sz:zeK r s):zbU ((r,s,()),()) = some (s.2.1.all qT,()):=by
 rw [zB]
 simp only [zbU]
 have h1:=ok.labels
 have h2:=sz.shelves
 rw [zLx (p:=qT) (by unfold Go.maxLen; omega) fun x hx=>zDb (by have:=sz.shelf x hx; omega)]
 simp only [Option.bind_some]
def jW (r:zd) (x:Int):Bool:=decide (0 ≤ x ∧ x < (r.2.2.1.length:Int))
def jb (r:zd) (x:Int):Bool:=decide (0 ≤ x ∧ x < (r.1.length:Int))
theorem zaq (r:zd) (s:zb) (x:Int):qR ((r,s,()),x,()) = some (jW r x,()):=by simp only [qR,jW]; grind
theorem zvg (r:zd) (s:zb) (x:Int):zbS ((r,s,()),x,()) = some (jb r x,()):=by simp only [zbS,jb]; grind
theorem zdy (r:zd) (x:Int):jR (r,x,()) = some (jW r x,()):=by simp only [jR,jW]; grind
def zpd (s:zb) (x:vN):Bool:=decide (0 ≤ x.1 ∧ x.1 < (s.2.1.length:Int)) && (decide (0 ≤ x.2.1 ∧ x.2.1 < ((s.2.1.getD x.1.toNat zf).1.length:Int)) && ((s.2.1.getD x.1.toNat zf).1.getD x.2.1.toNat zg4).1)
theorem zvh (s:zb) (x:vN):zfo (s,x,()) = some (zpd s x,()):=by
 rw [zB]
 simp only [zfo,zpd,ix]
 by_cases h1:0 ≤ x.1 ∧ x.1 < (s.2.1.length:Int)
 ·rw [ixR h1,ixR h1]
  by_cases h2:0 ≤ x.2.1 ∧ x.2.1 < ((s.2.1.getD x.1.toNat zf).1.length:Int)
  ·rw [ixR h2]
   grind
  ·grind
 ·grind
theorem zvi (s:zb) (x:vN):zft (s,x,()) = some (zpd s x,()):=by
 rw [zB]
 simp only [zft,zpd,ix]
 by_cases h1:0 ≤ x.1 ∧ x.1 < (s.2.1.length:Int)
 ·rw [ixR h1,ixR h1]
  by_cases h2:0 ≤ x.2.1 ∧ x.2.1 < ((s.2.1.getD x.1.toNat zf).1.length:Int)
  ·rw [ixR h2]
   grind
  ·grind
 ·grind
def zlz (r:zd) (s:zb) (x:zt):Bool:=!x.1 || (jb r x.2.1 && (jW r x.2.2.1 && decide (x.2.2.2.2.2.2.2.2.2.1 < (s.2.2.2.2.1.length:Int))))
def zlA (r:zd) (s:zb) (x:zG):Bool:=decide (x.2.1 < (r.2.1.length:Int)) && ((x.2.2.1:Int) == r.2.1.getD x.2.1.toNat 0 && (jW r x.2.2.2.1 && decide (x.1 ≤ s.1)))
def znN (r:zd) (x:Int):Bool:=x == -1 || jW r x
theorem zNO (r:zd) (s:zb) (x:zt):zfa (x,some (r,s,()),()) = some (zlz r s x,()):=by
 rw [zB]
 simp only [zfa,zaq,zvg,Option.bind_some,zlz]
 grind
theorem zNP (r:zd) (s:zb) {x:zG} (h:zhA x = true):zbf (x,some (r,s,()),()) = some (zlA r s x,()):=by
 rw [zB]
 simp only [zbf,zaq,Option.bind_some,zlA,ix]
 have:0 ≤ x.2.1:=by unfold zhA qn at h; grind
 by_cases h1:x.2.1 < (r.2.1.length:Int)
 ·rw [ixR ⟨this,h1⟩]
  grind
 ·grind
theorem zNQ (r:zd) (s:zb) (x:Int):vu (x,some (r,s,()),()) = some (znN r x,()):=by
 rw [zB]
 simp only [vu,zaq,Option.bind_some,znN]
 grind
def zfU (r:zd) (s:zb):Bool:=zik r s.2.2.1 && (zfT s.2.2.2.1 && (zi9 s.2.2.2.2.1 && (zpd s (ze zL) && (s.2.2.2.1.all (zlz r s) && (s.2.2.2.2.1.all (zlA r s) && s.2.2.2.2.2.1.all (znN r))))))
theorem zxF {l:List zG} (h:zi9 l = true):∀ x ∈ l,zhA x = true:=by
 intro x hx
 simp only [zi9,qy,Bool.and_eq_true] at h
 obtain ⟨i,hi,rfl⟩:=List.mem_iff_getElem.1 hx
 have e:l.getD i vS = l[i]:=by simp [List.getD,hi]
 rw [← e]
 exact (h i (by omega) (by omega)).1
theorem zLX {l:List zt} (h:zfT l = true):∀ x ∈ l,zly x = true:=by
 intro x hx
 simp only [zfT,Bool.and_eq_true,List.all_eq_true] at h
 exact h.1 x hx
theorem zEW {r:zd} {s:zb} (hr:qi r) (hb:qS r = true) (hs:jg s) (sz:zeK r s):za4 ((r,s,()),()) = some (zfU r s,()):=by
 rw [zB]
 have ok:=j9 hb
 have h1:=ok.lines
 have h2:=sz.orders
 have h3:=sz.entries
 have h4:=sz.people
 have hm:48 ≤ Go.maxLen:=by unfold Go.maxLen; omega
 simp only [za4,zJ4 hr,hb,Bool.true_and,Option.bind_some]
 unfold zfU
 cases zik r s.2.2.1 with
 | false=>rfl
 | true =>
  rw [zJ5 (by omega) hs.orders,zHh (by omega) hs.entries,zvh]
  simp only [Option.bind_some,cond_true]
  cases zfT s.2.2.2.1 with
  | false=>rfl
  | true =>
   cases he:zi9 s.2.2.2.2.1 with
   | false=>rfl
   | true =>
    rw [zLy (p:=zlz r s) (by omega) fun x _=>zNO r s x,zLz (p:=zlA r s) (by omega) fun x hx=>zNP r s (zxF he x hx),zOW (p:=znN r) (by omega) fun x _=>zNQ r s x]
    simp only [Option.bind_some,cond_true]
    grind
theorem zEX {r:zd} {s:zb} (hr:qi r) (hb:qS r = true) (hs:jg s) (sz:zeK r s):zhp (r,s,()) = some (zfU r s,()):=by
 rw [zB]
 have ok:=j9 hb
 have h1:=ok.lines
 have h2:=sz.orders
 have h3:=sz.entries
 have h4:=sz.people
 have hm:48 ≤ Go.maxLen:=by unfold Go.maxLen; omega
 simp only [zhp,zho,zHe hr,hb,Bool.true_and,Option.bind_some]
 unfold zfU
 cases zik r s.2.2.1 with
 | false=>rfl
 | true =>
  rw [zHf (by omega) hs.orders,zHi (by omega) hs.entries,zvi]
  simp only [Option.bind_some,cond_true]
  cases ho:zfT s.2.2.2.1 with
  | false=>rfl
  | true =>
   cases he:zi9 s.2.2.2.2.1 with
   | false=>rfl
   | true =>
    cases zpd s (ze zL) with
    | false=>rfl
    | true =>
     simp only [cond_true,Bool.true_and]
     have l2:zbx K0 (0,r,s) = bif s.2.2.2.2.2.1.all (znN r) then some (true,()) else some (false,()) :=
      jz (l:=s.2.2.2.2.2.1) (0:Int) (fun i=>(i,r,s)) (by omega) (fun k i x hi hx _=>by
       simp only [zfk]
       rw [ltT hi]
       simp only [zj hi,zE,hx,zdy,Option.bind_some,cond_true,znN]
       grind) (fun k=>by simp only [zfk]; rw [ltF]; rfl)
     have l1:zbz K0 (0,r,s) = bif s.2.2.2.2.1.all (zlA r s) then zbx K0 (0,r,s) else some (false,()) :=
      jz (l:=s.2.2.2.2.1) vS (fun i=>(i,r,s)) (by omega) (fun k i x hi hx hmem=>by
       have hok:=zxF he x hmem
       have h0:0 ≤ x.2.1:=by unfold zhA qn at hok; grind
       simp only [zby]
       rw [ltT hi]
       simp only [zj hi,zE,hx,zdy,Option.bind_some,cond_true,zlA]
       by_cases h1:x.2.1 < (r.2.1.length:Int)
       ·rw [ixR ⟨h0,h1⟩]
        grind
       ·grind) (fun k=>by simp only [zby]; rw [ltF]; rfl)
     have l0:zi7 K0 (0,r,s) = bif s.2.2.2.1.all (zlz r s) then zbz K0 (0,r,s) else some (false,()) :=
      jz (l:=s.2.2.2.1) zI (fun i=>(i,r,s)) (by omega) (fun k i x hi hx hmem=>by
       have hok:=zLX ho x hmem
       have h0:x.1 = true→0 ≤ x.2.1:=fun h=>by unfold zly zi8 qn at hok; grind
       simp only [zbA]
       rw [ltT hi]
       simp only [zj hi,zE,hx,zdy,Option.bind_some,cond_true,zlz,jb]
       grind) (fun k=>by simp only [zbA]; rw [ltF]; rfl)
     rw [l0,l1,l2]
     grind
end Go.Proofs.YtkcakhbkoeimdaaGreatDoor
end
section
namespace Go.Proofs.YtkcakhbkoeimdaaGreatDoor
open Go.Ev
def zkN (r:zd) (a b:Int):Bool:=jb r a && (jb r b && zET (r.1.getD a.toNat qO) (r.1.getD b.toNat qO))
theorem zs0 {r:zd} (hr:qi r) (a:Int) (h:jb r a = true):zpb (r.1.getD a.toNat qO):=by
 simp only [jb,decide_eq_true_eq] at h
 exact hr.labels _ (zX (by omega))
theorem zzm {r:zd} (hr:qi r) (s:zb) (a b:Int):zif ((r,s,()),a,b,()) = some (zkN r a b,()):=by
 rw [zB]
 simp only [zif,zvg,Option.bind_some,zkN,ix]
 cases ha:jb r a with
 | false=>rfl
 | true =>
  cases hb:jb r b with
  | false=>rfl
  | true =>
   rw [zzj (zs0 hr a ha) (zs0 hr b hb)]
   simp only [jb,decide_eq_true_eq] at ha hb
   rw [ixR ha,ixR hb]
   simp only [Option.bind_some]
   grind
theorem zrr {r:zd} (hr:qi r) (a b:Int):zfQ (r,a,b,()) = some (zkN r a b,()):=by
 rw [zB]
 simp only [zfQ,zkN,ix]
 cases ha:jb r a with
 | false=>unfold jb at ha; grind
 | true =>
  cases hb:jb r b with
  | false=>unfold jb at ha hb; grind
  | true =>
   rw [zLK (zs0 hr a ha) (zs0 hr b hb)]
   simp only [jb,decide_eq_true_eq] at ha hb
   rw [ixR ha,ixR hb]
   simp only [Option.bind_some]
   grind
def zdg (r:zd) (s:zb) (i:Int) (x:vN):Bool:=zpd s x && zkN r x.1 i
theorem zkO {r:zd} (hr:qi r) (s:zb) (i:Int) (x:vN):yc (x,some (r,s,()),some i,()) = some (zdg r s i x,()):=by
 rw [zB]
 simp only [yc,zvh,zzm hr,Option.bind_some,zdg]
 grind
theorem zm9 {r:zd} (hr:qi r) (s:zb) (i:Int) (x:vN):zax (r,s,x,i,()) = some (zdg r s i x,()):=by
 rw [zB]
 simp only [zax,zvi,zrr hr,Option.bind_some,zdg]
 grind
def zgU (r:zd) (s:zb) (i:Int) (x:qb):Bool:=!x.1 || (zdg r s i x.2.1 && zdg r s i x.2.2.1)
def zeO (r:zd) (s:zb) (i:Int) (x:z5):Bool:=(x.2.2.1:Int) != 2 || zdg r s i x.2.2.2.2.1
def zs1 (r:zd) (s:zb) (i:Int) (x:zp):Bool:=x.2.1.all (zgU r s i) && (x.2.2.1.all (zeO r s i) && x.2.2.2.2.2.2.1.all (zdg r s i))
theorem zO5 {r:zd} (hr:qi r) (s:zb) (i:Int) (x:qb):zf8 (x,some (some fun z=>yc (z.1,some (r,s,()),some i,())),()) = some (zgU r s i x,()):=by
 rw [zB]
 simp only [zf8,zkO hr,Option.bind_some,zgU]
 grind
theorem zO6 {r:zd} (hr:qi r) (s:zb) (i:Int) (x:z5):zb7 (x,some (some fun z=>yc (z.1,some (r,s,()),some i,())),()) = some (zeO r s i x,()):=by
 rw [zB]
 simp only [zb7,zkO hr,Option.bind_some,zeO]
 grind
theorem zHm {r:zd} {s:zb} (hr:qi r) (ok:zhy r) (sz:zeK r s):zfC ((r,s,()),()) = some (zV (fun i=>zs1 r s (i:Int) (s.2.1.getD i zf)) 0 (s.2.1.length - 0),()):=by
 rw [zB]
 have h1:=ok.labels
 have h2:=sz.shelves
 have h3:=ok.accounts
 exact z7 (B:=zcP) (i0:=0) (n:=s.2.1.length) (by unfold Go.maxLen; omega) (Nat.zero_le _) (fun i=>(s.2.1,(s.2.1.length:Int),i,(r,s,()))) (fun k i _ h=>by
  have hm:12 ≤ Go.maxLen:=by unfold Go.maxLen; omega
  have hz:=sz.shelf _ (zX (d:=zf) h)
  simp only [zcP]
  have hbelow:zmO ((r,s,()),(i:Int),()) = some (some fun z=>yc (z.1,some (r,s,()),some (i:Int),()),()):=rfl
  rw [ltT h,zj h,zE,hbelow,Option.bind_some,zNz (p:=zgU r s i) (by omega) fun x _=>zO5 hr s i x,zC0 (p:=zeO r s i) (by omega) fun x _=>zO6 hr s i x,zOX (p:=zdg r s i) (by omega) fun x _=>zkO hr s i x]
  simp only [Option.bind_some,cond_true]
  unfold zs1
  grind) (fun k=>by simp only [zcP]; rw [ltF]; rfl)
theorem zLY {σ ρ:Type} {B:(σ→Option ρ)→σ→Option ρ} {i0 n:Nat} (hn:n ≤ Go.maxLen) (h0:i0 ≤ n) {p:Nat→Bool} {fin bad:Option ρ} (st:Int→σ)
 (hin:∀ k (i:Nat),i0 ≤ i→i < n→B k (st i) = bif p i then k (st (wI (i + 1))) else bad) (hout:∀ k,B k (st n) = fin) (K:Nat) (hK:n - i0 < K):zg B K (st i0) = bif zV p i0 (n - i0) then fin else bad:=by
 have key:∀ (m i fuel:Nat),i0 ≤ i→i + m = n→m < fuel→zg B fuel (st i) = bif zV p i m then fin else bad:=by
  intro m
  induction m with
  | zero =>
   intro i fuel _ h1 h2
   obtain ⟨f,rfl⟩:∃ f,fuel = f + 1:=⟨fuel - 1,by omega⟩
   obtain rfl:i = n:=by omega
   exact hout _
  | succ m ih =>
   intro i fuel h1 h2 h3
   obtain ⟨f,rfl⟩:∃ f,fuel = f + 1:=⟨fuel - 1,by omega⟩
   show B (zg B f) (st i) = _
   rw [hin _ i h1 (by omega),wI,zBr (len:=n) (by omega) hn,show ((i:Int) + 1) = ((i + 1:Nat):Int) by omega,ih (i + 1) f (by omega) (by omega) (by omega)]
   simp only [zV]
   cases p i <;> rfl
 exact key (n - i0) i0 K (Nat.le_refl _) (by omega) hK
def zjv (r:zd) (x:z5):Bool:=(x.2.2.1:Int) != 1 || jW r x.2.2.2.1
def zlB (r:zd) (i:Int) (x:zk):Bool:=!x.1 || (zkN r x.2.1 i && (jW r x.2.2.1 && jW r x.2.2.2.1))
def zlC (r:zd) (x:zv):Bool:=!x.1 || (jW r x.2.1 && jW r x.2.2.1)
def zfV (r:zd) (i:Int) (x:zp):Bool:=x.2.2.1.all (zjv r) && (x.2.2.2.1.all (zlB r i) && x.2.2.2.2.1.all (zlC r))
theorem zNR (r:zd) (s:zb) (x:z5):zbg (x,some (r,s,()),()) = some (zjv r x,()):=by
 rw [zB]
 simp only [zbg,zaq,Option.bind_some,zjv]
 grind
theorem zNS {r:zd} (hr:qi r) (s:zb) (i:Int) (x:zk):vw (x,some (r,s,()),some i,()) = some (zlB r i x,()):=by
 rw [zB]
 simp only [vw,zaq,zzm hr,Option.bind_some,zlB]
 grind
theorem zNT (r:zd) (s:zb) (x:zv):qI (x,some (r,s,()),()) = some (zlC r x,()):=by
 rw [zB]
 simp only [qI,zaq,Option.bind_some,zlC]
 grind
theorem zEY {r:zd} {s:zb} (hr:qi r) (ok:zhy r) (sz:zeK r s):za2 ((r,s,()),()) = some (zV (fun i=>zfV r (i:Int) (s.2.1.getD i zf)) 0 s.2.1.length,()):=by
 rw [zB]
 have h1:=ok.labels
 have h2:=sz.shelves
 have hm:12 ≤ Go.maxLen:=by unfold Go.maxLen; omega
 have step:∀ k (i:Nat),i < s.2.1.length→qU k (s.2.1,(s.2.1.length:Int),(i:Int),(r,s,())) = bif zfV r (i:Int) (s.2.1.getD i zf) then k (s.2.1,(s.2.1.length:Int),wI ((i:Int) + 1),(r,s,())) else some (false,()):=fun k i h=>by
  have hz:=sz.shelf _ (zX (d:=zf) h)
  simp only [qU]
  rw [ltT h,zj h,zE,zC0 (p:=zjv r) (by omega) fun x _=>zNR r s x,zNA (p:=zlB r i) (by omega) fun x _=>zNS hr s i x,zLA (p:=zlC r) (by omega) fun x _=>zNT r s x]
  simp only [Option.bind_some,cond_true]
  unfold zfV
  grind
 have hend:∀ k,qU k (s.2.1,(s.2.1.length:Int),(s.2.1.length:Int),(r,s,())) = some (true,()):=fun k=>by simp only [qU]; rw [ltF]; rfl
 have first:za2 ((r,s,()),()) = zBs (qU) (qU) K0 (s.2.1,(s.2.1.length:Int),((0:Nat):Int),(r,s,())):=rfl
 have hw:wI (((0:Nat):Int) + 1) = ((1:Nat):Int):=rfl
 obtain ⟨m,hK⟩:=zx0
 have hf:∀ (B0 B1:(vx→Option (Bool × Unit))→vx→Option (Bool × Unit)) (x:vx),zBs B0 B1 K0 x = B0 (zg B1 (m + 7)) x:=fun B0 B1 x=>by rw [hK]; rfl
 have rest:=zLY (B:=qU) (i0:=1) (n:=s.2.1.length) (by unfold Go.maxLen; omega) (by omega) (p:=fun i=>zfV r (i:Int) (s.2.1.getD i zf)) (fun i=>(s.2.1,(s.2.1.length:Int),i,(r,s,()))) (fun k i _ h=>step k i h) hend (m + 7) (by unfold K0 Go.maxLen at hK; omega)
 rw [hf] at first
 rw [first,step _ 0 (by omega),hw]
 refine (congrArg (fun z=>bif zfV r ((0:Nat):Int) (s.2.1.getD 0 zf) then z else some (false,())) rest).trans ?_
 obtain ⟨n,hn⟩:∃ n,s.2.1.length = n + 1:=⟨s.2.1.length - 1,by omega⟩
 rw [hn]
 simp only [zV,Nat.add_sub_cancel]
 cases zfV r ((0:Nat):Int) (s.2.1.getD 0 zf) <;> rfl
theorem zJ7 {l:List zv} {g:zv × Unit→Option (Bool × Unit)} {p:zv→Bool} (hg:∀ x,g (x,()) = some (p x,())) (z:Int):ya (some (l,some g,()),z,()) = some (decide (0 ≤ z ∧ z < (l.length:Int)) && p (l.getD z.toNat zR),()):=by
 by_cases h:0 ≤ z ∧ z < (l.length:Int)
 ·obtain ⟨n,rfl⟩:=Int.eq_ofNat_of_zero_le h.1
  rw [zzk hg (by omega),decide_eq_true h,Bool.true_and,Int.toNat_natCast]
 ·rw [decide_eq_false h,Bool.false_and]
  simp only [ya,zxD,Option.bind_some,cond_true]
  grind
theorem zDc {α:Type} {p:α→Bool} (d:α) (L:List α) (q:Int→Bool):∀ (l:List α) (i:Nat),(∀ j,j < l.length→L.getD (i + j) d = l.getD j d)→(z8 p i l).all q = zV (fun j=>!p (L.getD j d) || q (j:Int)) i l.length
 | [],_,_=>rfl
 | x :: l,i,h=>by
  have ih:=zDc (p:=p) d L q l (i + 1) fun j hj=>by
   have:=h (j + 1) (by simp; omega)
   rw [show i + 1 + j = i + (j + 1) by omega,this]; rfl
  have h0:L.getD i d = x:=h 0 (by simp)
  simp only [z8,List.length_cons,zV,h0]
  rw [← ih]
  cases p x <;> simp
def zja (x:zp) (j:Nat) (t:z5):Bool:=(t.2.2.1:Int) != 3 || (decide (0 ≤ t.2.2.2.1 ∧ t.2.2.2.1 < (x.2.2.2.2.1.length:Int)) && ((x.2.2.2.2.1.getD (Int.toNat t.2.2.2.1) zR).1 && ((x.2.2.2.2.1.getD (Int.toNat t.2.2.2.1) zR).2.2.2.1.2.2.1:Int) == (j:Int)))
def zeP (x:zp) (j:Int) (t:zv):Bool:=(decide (t.2.2.2.1.2.2.1 < (x.2.2.1.length:Int)) && decide (t.2.2.2.2.1.2.2.1 < (x.2.2.1.length:Int))) && (decide (t.2.2.2.1.2.2.1 < 0) || (((x.2.2.1.getD (Int.toNat t.2.2.2.1.2.2.1) zC).2.2.1:Int) == 3 && ((x.2.2.1.getD (Int.toNat t.2.2.2.1.2.2.1) zC).2.2.2.1:Int) == j))
def zmu (x:zp):Bool:=zV (fun j=>zja x j (x.2.2.1.getD j zC)) 0 (x.2.2.1.length - 0) && zV (fun j=>!(x.2.2.2.2.1.getD j zR).1 || zeP x (j:Int) (x.2.2.2.2.1.getD j zR)) 0 x.2.2.2.2.1.length
theorem zqJ (x:zv):vW (x,()) = some (x.1,()):=by
 rw [zB]; rfl
theorem zHn {r:zd} {s:zb} (ok:zhy r) (sz:zeK r s):zfz ((r,s,()),()) = some (zV (fun i=>zmu (s.2.1.getD i zf)) 0 (s.2.1.length - 0),()):=by
 rw [zB]
 have h1:=ok.labels
 have h2:=sz.shelves
 have hm:12 ≤ Go.maxLen:=by unfold Go.maxLen; omega
 have hlm:12 ≤ lim:=by unfold lim; omega
 have l2:∀ k0 (i:Nat) (x:zp),x.2.2.2.2.1.length ≤ 12→zcD K0 k0 (s.2.1,(s.2.1.length:Int),(i:Int),z8 (fun t:zv=>t.1) 0 x.2.2.2.2.1,((z8 (fun t:zv=>t.1) 0 x.2.2.2.2.1).length:Int),0,x) = bif zV (fun j=>!(x.2.2.2.2.1.getD j zR).1 || zeP x (j:Int) (x.2.2.2.2.1.getD j zR)) 0 x.2.2.2.2.1.length then k0 (s.2.1,(s.2.1.length:Int),wI ((i:Int) + 1)) else some (false,()):=fun k0 i x hx=>by
  have hsl:=zhx (p:=fun t:zv=>t.1) x.2.2.2.2.1 0
  have hsm:=zkL (p:=fun t:zv=>t.1) x.2.2.2.2.1 0
  have:=jz (B:=fun k2=>zcC k0 k2) (l:=z8 (fun t:zv=>t.1) 0 x.2.2.2.2.1) (0:Int) (p:=fun z=>zeP x z (x.2.2.2.2.1.getD z.toNat zR)) (fin:=k0 (s.2.1,(s.2.1.length:Int),wI ((i:Int) + 1))) (bad:=some (false,())) (fun j=>(s.2.1,(s.2.1.length:Int),(i:Int),z8 (fun t:zv=>t.1) 0 x.2.2.2.2.1,((z8 (fun t:zv=>t.1) 0 x.2.2.2.2.1).length:Int),j,x)) (by omega) (fun k j z hj hz hmem=>by
   obtain ⟨n,rfl,-,hn⟩:=hsm z hmem
   simp only [zcC]
   rw [ltT hj,zj hj,zE,hz,zj (by omega),zj (by omega),Int.toNat_natCast]
   simp only [cond_true,zeP,neI]
   by_cases ha:(x.2.2.2.2.1.getD n zR).2.2.2.1.2.2.1 < (x.2.2.1.length:Int)
   ·by_cases hb:0 ≤ (x.2.2.2.2.1.getD n zR).2.2.2.1.2.2.1
    ·rw [ixR ⟨hb,ha⟩,ixR ⟨hb,ha⟩]
     grind
    ·grind
   ·grind) (fun k=>by simp only [zcC]; rw [ltF]; rfl)
  refine this.trans ?_
  rw [zDc (p:=fun t:zv=>t.1) zR x.2.2.2.2.1 (fun z=>zeP x z (x.2.2.2.2.1.getD z.toNat zR)) x.2.2.2.2.1 0 fun j _=>by rw [Nat.zero_add]]
  simp only [Int.toNat_natCast]
 have l1:∀ k0 (i:Nat) (x:zp),x.2.2.1.length ≤ 12→x.2.2.2.2.1.length ≤ 12→zcE K0 k0 (some (x.2.2.2.2.1,some vW,()),s.2.1,(s.2.1.length:Int),(i:Int),x.2.2.1,(x.2.2.1.length:Int),0,x) = bif zmu x then k0 (s.2.1,(s.2.1.length:Int),wI ((i:Int) + 1)) else some (false,()):=fun k0 i x hx hx2=>by
  have:=z7 (B:=fun k1=>zan (zcD K0 k0) k0 k1) (i0:=0) (n:=x.2.2.1.length) (p:=fun j=>zja x j (x.2.2.1.getD j zC)) (fin:=bif zV (fun j=>!(x.2.2.2.2.1.getD j zR).1 || zeP x (j:Int) (x.2.2.2.2.1.getD j zR)) 0 x.2.2.2.2.1.length then k0 (s.2.1,(s.2.1.length:Int),wI ((i:Int) + 1)) else some (false,())) (bad:=some (false,())) (by omega) (Nat.zero_le _) (fun j=>(some (x.2.2.2.2.1,some vW,()),s.2.1,(s.2.1.length:Int),(i:Int),x.2.2.1,(x.2.2.1.length:Int),j,x)) (fun k j _ hj=>by
   simp only [zan]
   rw [ltT hj,zj hj,zE,zJ7 zqJ]
   simp only [cond_true,Option.bind_some,zja,neI]
   by_cases ha:0 ≤ (x.2.2.1.getD j zC).2.2.2.1 ∧ (x.2.2.1.getD j zC).2.2.2.1 < (x.2.2.2.2.1.length:Int)
   ·rw [ixR ha]
    grind
   ·grind) (fun k=>by
   simp only [zan]
   rw [ltF,zvf (by omega) zqJ,Option.bind_some]
   exact l2 k0 i x hx2)
  refine this.trans ?_
  unfold zmu
  cases zV (fun j=>zja x j (x.2.2.1.getD j zC)) 0 (x.2.2.1.length - 0) <;> rfl
 exact z7 (B:=fun k0=>zao (zcE K0 k0) k0) (i0:=0) (n:=s.2.1.length) (by omega) (Nat.zero_le _) (fun i=>(s.2.1,(s.2.1.length:Int),i)) (fun k i _ h=>by
  have hz:=sz.shelf _ (zX (d:=zf) h)
  simp only [zao]
  have hq:yM ((s.2.1.getD i zf).2.2.2.2.1,some vW,()) = some (some ((s.2.1.getD i zf).2.2.2.2.1,some vW,()),()):=by
   simp only [yM,zvb (show (s.2.1.getD i zf).2.2.2.2.1.length ≤ lim by omega),Option.bind_some]
   rfl
  rw [ltT h,zj h,zE,hq,Option.bind_some]
  exact l1 k i _ (by omega) (by omega)) (fun k=>by simp only [zao]; rw [ltF]; rfl)
end Go.Proofs.YtkcakhbkoeimdaaGreatDoor
end
section
namespace Go.Proofs.YtkcakhbkoeimdaaGreatDoor
open Go.Ev
def znO (r:zd) (s:zb) (i:Int) (x:zp) (j:Nat) (t:z5):Bool:=!t.1 || bif (t.2.2.1:Int) == 1 then jW r t.2.2.2.1 else bif (t.2.2.1:Int) == 2 then zdg r s i t.2.2.2.2.1 else decide (t.2.2.2.1 < (x.2.2.2.2.1.length:Int)) && ((x.2.2.2.2.1.getD (Int.toNat t.2.2.2.1) zR).1 && ((x.2.2.2.2.1.getD (Int.toNat t.2.2.2.1) zR).2.2.2.1.2.2.1:Int) == (j:Int))
theorem zJ8 {r:zd} (hr:qi r) {s:zb} {i j:Nat} (hi:i < s.2.1.length) (hj:j < (s.2.1.getD i zf).2.2.1.length) (hok:j5 ((s.2.1.getD i zf).2.2.1.getD j zC) = true) :
 zkt (r,s,(i:Int),(j:Int),()) = some (znO r s i (s.2.1.getD i zf) j ((s.2.1.getD i zf).2.2.1.getD j zC),()):=by
 rw [zB]
 simp only [zkt]
 rw [zj hi,zE,zj hj,Int.toNat_natCast]
 simp only [zdy,zm9 hr,Option.bind_some,znO]
 generalize s.2.1.getD i zf = x at *
 have ht:(x.2.2.1.getD j zC).1 = true→((x.2.2.1.getD j zC).2.2.1 == (1:Int)) = false→((x.2.2.1.getD j zC).2.2.1 == (2:Int)) = false→0 ≤ (x.2.2.1.getD j zC).2.2.2.1:=fun h1 h2 h3=>by
  unfold j5 zlw qn at hok; grind
 generalize x.2.2.1.getD j zC = t at *
 cases h1:t.1 with
 | false=>rfl
 | true =>
  cases h2:(t.2.2.1:Int) == 1 with
  | true=>cases hw:jW r t.2.2.2.1 <;> rfl
  | false =>
   cases h3:(t.2.2.1:Int) == 2 with
   | true=>cases hw:zdg r s i t.2.2.2.2.1 <;> rfl
   | false =>
    have h0:=ht h1 h2 h3
    by_cases h4:t.2.2.2.1 < (x.2.2.2.2.1.length:Int)
    ·rw [ixR ⟨h0,h4⟩,ixR ⟨h0,h4⟩]
     grind
    ·grind
def znP (r:zd) (x:zp) (j:Nat) (t:zv):Bool:=!t.1 || ((jW r t.2.1 && jW r t.2.2.1) && ((decide (t.2.2.2.1.2.2.1 < (x.2.2.1.length:Int)) && decide (t.2.2.2.2.1.2.2.1 < (x.2.2.1.length:Int))) && (decide (t.2.2.2.1.2.2.1 < 0) || ((x.2.2.1.getD (Int.toNat t.2.2.2.1.2.2.1) zC).1 && (((x.2.2.1.getD (Int.toNat t.2.2.2.1.2.2.1) zC).2.2.1:Int) == 3 && ((x.2.2.1.getD (Int.toNat t.2.2.2.1.2.2.1) zC).2.2.2.1:Int) == (j:Int))))))
theorem zJ9 (r:zd) (x:zp) {j:Nat} (hj:j < x.2.2.2.2.1.length):zj8 (r,x,(j:Int),()) = some (znP r x j (x.2.2.2.2.1.getD j zR),()):=by
 rw [zB]
 simp only [zj8]
 rw [zj hj,zE]
 simp only [zdy,Option.bind_some,znP]
 generalize x.2.2.2.2.1.getD j zR = t
 cases h1:t.1 with
 | false=>rfl
 | true =>
  by_cases ha:t.2.2.2.1.2.2.1 < (x.2.2.1.length:Int)
  ·by_cases hb:0 ≤ t.2.2.2.1.2.2.1
   ·rw [ixR ⟨hb,ha⟩]
    grind
   ·grind
  ·grind
def ztV (r:zd) (s:zb) (i:Int) (x:zp):Bool:=x.2.1.all (zgU r s i) && (zV (fun j=>znO r s i x j (x.2.2.1.getD j zC)) 0 (x.2.2.1.length - 0) && (zV (fun j=>znP r x j (x.2.2.2.2.1.getD j zR)) 0 (x.2.2.2.2.1.length - 0) && (x.2.2.2.1.all (zlB r i) && x.2.2.2.2.2.2.1.all (zdg r s i))))
theorem zEZ {r:zd} {s:zb} (hr:qi r) (ok:zhy r) (hs:jg s) (sz:zeK r s) {i:Nat} (hi:i < s.2.1.length):zfF (r,s,(i:Int),()) = some (qT (s.2.1.getD i zf) && ztV r s i (s.2.1.getD i zf),()):=by
 rw [zB]
 have hm:12 ≤ Go.maxLen:=by unfold Go.maxLen; omega
 have hz:=sz.shelf _ (zX (d:=zf) hi)
 have hin:=hs.shelves _ (zX (d:=zf) hi)
 have h3:=ok.accounts
 simp only [zfF,ziJ]
 have hitem:=fun (j:Nat) (hj:j < (s.2.1.getD i zf).2.2.1.length) (hok:j5 ((s.2.1.getD i zf).2.2.1.getD j zC) = true)=>zJ8 hr hi hj hok
 rw [zj hi,zE]
 generalize s.2.1.getD i zf = x at *
 rw [zG4 (by omega),zG5 (by omega),zG8 (by omega),zm7 (by omega),zHb (by omega) hin.trades]
 simp only [Option.bind_some]
 unfold qT
 cases x.1.all zkK with
 | false=>rfl
 | true =>
  cases zC6 x.2.1 with
  | false=>rfl
  | true =>
   cases hit:x.2.2.1.all j5 with
   | false=>rfl
   | true =>
    cases x.2.2.2.1.all zad with
    | false=>rfl
    | true =>
     cases x.2.2.2.2.1.all zhw with
     | false=>rfl
     | true =>
      have l4:zcV K0 ((i:Int),0,r,s,x) = bif x.2.2.2.2.2.2.1.all (zdg r s i) then some (true,()) else some (false,()) :=
       jz (l:=x.2.2.2.2.2.2.1) zIx (fun j=>((i:Int),j,r,s,x)) (by omega) (fun k j y hj hy _=>by
        simp only [zgh]
        rw [ltT hj,zj hj,zE,hy,zm9 hr]
        simp only [Option.bind_some,cond_true]) (fun k=>by simp only [zgh]; rw [ltF]; rfl)
      have l3:zcX K0 ((i:Int),0,r,s,x) = bif x.2.2.2.1.all (zlB r i) then zcV K0 ((i:Int),0,r,s,x) else some (false,()) :=
       jz (l:=x.2.2.2.1) qj (fun j=>((i:Int),j,r,s,x)) (by omega) (fun k j y hj hy _=>by
        simp only [zcW]
        rw [ltT hj,zj hj,zE,hy,zrr hr]
        simp only [zdy,Option.bind_some,cond_true,zlB]
        grind) (fun k=>by simp only [zcW]; rw [ltF]; rfl)
      have l2:zcZ K0 ((i:Int),0,r,s,x) = bif zV (fun j=>znP r x j (x.2.2.2.2.1.getD j zR)) 0 (x.2.2.2.2.1.length - 0) then zcX K0 ((i:Int),0,r,s,x) else some (false,()) :=
       z7 (i0:=0) (n:=x.2.2.2.2.1.length) (by omega) (Nat.zero_le _) (fun j=>((i:Int),j,r,s,x)) (fun k j _ hj=>by
        simp only [zcY]
        rw [ltT hj,zJ9 r x hj]
        simp only [Option.bind_some,cond_true]) (fun k=>by simp only [zcY]; rw [ltF]; rfl)
      have l1:zc1 K0 ((i:Int),0,r,s,x) = bif zV (fun j=>znO r s i x j (x.2.2.1.getD j zC)) 0 (x.2.2.1.length - 0) then zcZ K0 ((i:Int),0,r,s,x) else some (false,()) :=
       z7 (i0:=0) (n:=x.2.2.1.length) (by omega) (Nat.zero_le _) (fun j=>((i:Int),j,r,s,x)) (fun k j _ hj=>by
        simp only [zc0]
        rw [ltT hj,hitem j hj (List.all_eq_true.1 hit _ (zX hj))]
        simp only [Option.bind_some,cond_true]) (fun k=>by simp only [zc0]; rw [ltF]; rfl)
      have l0:zkx K0 ((i:Int),0,r,s,x) = bif x.2.1.all (zgU r s i) then zc1 K0 ((i:Int),0,r,s,x) else some (false,()) :=
       jz (l:=x.2.1) qf (fun j=>((i:Int),j,r,s,x)) (by omega) (fun k j y hj hy _=>by
        simp only [zc2]
        rw [ltT hj,zj hj,zE,hy]
        simp only [zm9 hr,Option.bind_some,cond_true,zgU]
        grind) (fun k=>by simp only [zc2]; rw [ltF]; rfl)
      simp only [cond_true]
      rw [l0,l1,l2,l3,l4]
      unfold ztV
      grind
def zpe (r:zd) (s:zb) (i:Int) (x:zp):Bool:=zs1 r s i x && (zfV r i x && zmu x)
theorem zAH {α:Type} {d:α} {l:List α} {p:α→Bool}:l.all p = true ↔ ∀ j,j < l.length→p (l.getD j d) = true:=by
 rw [List.all_eq_true]
 constructor
 ·exact fun h j hj=>h _ (zX hj)
 ·intro h x hx
  obtain ⟨i,hi,rfl⟩:=List.mem_iff_getElem.1 hx
  have:=h i hi
  simpa [List.getD,hi] using this
theorem zFF {t:z5} (h:j5 t = true) (h1:t.1 = false):t.2.2.1 = 0:=by
 unfold j5 at h
 rw [h1,cond_false] at h
 have e:eqI zH t (ze zH) = cond (t.1 == false) (cond (ByteArray.toList t.2.1 == ByteArray.toList (ze zH).2.1) (cond ((t.2.2.1:Int) == 0) (cond ((t.2.2.2.1:Int) == 0) (cond (eqI zL t.2.2.2.2.1 (ze zL)) true false) false) false) false) false:=rfl
 rw [e] at h
 cases hk:(t.2.2.1:Int) == 0 with
 | true=>exact eq_of_beq hk
 | false =>
  rw [hk] at h
  revert h
  cases (t.1 == false) <;> cases (ByteArray.toList t.2.1 == ByteArray.toList (ze zH).2.1) <;> intro h <;> cases h
theorem zDd {r:zd} {s:zb} {i:Int} {x:zp} {j:Nat} {t:z5} (h:j5 t = true):znO r s i x j t = (zeO r s i t && (zjv r t && zja x j t)):=by
 unfold znO zeO zjv zja
 cases h1:t.1 with
 | false =>
  have:=zFF h h1
  rw [this]; rfl
 | true =>
  unfold j5 zlw qn at h
  rw [h1] at h
  generalize jW r t.2.2.2.1 = a at *
  generalize zdg r s i t.2.2.2.2.1 = b at *
  grind
theorem zNU {r:zd} {x:zp} (hit:x.2.2.1.all j5 = true) {j:Nat} {t:zv}:znP r x j t = (zlC r t && (!t.1 || zeP x (j:Int) t)):=by
 unfold znP zlC zeP
 have hi:0 ≤ t.2.2.2.1.2.2.1→t.2.2.2.1.2.2.1 < (x.2.2.1.length:Int)→((x.2.2.1.getD (Int.toNat t.2.2.2.1.2.2.1) zC).2.2.1 == (3:Int)) = true→(x.2.2.1.getD (Int.toNat t.2.2.2.1.2.2.1) zC).1 = true:=fun h1 h2 h3=>by
  have h4:=List.all_eq_true.1 hit _ (zX (d:=zC) (show (Int.toNat t.2.2.2.1.2.2.1) < x.2.2.1.length by omega))
  cases h5:(x.2.2.1.getD (Int.toNat t.2.2.2.1.2.2.1) zC).1 with
  | true=>rfl
  | false =>
   have:=zFF h4 h5
   rw [this] at h3
   exact absurd h3 (by decide)
 generalize x.2.2.1.getD (Int.toNat t.2.2.2.1.2.2.1) zC = y at *
 cases t.1 with
 | false=>rfl
 | true=>grind
theorem zLZ {r:zd} {s:zb} {i:Int} {x:zp} (hit:x.2.2.1.all j5 = true):ztV r s i x = zpe r s i x:=by
 have hi:=List.all_eq_true.1 hit
 rw [Bool.eq_iff_iff]
 unfold ztV zpe zs1 zfV zmu
 simp only [Bool.and_eq_true,qy,@zAH z5 zC,@zAH zv zR,zNU hit]
 constructor
 ·rintro ⟨h1,h2,h3,h4,h5⟩
  have h2':∀ j,j < x.2.2.1.length→zeO r s i (x.2.2.1.getD j zC) = true ∧ zjv r (x.2.2.1.getD j zC) = true ∧ zja x j (x.2.2.1.getD j zC) = true:=fun j hj=>by
   have:=h2 j (Nat.zero_le _) (by omega)
   rw [zDd (hi _ (zX hj))] at this
   simpa [Bool.and_eq_true] using this
  exact ⟨⟨h1,fun j hj=>(h2' j hj).1,h5⟩,⟨fun j hj=>(h2' j hj).2.1,h4,fun j hj=>(h3 j (Nat.zero_le _) (by omega)).1⟩,fun j _ hj=>(h2' j (by omega)).2.2,fun j _ hj=>(h3 j (Nat.zero_le _) (by omega)).2⟩
 ·rintro ⟨⟨h1,h2,h3⟩,⟨h4,h5,h6⟩,h7,h8⟩
  refine ⟨h1,fun j _ hj=>?_,fun j _ hj=>⟨h6 j (by omega),h8 j (by omega) (by omega)⟩,h5,h3⟩
  rw [zDd (hi _ (zX (by omega))),h2 j (by omega),h4 j (by omega),h7 j (by omega) (by omega)]
  rfl
theorem zHo {r:zd} {s:zb} (hr:qi r) (ok:zhy r) (hs:jg s) (sz:zeK r s) {i:Nat} (hi:i < s.2.1.length):zfF (r,s,(i:Int),()) = some (qT (s.2.1.getD i zf) && zpe r s i (s.2.1.getD i zf),()):=by
 rw [zEZ hr ok hs sz hi]
 cases h:qT (s.2.1.getD i zf) with
 | false=>rfl
 | true =>
  have hit:(s.2.1.getD i zf).2.2.1.all j5 = true:=by
   simp only [qT,Bool.and_eq_true] at h
   exact h.2.2.1
  rw [zLZ hit]
end Go.Proofs.YtkcakhbkoeimdaaGreatDoor
end
section
namespace Go.Proofs.YtkcakhbkoeimdaaGreatDoor
open Go.Ev
def zY:List Int→Int
 | []=>0
 | x :: l=>x + zY l
theorem zAI:∀ (l m:List Int),zY (l ++ m) = zY l + zY m
 | [],m=>by simp [zY]
 | x :: l,m=>by simp only [List.cons_append,zY,zAI l m]; omega
theorem ztW:∀ {l:List Int},(∀ x ∈ l,0 ≤ x)→0 ≤ zY l
 | [],_=>Int.le_refl 0
 | x :: l,h=>by
  have h1:=h x (by simp)
  have h2:=ztW (l:=l) fun y hy=>h y (by simp [hy])
  simp only [zY]; omega
theorem jc {α:Type} {g:α→Int} {l:List α} (h:∀ x ∈ l,0 ≤ g x):0 ≤ zY (l.map g):=ztW fun x hx=>by
 obtain ⟨y,hy,rfl⟩:=List.mem_map.1 hx
 exact h y hy
def zlD (n:Int):Int × Int × Unit:=bif decide (n > M62) then (0,7,()) else (n,0,())
theorem jX {n:Int} (h:n > M62):zlD n = (0,7,()):=by unfold zlD; rw [decide_eq_true h]; rfl
theorem zar {n:Int} (h:n ≤ M62):zlD n = (n,0,()):=by unfold zlD; rw [decide_eq_false (by omega)]; rfl
theorem zpf:∀ (l:List Int) (a:Int),a ≤ M62→(∀ x ∈ l,0 ≤ x)→zlx a l = zlD (a + zY l)
 | [],a,h,_=>by simp only [zlx,zY,Int.add_zero]; exact (zar h).symm
 | x :: l,a,h,hp=>by
  have h2:=ztW (l:=l) fun y hy=>hp y (by simp [hy])
  simp only [zlx,zY]
  by_cases hb:a + x > M62
  ·rw [decide_eq_true hb,jX (by omega)]; rfl
  ·rw [decide_eq_false hb,cond_false,zpf l (a + x) (by omega) fun y hy=>hp y (by simp [hy])]
   congr 1; omega
theorem zrs {α:Type} (p:α→Bool) (g:α→Int):∀ l:List α,zY ((l.filter p).map g) = zY (l.map fun x=>bif p x then g x else 0)
 | []=>rfl
 | x :: l=>by
  have ih:=zrs p g l
  rw [zjs]
  simp only [List.map_cons,zY]
  cases hp:p x with
  | true=>simp only [cond_true,List.map_cons,zY,ih]
  | false=>simp only [cond_false,ih]; omega
def zmv (x:zt):Int:=bif (x.2.2.2.1:Int) == 2 then x.2.2.2.2.1 else x.2.2.2.2.2.1
theorem zPY (x:zt):zis (x,()) = some (zmv x,()):=by
 simp only [zis,zmv]; grind
def qW (c:Int) (x:zt):Int:=bif x.1 && zmv x == c then x.2.2.2.2.2.2.2.2.1 else 0
def zlE (l:List zt) (c:Int):Int × Int × Unit:=bif qC c then zlD (zY (l.map (qW c))) else (0,1,())
theorem zNV (l:List zt) (hl:l.length ≤ lim):znA (l,()) = some (some (l,some zjV,()),()):=by
 simp only [znA,ziX,zGX hl,Option.bind_some]
 rfl
theorem zKa (x:zt):zjV (x,()) = some (x.1,()):=by
 rw [zB]; rfl
theorem zL0 {l:List zt} (hl:l.length ≤ lim) (h:∀ x ∈ l,zhz x) (c:Int):zlX (l,c,()) = some (zlE l c):=by
 have hl':l.length ≤ Go.maxLen:=by unfold lim at hl; unfold Go.maxLen; omega
 simp only [zlX,zlW,zbC,Option.bind_some]
 unfold zlE
 cases hc:qC c with
 | false=>rfl
 | true =>
  have hslots:zkl (l,()) = some (z8 (fun x:zt=>x.1) 0 l,()):=by
   simp only [zkl]
   rw [zNV l hl,Option.bind_some,zHc hl zKa,Option.bind_some]
  simp only [cond_true]
  rw [hslots,Option.bind_some]
  have hsl:=zhx (p:=fun x:zt=>x.1) l 0
  have hsm:=zkL (p:=fun x:zt=>x.1) l 0
  have hloop:=jV (B:=zfE) (l:=z8 (fun x:zt=>x.1) 0 l) (α:=List Int) (0:Int) (fun i o=>o.length ≤ i ∧ ∀ x ∈ o,0 ≤ x ∧ x < U64) (fun i o=>(l,c,z8 (fun x:zt=>x.1) 0 l,((z8 (fun x:zt=>x.1) 0 l).length:Int),i,o))
   (fun rest o=>some (zlx 0 (o ++ (rest.filter fun z=>zmv (l.getD z.toNat zI) == c).map fun z=>(l.getD z.toNat zI).2.2.2.2.2.2.2.2.1))) (by omega) (fun k i x rest o hi hI hx hm hr hk=>by
    simp only [zfE]
    obtain ⟨j,rfl,-,hj⟩:=hsm x hm
    rw [ltT hi,zj hi,zE,hx,zj (by omega),zj (by omega),Int.toNat_natCast,zhH,zPY]
    have hxx:=(h (l.getD j zI) (zX (by omega))).held
    simp only [cond_true,zjs,Int.toNat_natCast,Option.bind_some]
    rw [decide_eq_true (by simp; omega)]
    simp only [cond_true]
    cases hq:zmv (l.getD j zI) == c with
    | false =>
     exact hk o ⟨by omega,hI.2⟩
    | true =>
     simp only [cond_true,List.map_cons,Int.toNat_natCast]
     refine (hk _ ⟨by simp; omega,fun x hx=>?_⟩).trans ?_
     ·rcases List.mem_append.1 hx with hx | hx
      ·exact hI.2 x hx
      ·rcases List.mem_singleton.1 hx with rfl
       exact hxx
     ·rw [List.append_assoc]; rfl) (fun k o hI=>by
    simp only [zfE]
    rw [ltF]
    simp only [cond_false]
    rw [znF (by omega) hI.2,List.filter_nil,List.map_nil,List.append_nil]
    rfl) [] ⟨Nat.le_refl _,fun x hx=>by cases hx⟩
  refine hloop.trans ?_
  rw [List.nil_append,zm8 (q:=fun x:zt=>zmv x == c) (g:=fun x:zt=>x.2.2.2.2.2.2.2.2.1) zI l l 0 fun j _=>by rw [Nat.zero_add]]
  rw [zpf _ 0 (by unfold M62; omega) fun x hx=>?_,zrs,Int.zero_add]
  ·rfl
  ·obtain ⟨y,hy,rfl⟩:=List.mem_map.1 hx
   exact (h y (List.mem_filter.1 hy).1).held.1
theorem ziO {x:zt} (h:zhz x) (c:Int):zgo (qW c x):=by
 unfold qW
 cases x.1 && zmv x == c with
 | true=>exact h.held
 | false=>exact (⟨Int.le_refl 0,by unfold U64; decide⟩:zgo 0)
theorem zHp (x:zt) (c:Int):ziA (x,c,()) = some (qW c x,()):=by
 simp only [ziA,qW,zmv]; grind
theorem zpg {a b:Int}:ztT a b = zlD (a + b):=rfl
theorem zKb {l:List zt} (hl:l.length ≤ Go.maxLen) (h:∀ x ∈ l,zhz x) (c:Int):zka (l,c,()) = some (zlE l c):=by
 simp only [zka,zj9]
 unfold zlE
 cases hc:qC c with
 | false=>unfold qC at hc; grind
 | true =>
  have hloop:=jV (B:=zel) (l:=l) (α:=Int) zI (fun _ s=>0 ≤ s ∧ s ≤ M62) (fun i s=>(l,c,s,i)) (fun rest s=>some (zlD (s + zY (rest.map (qW c))))) hl (fun k i x rest s hi hI hx hm hr hk=>by
   simp only [zel]
   have hxx:=ziO (h x hm) c
   have hrest:0 ≤ zY (rest.map (qW c)):=jc fun y hy=>(ziO (h y (by rw [← hr] at hy; exact List.mem_of_mem_drop hy)) c).1
   rw [ltT hi,zj hi,zE,hx,zHp]
   simp only [cond_true,Option.bind_some,List.map_cons,zY]
   rw [zeJ (by unfold M62 at hI; unfold U64; omega) hxx,zpg,Option.bind_some]
   by_cases hb:s + qW c x > M62
   ·rw [jX hb,jX (by omega)]; rfl
   ·rw [zar (by omega)]
    have:=hk (s + qW c x) ⟨by have:=hxx.1; omega,by omega⟩
    refine this.trans ?_
    rw [Int.add_assoc]) (fun k s hI=>by
   simp only [zel]; rw [ltF]
   simp only [cond_false,List.map_nil,zY,Int.add_zero]
   rw [zar hI.2]) 0 (by unfold M62; omega)
  refine Eq.trans ?_ (hloop.trans ?_)
  ·unfold qC at hc
   grind
  ·rw [Int.zero_add]; rfl
def zaM (c:Int) (x:zv):Int:=bif x.1 && (x.2.2.2.1.1:Int) == c then x.2.2.2.1.2.1 else 0
theorem zxG {l:List zv} (h:∀ x ∈ l,zhv x) {c:Int} (hc:qC c = true):zjt l c = zlD (zY (l.map (zaM c))):=by
 unfold zjt
 rw [hc,cond_true,zpf _ 0 (by unfold M62; omega) fun x hx=>?_,zrs,Int.zero_add]
 ·rfl
 ·obtain ⟨y,hy,rfl⟩:=List.mem_map.1 hx
  exact (h y (List.mem_filter.1 hy).1).1.1
theorem zHq {x:zv} (h:zhv x) (c:Int):zgo (zaM c x):=by
 unfold zaM
 cases x.1 && (x.2.2.2.1.1:Int) == c with
 | true=>exact h.1
 | false=>exact (⟨Int.le_refl 0,by unfold U64; decide⟩:zgo 0)
def vM (c:Int) (a:List Int):Int:=a.getD c.toNat 0
def zae (c:Int) (x:zp):Int:=zY (x.2.2.2.2.1.map (zaM c)) + zY (x.2.2.2.2.2.1.map (vM c))
theorem ztX {x:zp} (h:zsZ x) (c:Int):0 ≤ zY (x.2.2.2.2.1.map (zaM c)):=jc fun y hy=>(zHq (h.trades y hy) c).1
theorem ztY {x:zp} (h:zsZ x) (c:Int):0 ≤ zY (x.2.2.2.2.2.1.map (vM c)):=jc fun y hy=>(zbD (h.purses y hy) _).1
theorem ziP {x:zp} (h:zsZ x) (c:Int):0 ≤ zae c x:=by
 have:=ztX h c
 have:=ztY h c
 unfold zae; omega
def zqK (s:zb) (c:Int):Int × Int × Unit:=bif qC c then zlD (zY (s.2.2.2.1.map (qW c)) + zY (s.2.1.map (zae c))) else (0,1,())
def wts:List zp→Nat
 | []=>0
 | x :: l=>1 + x.2.2.2.2.2.1.length + wts l
structure zx4 (s:zb):Prop where
 shelves:s.2.1.length ≤ 2000000
 orders:s.2.2.2.1.length ≤ 2000000
 shelf:∀ x ∈ s.2.1,x.2.2.2.2.1.length ≤ 2000000 ∧ x.2.2.2.2.2.1.length ≤ 2000000
 all:wts s.2.1 ≤ 2000000
theorem zPZ {l:List zp} {i:Nat} {x:zp} {rest:List zp} (hi:i < l.length) (hx:l.getD i zf = x) (hr:l.drop (i + 1) = rest):wts (l.drop i) = 1 + x.2.2.2.2.2.1.length + wts rest:=by
 rw [yi zf hi,hx,hr]; rfl
theorem zO7 {n:Nat}:∀ {l:List zp},(∀ x ∈ l,x.2.2.2.2.2.1.length ≤ n)→wts l ≤ l.length * (n + 1)
 | [],_=>Nat.zero_le _
 | x :: l,h=>by
  have h1:=h x (by simp)
  have h2:=zO7 (l:=l) fun y hy=>h y (by simp [hy])
  simp only [wts,List.length_cons,Nat.add_mul]
  omega
theorem zqL {c:Int} (hc:qC c = true):0 ≤ c ∧ c < ((4:Nat):Int):=by
 simp only [qC,decide_eq_true_eq] at hc; omega
theorem zKc {s:zb} (hs:jg s) (sh:zx4 s) (c:Int):zkw (s,c,()) = some (zqK s c):=by
 have hlm:10000000 ≤ lim:=by unfold lim; omega
 have hmm:10000000 ≤ Go.maxLen:=by unfold Go.maxLen; omega
 have hsh:=sh.shelves
 have hso:=sh.orders
 simp only [zkw,zkv,zbC,Option.bind_some]
 rw [zL0 (by omega) hs.orders]
 unfold zqK zlE
 cases hc:qC c with
 | false=>rfl
 | true =>
  have hcin:=zqL hc
  simp only [cond_true,Option.bind_some]
  have hbook:0 ≤ zY (s.2.2.2.1.map (qW c)):=jc fun y hy=>(ziO (hs.orders y hy) c).1
  have hall:0 ≤ zY (s.2.1.map (zae c)):=jc fun y hy=>ziP (hs.shelves y hy) c
  have inner:∀ k0 (i:Nat) (x:zp) (o:List Int),x.2.2.2.2.2.1.length ≤ 2000000→o.length ≤ 2000001→zeG K0 k0 (c,s.2.1,(s.2.1.length:Int),(i:Int),x.2.2.2.2.2.1,(x.2.2.2.2.2.1.length:Int),0,o) = k0 (c,s.2.1,(s.2.1.length:Int),wI ((i:Int) + 1),o ++ x.2.2.2.2.2.1.map (vM c)):=fun k0 i x o hx ho =>
   jV (B:=fun k1=>zeF k0 k1) (l:=x.2.2.2.2.2.1) (α:=List Int) (ze (Ty.arr 4 tU)) (fun j o'=>o'.length ≤ 2000001 + j) (fun j o'=>(c,s.2.1,(s.2.1.length:Int),(i:Int),x.2.2.2.2.2.1,(x.2.2.2.2.2.1.length:Int),j,o')) (fun rest o'=>k0 (c,s.2.1,(s.2.1.length:Int),wI ((i:Int) + 1),o' ++ rest.map (vM c))) (by omega) (fun k j a rest o' hj hI ha hm hr hk=>by
    simp only [zeF]
    have h4:((4:Int)) = ((4:Nat):Int):=rfl
    rw [ltT hj,zj hj,Int.toNat_natCast,ha,zhH,decide_eq_true (by simp; omega)]
    simp only [cond_true]
    refine Eq.trans (ixR hcin) ?_
    refine (hk _ (by simp; omega)).trans ?_
    rw [List.append_assoc]; rfl) (fun k o' _=>by
    simp only [zeF]; rw [ltF]
    simp only [cond_false,List.map_nil,List.append_nil]) o ho
  by_cases hb:zY (s.2.2.2.1.map (qW c)) > M62
  ·rw [jX hb,jX (by omega)]; rfl
  ·rw [zar (by omega)]
   have hloop:=jV (B:=fun k0=>za3 (zeG K0 k0) k0) (l:=s.2.1) (α:=List Int) zf (fun i o=>o.length + wts (s.2.1.drop i) ≤ 2000001 ∧ ∀ x ∈ o,0 ≤ x ∧ x < U64) (fun i o=>(c,s.2.1,(s.2.1.length:Int),i,o)) (fun rest o=>some (zlD (zY o + zY (rest.map (zae c))))) (by omega) (fun k i x rest o hi hI hx hm hr hk=>by
    simp only [za3]
    have hin:=hs.shelves x hm
    have hlen:=sh.shelf x hm
    have hw:=zPZ hi hx hr
    have hw2:=hI.1
    rw [hw] at hw2
    have h1:=ztX hin c
    have h2:=ztY hin c
    have ho:0 ≤ zY o:=ztW fun y hy=>(hI.2 y hy).1
    have hrest:0 ≤ zY (rest.map (zae c)):=jc fun y hy=>ziP (hs.shelves y (by rw [← hr] at hy; exact List.mem_of_mem_drop hy)) c
    rw [ltT hi,zj hi,zE,hx,zJ2 (by omega) hin.trades,zxG hin.trades hc]
    simp only [cond_true,Option.bind_some,List.map_cons,zY,zae]
    by_cases hb:zY (x.2.2.2.2.1.map (zaM c)) > M62
    ·rw [jX hb,jX (by omega)]; rfl
    ·rw [zar (by omega),zhH,inner k i x _ (by omega) (by simp; omega)]
     rw [decide_eq_true (by simp; omega)]
     simp only [bne_self_eq_false,cond_true,cond_false]
     refine (hk _ ⟨by rw [hr]; simp; omega,fun y hy=>?_⟩).trans ?_
     ·rcases List.mem_append.1 hy with hy | hy
      ·rcases List.mem_append.1 hy with hy | hy
       ·exact hI.2 y hy
       ·rcases List.mem_singleton.1 hy with rfl
        unfold M62 at hb; unfold U64; omega
      ·obtain ⟨a,ha,rfl⟩:=List.mem_map.1 hy
       exact zbD (hin.purses a ha) _
     ·rw [zAI,zAI]
      simp only [zY]
      congr 2; omega) (fun k o hI=>by
    simp only [za3]
    rw [ltF]
    simp only [cond_false]
    rw [znF (by omega) hI.2,zpf o 0 (by unfold M62; omega) fun y hy=>(hI.2 y hy).1]
    simp only [List.map_nil,zY,Int.add_zero,Int.zero_add]
    rfl) [zY (s.2.2.2.1.map (qW c))] ⟨by have:=sh.all; simp; omega,fun y hy=>by
     rcases List.mem_singleton.1 hy with rfl
     unfold M62 at hb; unfold U64; omega⟩
   refine hloop.trans ?_
   simp only [zY,Int.add_zero]
theorem zKd {s:zb} (hs:jg s) (sh:zx4 s) (c:Int):zkj (s,c,()) = some (zqK s c):=by
 have hmm:10000000 ≤ Go.maxLen:=by unfold Go.maxLen; omega
 have hsh:=sh.shelves
 have hso:=sh.orders
 simp only [zkj,zki]
 rw [zKb (by omega) hs.orders]
 unfold zqK zlE
 cases hc:qC c with
 | false=>rfl
 | true =>
  have hcin:=zqL hc
  simp only [cond_true,Option.bind_some]
  have hbook:0 ≤ zY (s.2.2.2.1.map (qW c)):=jc fun y hy=>(ziO (hs.orders y hy) c).1
  have hall:0 ≤ zY (s.2.1.map (zae c)):=jc fun y hy=>ziP (hs.shelves y hy) c
  have inner:∀ k0 (i:Nat) (a:Int),i < s.2.1.length→0 ≤ a ∧ a ≤ M62→zev K0 k0 (c,a,(i:Int),0,s) = bif decide (a + zY ((s.2.1.getD i zf).2.2.2.2.2.1.map (vM c)) > M62) then some (0,7,()) else k0 (c,a + zY ((s.2.1.getD i zf).2.2.2.2.2.1.map (vM c)),wI ((i:Int) + 1),s):=fun k0 i a hi ha=>by
   have hlen:=sh.shelf _ (zX (d:=zf) hi)
   have hin:=hs.shelves _ (zX (d:=zf) hi)
   exact jV (B:=fun k1=>zeu k0 k1) (l:=(s.2.1.getD i zf).2.2.2.2.2.1) (α:=Int) (ze (Ty.arr 4 tU)) (fun j a=>0 ≤ a ∧ a ≤ M62) (fun j a=>(c,a,(i:Int),j,s)) (fun rest a=>bif decide (a + zY (rest.map (vM c)) > M62) then some (0,7,()) else k0 (c,a + zY (rest.map (vM c)),wI ((i:Int) + 1),s)) (by omega) (fun k j y rest a hj hI hy hm hr hk=>by
    have hyy:=zbD (hin.purses y hm) c.toNat
    have hrest:0 ≤ zY (rest.map (vM c)):=jc fun z hz=>(zbD (hin.purses z (by rw [← hr] at hz; exact List.mem_of_mem_drop hz)) _).1
    simp only [zeu]
    simp only [zj hi,zE]
    rw [ltT hj,zj hj,hy]
    simp only [cond_true,List.map_cons,zY]
    refine Eq.trans (ixR hcin) ?_
    rw [zeJ (by unfold M62 at hI; unfold U64; omega) hyy,zpg,Option.bind_some]
    have hp:vM c y = List.getD y c.toNat 0:=rfl
    rw [hp]
    by_cases hb:a + List.getD y c.toNat 0 > M62
    ·rw [jX hb,decide_eq_true (by omega)]; rfl
    ·rw [zar (by omega)]
     have:=hk (a + List.getD y c.toNat 0) ⟨by have:=hyy.1; omega,by omega⟩
     refine this.trans ?_
     rw [Int.add_assoc]) (fun k a hI=>by
    simp only [zeu]
    simp only [zj hi,zE]
    rw [ltF]
    simp only [cond_false,List.map_nil,zY,Int.add_zero]
    rw [decide_eq_false (by omega)]; rfl) a ha
  by_cases hb:zY (s.2.2.2.1.map (qW c)) > M62
  ·rw [jX hb,jX (by omega)]; rfl
  ·rw [zar (by omega)]
   have hloop:=jV (B:=fun k0=>za0 (zev K0 k0) k0) (l:=s.2.1) (α:=Int) zf (fun i a=>0 ≤ a ∧ a ≤ M62) (fun i a=>(c,a,i,s)) (fun rest a=>some (zlD (a + zY (rest.map (zae c))))) (by omega) (fun k i x rest a hi hI hx hm hr hk=>by
    simp only [za0]
    have hin:=hs.shelves x hm
    have hlen:=sh.shelf x hm
    have h1:=ztX hin c
    have h2:=ztY hin c
    have hrest:0 ≤ zY (rest.map (zae c)):=jc fun y hy=>ziP (hs.shelves y (by rw [← hr] at hy; exact List.mem_of_mem_drop hy)) c
    have hinn:=fun a ha=>inner k i a hi ha
    rw [hx] at hinn
    rw [ltT hi,zj hi,zE,hx,zJ3 (by omega) hin.trades,zxG hin.trades hc]
    simp only [cond_true,Option.bind_some,List.map_cons,zY,zae]
    by_cases hb:zY (x.2.2.2.2.1.map (zaM c)) > M62
    ·rw [jX hb,jX (by omega)]; rfl
    ·rw [zar (by omega),zeJ (by unfold M62 at hI; unfold U64; omega) (by unfold M62 at hb; unfold U64; omega),zpg,Option.bind_some]
     by_cases hb2:a + zY (x.2.2.2.2.1.map (zaM c)) > M62
     ·rw [jX hb2,jX (by omega)]; rfl
     ·rw [zar (by omega),hinn _ (by omega)]
      simp only [bne_self_eq_false,cond_false]
      by_cases hb3:a + zY (x.2.2.2.2.1.map (zaM c)) + zY (x.2.2.2.2.2.1.map (vM c)) > M62
      ·rw [decide_eq_true hb3,jX (by omega)]; rfl
      ·rw [decide_eq_false hb3,cond_false]
       refine (hk _ (by omega)).trans ?_
       congr 2; omega) (fun k a hI=>by
    simp only [za0]
    rw [ltF]
    simp only [cond_false,List.map_nil,zY,Int.add_zero]
    rw [zar hI.2]) (zY (s.2.2.2.1.map (qW c))) (by omega)
   exact hloop
end Go.Proofs.YtkcakhbkoeimdaaGreatDoor
end
section
namespace Go.Proofs.YtkcakhbkoeimdaaGreatDoor
open Go.Ev
def zph (a b:Int):Int × Int × Unit:=bif decide (a < b) then (0,6,()) else (a - b,0,())
theorem zKe {a b:Int} (ha:0 ≤ a ∧ a ≤ M62) (hb:0 ≤ b ∧ b ≤ M62):zjW (a,b,()) = some (zph a b):=by
 simp only [zjW,extA,extB,zph,cond_false]
 unfold M62 at *
 have h2:b ≤ a→(a - b) % 18446744073709551616 = a - b:=fun h=>by omega
 grind
theorem zHr {a b:Int} (ha:0 ≤ a ∧ a ≤ M62) (hb:0 ≤ b ∧ b ≤ M62):zfu (a,b,()) = some (zph a b):=by
 simp only [zfu,zph]
 unfold M62 at *
 by_cases h:b > a
 ·grind
 ·have hw:wU (a - b) = a - b:=zkJ (by omega)
  rw [hw]; grind
def zlF (f:zp→List Int) (s:zb) (c:Int):Int:=zY (s.2.1.map fun x=>vM c (f x))
theorem ztZ {f:zp→List Int} {s:zb} (h:∀ x ∈ s.2.1,ztU (f x)) (c:Int):0 ≤ zlF f s c:=jc fun y hy=>(zbD (h y hy) _).1
theorem zKf {s:zb} (sh:zx4 s) {f:zp→List Int} {g:zp × Unit→Option (List Int × Unit)} (hg:∀ x,g (x,()) = some (f x,())) (h:∀ x ∈ s.2.1,ztU (f x)) {c:Int} (hc:qC c = true):zhj (s,c,some g,()) = some (zlD (zlF f s c)):=by
 have hlm:10000000 ≤ lim:=by unfold lim; omega
 have hmm:10000000 ≤ Go.maxLen:=by unfold Go.maxLen; omega
 have hsh:=sh.shelves
 have hcin:=zqL hc
 have hloop:=jV (B:=zbr) (l:=s.2.1) (α:=List Int) zf (fun i o=>o.length ≤ i ∧ ∀ x ∈ o,0 ≤ x ∧ x < U64) (fun i o=>(c,some g,s.2.1,(s.2.1.length:Int),i,o)) (fun rest o=>some (zlx 0 (o ++ rest.map fun x=>vM c (f x)))) (by omega) (fun k i x rest o hi hI hx hm hr hk=>by
  simp only [zbr]
  rw [ltT hi,zj hi,zE,hx]
  simp only [cond_true,Option.bind_some]
  rw [hg]
  simp only [Option.bind_some]
  refine Eq.trans (ixR hcin) ?_
  rw [zhH,decide_eq_true (by simp; omega)]
  simp only [cond_true]
  refine (hk _ ⟨by simp; omega,fun y hy=>?_⟩).trans ?_
  ·rcases List.mem_append.1 hy with hy | hy
   ·exact hI.2 y hy
   ·rcases List.mem_singleton.1 hy with rfl
    exact zbD (h x hm) _
  ·rw [List.append_assoc]; rfl) (fun k o hI=>by
  simp only [zbr]
  rw [ltF]
  simp only [cond_false]
  rw [znF (by omega) hI.2,List.map_nil,List.append_nil]
  rfl) [] ⟨Nat.le_refl _,fun x hx=>by cases hx⟩
 refine Eq.trans ?_ (hloop.trans ?_)
 ·rfl
 ·rw [List.nil_append,zpf _ 0 (by unfold M62; omega) fun y hy=>?_,Int.zero_add]
  ·rfl
  ·obtain ⟨z,hz,rfl⟩:=List.mem_map.1 hy
   exact (zbD (h z hz) _).1
def zqM (s:zb) (c:Int):Int × Int × Unit:=bif qC c then bif decide (zlF (fun x=>x.2.2.2.2.2.2.2.1) s c > M62) then (0,7,()) else bif decide (zlF (fun x=>x.2.2.2.2.2.2.2.2.1) s c > M62) then (0,7,()) else zph (zlF (fun x=>x.2.2.2.2.2.2.2.1) s c) (zlF (fun x=>x.2.2.2.2.2.2.2.2.1) s c) else (0,1,())
theorem zKg {s:zb} (hs:jg s) (sh:zx4 s) (c:Int):zko (s,c,()) = some (zqM s c):=by
 simp only [zko,zbC,Option.bind_some]
 unfold zqM
 cases hc:qC c with
 | false=>rfl
 | true =>
  have p1:=ztZ (f:=fun x=>x.2.2.2.2.2.2.2.1) (fun x hx=>(hs.shelves x hx).made) c
  have p2:=ztZ (f:=fun x=>x.2.2.2.2.2.2.2.2.1) (fun x hx=>(hs.shelves x hx).spent) c
  rw [zKf sh (f:=fun x=>x.2.2.2.2.2.2.2.1) (g:=zli) (fun x=>rfl) (fun x hx=>(hs.shelves x hx).made) hc,zKf sh (f:=fun x=>x.2.2.2.2.2.2.2.2.1) (g:=zlj) (fun x=>rfl) (fun x hx=>(hs.shelves x hx).spent) hc]
  simp only [cond_true,Option.bind_some]
  generalize zlF (fun x=>x.2.2.2.2.2.2.2.1) s c = a at *
  generalize zlF (fun x=>x.2.2.2.2.2.2.2.2.1) s c = b at *
  by_cases h1:a > M62
  ·rw [jX h1,decide_eq_true h1]; rfl
  ·rw [zar (by omega),decide_eq_false h1]
   by_cases h2:b > M62
   ·rw [jX h2,decide_eq_true h2]; rfl
   ·rw [zar (by omega),decide_eq_false h2]
    simp only [bne_self_eq_false,cond_false]
    rw [zKe (by omega) (by omega)]; rfl
theorem zKh {s:zb} (hs:jg s) (sh:zx4 s) (c:Int):zke (s,c,()) = some (zqM s c):=by
 have hmm:10000000 ≤ Go.maxLen:=by unfold Go.maxLen; omega
 have hsh:=sh.shelves
 simp only [zke,zkd]
 unfold zqM
 cases hc:qC c with
 | false=>unfold qC at hc; grind
 | true =>
  have hcin:=zqL hc
  have p1:=ztZ (f:=fun x=>x.2.2.2.2.2.2.2.1) (fun x hx=>(hs.shelves x hx).made) c
  have p2:=ztZ (f:=fun x=>x.2.2.2.2.2.2.2.2.1) (fun x hx=>(hs.shelves x hx).spent) c
  have l1:∀ (a b e:Int),0 ≤ a ∧ a ≤ M62→((e = 0 ∧ 0 ≤ b ∧ b ≤ M62) ∨ e = 7)→zaY K0 (c,a,b,e,0,s) = bif e == 0 then (bif decide (b + zlF (fun x=>x.2.2.2.2.2.2.2.2.1) s c > M62) then some (0,7,()) else some (zph a (b + zlF (fun x=>x.2.2.2.2.2.2.2.2.1) s c))) else some (0,7,()):=fun a b e ha he =>
   jV (B:=zeq) (l:=s.2.1) (α:=Int × Int) zf (fun _ st=>(st.2 = 0 ∧ 0 ≤ st.1 ∧ st.1 ≤ M62) ∨ st.2 = 7) (fun i st=>(c,a,st.1,st.2,i,s)) (fun rest st=>bif st.2 == 0 then (bif decide (st.1 + zY (rest.map fun x=>vM c x.2.2.2.2.2.2.2.2.1) > M62) then some (0,7,()) else some (zph a (st.1 + zY (rest.map fun x=>vM c x.2.2.2.2.2.2.2.2.1)))) else some (0,7,())) (by omega) (fun k i x rest st hi hI hx hm hr hk=>by
    obtain ⟨b,e⟩:=st
    have hrest:0 ≤ zY (rest.map fun x:zp=>vM c x.2.2.2.2.2.2.2.2.1):=jc fun y hy=>(zbD (hs.shelves y (by rw [← hr] at hy; exact List.mem_of_mem_drop hy)).spent _).1
    simp only [zeq]
    rw [ltT hi,zj hi,zE,hx]
    rcases hI with ⟨h0,hb⟩ | h7
    ·simp only at h0 hb
     subst h0
     have hxx:=zbD (hs.shelves x hm).spent c.toNat
     simp only [beq_self_eq_true,cond_true,List.map_cons,zY,vM]
     refine Eq.trans (ixR hcin) ?_
     rw [zeJ (by unfold M62 at hb; unfold U64; omega) hxx,zpg,Option.bind_some]
     by_cases hh:b + List.getD x.2.2.2.2.2.2.2.2.1 c.toNat 0 > M62
     ·rw [jX hh]
      unfold vM at hrest
      rw [decide_eq_true (by omega)]
      exact hk (0,7) (.inr rfl)
     ·rw [zar (by omega)]
      have:=hk (b + List.getD x.2.2.2.2.2.2.2.2.1 c.toNat 0,0) (.inl ⟨rfl,by have:=hxx.1; show 0 ≤ b + _ ∧ b + _ ≤ M62; omega⟩)
      refine this.trans ?_
      simp only [beq_self_eq_true,cond_true]
      rw [Int.add_assoc]; rfl
    ·simp only at h7
     subst h7
     rfl) (fun k st hI=>by
    obtain ⟨b,e⟩:=st
    simp only [zeq]
    rw [ltF]
    rcases hI with ⟨h0,hb⟩ | h7
    ·simp only at h0 hb
     subst h0
     simp only [bne_self_eq_false,cond_false,beq_self_eq_true,cond_true,List.map_nil,zY,Int.add_zero]
     rw [zHr ha hb,decide_eq_false (by omega)]
     rfl
    ·simp only at h7
     subst h7
     rfl) (b,e) he
  have l0:=jV (B:=fun k0=>zaZ (zaY K0) k0) (l:=s.2.1) (α:=Int × Int) zf (fun _ st=>(st.2 = 0 ∧ 0 ≤ st.1 ∧ st.1 ≤ M62) ∨ (st.2 = 7 ∧ st.1 = 0)) (fun i st=>(c,st.1,0,st.2,i,s)) (fun rest st=>bif st.2 == 0 then (bif decide (st.1 + zY (rest.map fun x=>vM c x.2.2.2.2.2.2.2.1) > M62) then some (0,7,()) else zaY K0 (c,st.1 + zY (rest.map fun x=>vM c x.2.2.2.2.2.2.2.1),0,0,0,s)) else some (0,7,())) (by omega) (fun k i x rest st hi hI hx hm hr hk=>by
   obtain ⟨a,e⟩:=st
   have hrest:0 ≤ zY (rest.map fun x:zp=>vM c x.2.2.2.2.2.2.2.1):=jc fun y hy=>(zbD (hs.shelves y (by rw [← hr] at hy; exact List.mem_of_mem_drop hy)).made _).1
   simp only [zaZ]
   rw [ltT hi,zj hi,zE,hx]
   rcases hI with ⟨h0,hb⟩ | ⟨h7,ha⟩
   ·simp only at h0 hb
    subst h0
    have hxx:=zbD (hs.shelves x hm).made c.toNat
    simp only [beq_self_eq_true,cond_true,List.map_cons,zY,vM]
    refine Eq.trans (ixR hcin) ?_
    rw [zeJ (by unfold M62 at hb; unfold U64; omega) hxx,zpg,Option.bind_some]
    by_cases hh:a + List.getD x.2.2.2.2.2.2.2.1 c.toNat 0 > M62
    ·rw [jX hh]
     unfold vM at hrest
     rw [decide_eq_true (by omega)]
     exact hk (0,7) (.inr ⟨rfl,rfl⟩)
    ·rw [zar (by omega)]
     have:=hk (a + List.getD x.2.2.2.2.2.2.2.1 c.toNat 0,0) (.inl ⟨rfl,by have:=hxx.1; show 0 ≤ a + _ ∧ a + _ ≤ M62; omega⟩)
     refine this.trans ?_
     simp only [beq_self_eq_true,cond_true]
     rw [Int.add_assoc]; rfl
   ·simp only at h7 ha
    subst h7
    subst ha
    simp only [cond_true]
    refine (l1 0 0 7 (by unfold M62; omega) (.inr rfl)).trans ?_
    rfl) (fun k st hI=>by
   obtain ⟨a,e⟩:=st
   simp only [zaZ]
   rw [ltF]
   rcases hI with ⟨h0,hb⟩ | ⟨h7,ha⟩
   ·simp only at h0 hb
    subst h0
    simp only [cond_false,beq_self_eq_true,cond_true,List.map_nil,zY,Int.add_zero]
    rw [decide_eq_false (by omega)]; rfl
   ·simp only at h7 ha
    subst h7
    subst ha
    refine (l1 0 0 7 (by unfold M62; omega) (.inr rfl)).trans ?_
    rfl) (0,0) (.inl ⟨rfl,by show (0:Int) ≤ 0 ∧ (0:Int) ≤ M62; unfold M62; omega⟩)
  refine Eq.trans ?_ (l0.trans ?_)
  ·unfold qC at hc; grind
  ·simp only [beq_self_eq_true,cond_true]
   have e1:(0:Int) + zY (s.2.1.map fun x:zp=>vM c x.2.2.2.2.2.2.2.1) = zlF (fun x=>x.2.2.2.2.2.2.2.1) s c:=by rw [Int.zero_add]; rfl
   rw [e1]
   by_cases h1:zlF (fun x=>x.2.2.2.2.2.2.2.1) s c > M62
   ·rw [decide_eq_true h1]; rfl
   ·rw [decide_eq_false h1,cond_false,cond_false,l1 _ 0 0 (by omega) (.inl ⟨rfl,by unfold M62; omega⟩),Int.zero_add]
    simp only [beq_self_eq_true,cond_true]
    cases decide (zlF (fun x=>x.2.2.2.2.2.2.2.2.1) s c > M62) <;> rfl
end Go.Proofs.YtkcakhbkoeimdaaGreatDoor
end
section
namespace Go.Proofs.YtkcakhbkoeimdaaGreatDoor
open Go.Ev
def zl0 (r:zd) (s:zb) (c i:Nat):Bool:=!decide (((s.2.1.getD i zf).2.2.2.2.2.2.2.1.getD c 0:Int) > (r.2.2.2.2.1.getD i qp).2.2.2.2.2.1)
def zmw (s:zb) (c:Int):Bool:=(zqK s c).2.1 == 0 && ((zqM s c).2.1 == 0 && (zqK s c).1 == (zqM s c).1)
def qJ (r:zd) (s:zb):Bool:=qS r && (zgT r s && (zfU r s && (zV (fun i=>(qT (s.2.1.getD i zf) && zpe r s i (s.2.1.getD i zf)) && zV (fun c=>zl0 r s c i) 0 (4 - 0)) 0 (s.2.1.length - 0) && zV (fun c=>zmw s (c:Int)) 0 (4 - 0))))
theorem zO8 {r:zd} {s:zb} (ok:zhy r) (sz:zeK r s):zx4 s:=by
 have h1:=sz.shelves
 have h2:=ok.labels
 have h3:=ok.accounts
 have h4:=sz.orders
 have h5:=zO7 (n:=8) (l:=s.2.1) fun x hx=>by
  have:=sz.shelf x hx
  omega
 refine ⟨by omega,by omega,fun x hx=>?_,by omega⟩
 have:=sz.shelf x hx
 omega
theorem zHs {r:zd} {s:zb} (ok:zhy r) (hs:jg s) (sz:zeK r s):zfG ((r,s,()),()) = some (zV (fun c=>zV (fun i=>zl0 r s c i) 0 (s.2.1.length - 0) && zmw s (c:Int)) 0 (4 - 0),()):=by
 rw [zB]
 have hmm:1000000 ≤ Go.maxLen:=by unfold Go.maxLen; omega
 have sh:=zO8 ok sz
 have hsh:s.2.1.length ≤ 8:=by rw [sz.shelves]; exact ok.labels.2
 have h2:=sz.shelves
 have h3:=ok.quotas
 have inner:∀ k0 (c:Nat),c < 4→zc6 K0 k0 ((c:Int),(c:Int),s.2.1,(s.2.1.length:Int),0,(r,s,())) = bif zV (fun i=>zl0 r s c i) 0 (s.2.1.length - 0) then bif zmw s (c:Int) then k0 (wI ((c:Int) + 1),(r,s,())) else some (false,()) else some (false,()):=fun k0 c hc =>
  z7 (B:=fun k1=>zc5 k0 k1) (i0:=0) (n:=s.2.1.length) (by omega) (Nat.zero_le _) (fun i=>((c:Int),(c:Int),s.2.1,(s.2.1.length:Int),i,(r,s,()))) (fun k i _ hi=>by
   simp only [zc5]
   rw [ltT hi,zj hi,zE,Int.toNat_natCast]
   simp only [cond_true]
   refine Eq.trans (zj (n:=4) hc) ?_
   rw [zj (by omega),zE]
   unfold zl0
   grind) (fun k=>by
   simp only [zc5]
   rw [ltF,zKc hs sh,zKg hs sh]
   simp only [Option.bind_some,cond_false,zmw]
   generalize zqK s (c:Int) = h
   generalize zqM s (c:Int) = m
   grind)
 exact z7 (B:=fun k0=>zc7 (zc6 K0 k0) k0) (i0:=0) (n:=4) (by omega) (Nat.zero_le _) (fun c=>(c,(r,s,()))) (fun k c _ hc=>by
  simp only [zc7]
  rw [decide_eq_true (by omega),cond_true]
  refine (inner k c hc).trans ?_
  cases zV (fun i=>zl0 r s c i) 0 (s.2.1.length - 0) <;> rfl) (fun k=>rfl)
theorem zHt {r:zd} {s:zb} (hr:qi r) (hs:jg s):ziL (r,s,()) = some (qJ r s,()):=by
 rw [zB]
 have hmm:1000000 ≤ Go.maxLen:=by unfold Go.maxLen; omega
 simp only [ziL,ziK,zvd r hr,Option.bind_some]
 unfold qJ
 cases hb:qS r with
 | false=>rfl
 | true =>
  rw [zHk hb s,Option.bind_some]
  cases hz:zgT r s with
  | false=>rfl
  | true =>
   have ok:=j9 hb
   have sz:=zaR hb hz
   have sh:=zO8 ok sz
   have hsh:s.2.1.length ≤ 8:=by rw [sz.shelves]; exact ok.labels.2
   have h2:=sz.shelves
   have h3:=ok.quotas
   rw [zEX hr hb hs sz,Option.bind_some]
   cases hp:zfU r s with
   | false=>rfl
   | true =>
    have l2:zda K0 (0,s) = bif zV (fun c=>zmw s (c:Int)) 0 (4 - 0) then some (true,()) else some (false,()) :=
     z7 (i0:=0) (n:=4) (by omega) (Nat.zero_le _) (fun c=>(c,s)) (fun k c _ hc=>by
      simp only [zky]
      rw [decide_eq_true (by omega),zKd hs sh,zKh hs sh]
      simp only [Option.bind_some,cond_true,zmw]
      generalize zqK s (c:Int) = h
      generalize zqM s (c:Int) = m
      grind) (fun k=>rfl)
    have l1:∀ k0 (i:Nat),i < s.2.1.length→zgl K0 k0 ((i:Int),0,r,s) = bif zV (fun c=>zl0 r s c i) 0 (4 - 0) then k0 (wI ((i:Int) + 1),r,s) else some (false,()):=fun k0 i hi =>
     z7 (B:=fun k1=>zgk k0 k1) (i0:=0) (n:=4) (by omega) (Nat.zero_le _) (fun c=>((i:Int),c,r,s)) (fun k c _ hc=>by
      simp only [zgk]
      rw [decide_eq_true (by omega),zj hi,zj (by omega),zE,zE,Int.toNat_natCast]
      simp only [cond_true]
      refine Eq.trans (zj (n:=4) hc) ?_
      unfold zl0
      grind) (fun k=>rfl)
    have l0:zkz K0 (0,r,s) = bif zV (fun i=>(qT (s.2.1.getD i zf) && zpe r s i (s.2.1.getD i zf)) && zV (fun c=>zl0 r s c i) 0 (4 - 0)) 0 (s.2.1.length - 0) then zda K0 (0,s) else some (false,()) :=
     z7 (i0:=0) (n:=s.2.1.length) (by omega) (Nat.zero_le _) (fun i=>(i,r,s)) (fun k i _ hi=>by
      simp only [zdb]
      rw [ltT hi,zHo hr ok hs sz hi]
      have:=l1 k i hi
      rw [this]
      simp only [Option.bind_some,cond_true]
      generalize (qT (s.2.1.getD i zf) && zpe r s i (s.2.1.getD i zf)) = u
      cases u <;> rfl) (fun k=>by simp only [zdb]; rw [ltF]; rfl)
    simp only [cond_true,Bool.true_and]
    rw [l0,l2]
    grind
def zKi (r:zd) (s:zb):Bool:=qS r && (zgT r s && (s.2.1.all qT && (zfU r s && (zV (fun i=>zs1 r s (i:Int) (s.2.1.getD i zf)) 0 (s.2.1.length - 0) && (zV (fun i=>zfV r (i:Int) (s.2.1.getD i zf)) 0 s.2.1.length && (zV (fun i=>zmu (s.2.1.getD i zf)) 0 (s.2.1.length - 0) && zV (fun c=>zV (fun i=>zl0 r s c i) 0 (s.2.1.length - 0) && zmw s (c:Int)) 0 (4 - 0)))))))
theorem zO9 (r:zd) (s:zb):zKi r s = qJ r s:=by
 rw [Bool.eq_iff_iff]
 unfold zKi qJ zpe
 simp only [Bool.and_eq_true,qy,@zAH zp zf]
 constructor
 ·rintro ⟨h1,h2,h3,h4,h5,h6,h7,h8⟩
  exact ⟨h1,h2,h4,fun i hi1 hi=>⟨⟨h3 i (by omega),h5 i hi1 hi,h6 i hi1 (by omega),h7 i hi1 hi⟩,fun c hc1 hc=>(h8 c hc1 hc).1 i hi1 hi⟩,fun c hc1 hc=>(h8 c hc1 hc).2⟩
 ·rintro ⟨h1,h2,h4,h5,h6⟩
  exact ⟨h1,h2,fun i hi=>(h5 i (by omega) (by omega)).1.1,h4,fun i h7 h8=>(h5 i h7 h8).1.2.1,fun i h7 h8=>(h5 i h7 (by omega)).1.2.2.1,fun i h7 h8=>(h5 i h7 h8).1.2.2.2,fun c h7 h8=>⟨fun i h9 h10=>(h5 i h9 h10).2 c h7 h8,h6 c h7 h8⟩⟩
theorem zHu {r:zd} {s:zb} (hr:qi r) (hs:jg s):ziN (r,s,()) = some (qJ r s,()):=by
 rw [← zO9,zB]
 obtain ⟨m,hm⟩:=zx0
 have first:ziN (r,s,()) = zg zgn K0 (true,7,0,[some fun z=>zbT ((r,s,()),()),some fun z=>zbU ((r,s,()),()),some fun z=>za4 ((r,s,()),()),some fun z=>zfC ((r,s,()),()),some fun z=>za2 ((r,s,()),()),some fun z=>zfz ((r,s,()),()),some fun z=>zfG ((r,s,()),())]):=rfl
 have hu:∀ (f1 f2 f3 f4 f5 f6 f7:Option (Bool × Unit)),zg zgn (m + 8) (true,7,0,[some fun z=>f1,some fun z=>f2,some fun z=>f3,some fun z=>f4,some fun z=>f5,some fun z=>f6,some fun z=>f7]) =
  Option.bind f1 fun q=>bif q.1 then Option.bind f2 fun q=>bif q.1 then Option.bind f3 fun q=>bif q.1 then Option.bind f4 fun q=>bif q.1 then Option.bind f5 fun q=>bif q.1 then Option.bind f6 fun q=>bif q.1 then Option.bind f7 fun q=>bif q.1 then some (true,()) else some (false,()) else some (false,()) else some (false,()) else some (false,()) else some (false,()) else some (false,()) else some (false,()):=fun f1 f2 f3 f4 f5 f6 f7=>by kernel_rfl
 rw [first,hm,hu,zHj hr s,Option.bind_some]
 unfold zKi
 cases hb:qS r with
 | false=>rfl
 | true =>
  cases hz:zgT r s with
  | false=>rfl
  | true =>
   have ok:=j9 hb
   have sz:=zaR hb hz
   rw [zHl ok sz,zEW hr hb hs sz,zHm hr ok sz,zEY hr ok sz,zHn ok sz,zHs ok hs sz]
   simp only [Option.bind_some,Bool.true_and,cond_true]
   generalize s.2.1.all qT = c1
   generalize zfU r s = c2
   generalize zV (fun i=>zs1 r s (i:Int) (s.2.1.getD i zf)) 0 (s.2.1.length - 0) = c3
   generalize zV (fun i=>zfV r (i:Int) (s.2.1.getD i zf)) 0 s.2.1.length = c4
   generalize zV (fun i=>zmu (s.2.1.getD i zf)) 0 (s.2.1.length - 0) = c5
   generalize zV (fun c=>zV (fun i=>zl0 r s c i) 0 (s.2.1.length - 0) && zmw s (c:Int)) 0 (4 - 0) = c6
   cases c1 <;> cases c2 <;> cases c3 <;> cases c4 <;> cases c5 <;> cases c6 <;> rfl
def vp (r:zd) (x:pMe):Bool:=decide (0 ≤ x.1 ∧ x.1 < (r.2.1.length:Int)) && ((x.2.1:Int) == r.2.1.getD x.1.toNat 0 && jW r x.2.2.1)
theorem zkP {r:zd} {s:zb} (hr:qi r) (hs:jg s) (x:pMe):jP (r,s,x,()) = some (qJ r s && vp r x,()):=by
 rw [zB]
 simp only [jP,zHu hr hs,Option.bind_some,vp,ix,jW]
 cases qJ r s with
 | false=>rfl
 | true =>
  by_cases h:0 ≤ x.1 ∧ x.1 < (r.2.1.length:Int)
  ·rw [ixR h]; grind
  ·grind
theorem zKj (r:zd) (x:pMe):zkf (r,x,()) = some (vp r x,()):=by
 rw [zB]
 simp only [zkf,vp,ix,zdy,Option.bind_some]
 by_cases h:0 ≤ x.1 ∧ x.1 < (r.2.1.length:Int)
 ·rw [ixR h]; grind
 ·grind
end Go.Proofs.YtkcakhbkoeimdaaGreatDoor
end
section
namespace Go.Proofs.YtkcakhbkoeimdaaGreatDoor
open Go.Ev
theorem zDe {r:zd} (hr:qi r) (i:Int):yg (r,i,()) = some (qS r && jb r i,()):=by
 rw [zB]
 simp only [yg,zm6 r hr,Option.bind_some]
 cases hb:qS r with
 | false=>rfl
 | true =>
  have hl:=(j9 hb).labels
  have hw:wI ((r.1.length:Int) - 1) = (r.1.length:Int) - 1:=by
   have:=zji (i:=r.1.length) (by omega) (by unfold Go.maxLen; omega)
   rw [this]; omega
  rw [hw,zfl]
  simp only [Option.bind_some,cond_true,Bool.true_and,zT,jb]
  grind
theorem zL1 {r:zd} (hr:qi r) (hb:qS r = true) (a b:Int):zfR (r,a,b,()) = some (zkN r a b,()):=by
 rw [zB]
 simp only [zfR,zDe hr,hb,Bool.true_and,Option.bind_some,zkN,ix]
 cases ha:jb r a with
 | false=>rfl
 | true =>
  cases hbb:jb r b with
  | false=>rfl
  | true =>
   have h1:=zs0 hr a ha
   have h2:=zs0 hr b hbb
   simp only [jb,decide_eq_true_eq] at ha hbb
   rw [ixR ha,ixR hbb,zzj h1 h2]
   simp only [Option.bind_some]
   generalize zET (r.1.getD a.toNat qO) (r.1.getD b.toNat qO) = u
   cases u <;> rfl
def eqW {α:Type} (p:α→α→Bool) (a b:List α):Bool:=decide (a.length = b.length) && (List.zip a b).all fun q=>p q.1 q.2
theorem yU {α σ:Type} {B:(σ→Option (Bool × Unit))→σ→Option (Bool × Unit)} {a b:List α} (d:α) (p:α→α→Bool) (st:Int→σ) (hl:a.length ≤ Go.maxLen) (hab:a.length = b.length)
 (hin:∀ k (i:Nat),i < a.length→B k (st i) = bif p (a.getD i d) (b.getD i d) then k (st (wI (i + 1))) else some (false,())) {fin:Bool} (hout:∀ k,B k (st a.length) = some (fin,())) :
 zg B K0 (st 0) = some (eqW p a b && fin,()):=by
 have hz:(List.zip a b).length = a.length:=by rw [List.length_zip]; omega
 have hx:∀ i,i < a.length→(List.zip a b).getD i (d,d) = (a.getD i d,b.getD i d):=fun i hi=>zzG a b i hi (by omega)
 have:=jz (B:=B) (l:=List.zip a b) (d,d) (p:=fun q=>p q.1 q.2) (fin:=some (fin,())) (bad:=some (false,())) st (by rw [hz]; exact hl) (fun k i x hi hx' _=>?_) (fun k=>?_)
 ·rw [this]
  unfold eqW
  rw [decide_eq_true hab]
  cases (List.zip a b).all fun q=>p q.1 q.2 <;> rfl
 ·rw [hz] at hi
  rw [hx i hi] at hx'
  subst hx'
  exact hin k i hi
 ·rw [hz]; exact hout k
theorem zs2 {α ρ:Type} (a b:List α) (p:α→α→Bool) (x:Option ρ) (y:Option ρ):(bif ((List.length a:Int) != (List.length b:Int)) then y else x) = bif decide (a.length = b.length) then x else y:=by
 rw [ziq]; cases decide (a.length = b.length) <;> rfl
theorem zs3 {α:Type} {p:α→α→Bool} {a b:List α} (h:¬ a.length = b.length):eqW p a b = false:=by unfold eqW; rw [decide_eq_false h]; rfl
theorem zdh {α:Type} {p:α→α→Bool} {a b:List α} {x:Option (Bool × Unit)} (h:a.length = b.length→x = some (eqW p a b,())):(bif ((List.length a:Int) != (List.length b:Int)) then some (false,()) else x) = some (eqW p a b,()):=by
 rw [zs2 a b p]
 by_cases hl:a.length = b.length
 ·rw [decide_eq_true hl,h hl]; rfl
 ·rw [decide_eq_false hl,zs3 hl]; rfl
theorem zrt {p:Bool} {ρ:Type} (x y:ρ):(bif !p then y else x) = bif p then x else y:=by cases p <;> rfl
theorem zP0 {ρ:Type} (u v:Int) (x y:ρ):(bif u != v then y else x) = bif u == v then x else y:=by
 show (bif !(u == v) then y else x) = _
 exact zrt _ _
theorem zKk {a b:List zt} (hl:a.length ≤ Go.maxLen):zon (a,b,()) = some (eqL zr a b,()):=zdh (p:=eqI zr) fun h=>by
 have:=yU (B:=zd8) zI (eqI zr) (fun i=>(a,b,i)) hl h (fun k i hi=>by
  simp only [zd8]
  rw [ltT hi,zj hi,zj (by omega),zE,zE,zrt]; rfl) (fin:=true) (fun k=>by simp only [zd8]; rw [ltF]; rfl)
 rw [Bool.and_true] at this; exact this
theorem zKl {a b:List zG} (hl:a.length ≤ Go.maxLen):zop (a,b,()) = some (eqL zy a b,()):=zdh (p:=eqI zy) fun h=>by
 have:=yU (B:=zea) vS (eqI zy) (fun i=>(a,b,i)) hl h (fun k i hi=>by
  simp only [zea]
  rw [ltT hi,zj hi,zj (by omega),zE,zE,zrt]; rfl) (fin:=true) (fun k=>by simp only [zea]; rw [ltF]; rfl)
 rw [Bool.and_true] at this; exact this
theorem zL2 {a b:List qP} (hl:a.length ≤ Go.maxLen):zhL (a,b,()) = some (eqL qh a b,()):=zdh (p:=eqI qh) fun h=>by
 have:=yU (B:=yz) zg4 (eqI qh) (fun i=>(a,b,i)) hl h (fun k i hi=>by
  simp only [yz]
  rw [ltT hi,zj hi,zj (by omega),zE,zE,zrt]; rfl) (fin:=true) (fun k=>by simp only [yz]; rw [ltF]; rfl)
 rw [Bool.and_true] at this; exact this
theorem zL3 {a b:List qb} (hl:a.length ≤ Go.maxLen):zhN (a,b,()) = some (eqL zU a b,()):=zdh (p:=eqI zU) fun h=>by
 have:=yU (B:=yB) qf (eqI zU) (fun i=>(a,b,i)) hl h (fun k i hi=>by
  simp only [yB]
  rw [ltT hi,zj hi,zj (by omega),zE,zE,zrt]; rfl) (fin:=true) (fun k=>by simp only [yB]; rw [ltF]; rfl)
 rw [Bool.and_true] at this; exact this
theorem zKm {a b:List z5} (hl:a.length ≤ Go.maxLen):zor (a,b,()) = some (eqL zH a b,()):=zdh (p:=eqI zH) fun h=>by
 have:=yU (B:=zec) zC (eqI zH) (fun i=>(a,b,i)) hl h (fun k i hi=>by
  simp only [zec]
  rw [ltT hi,zj hi,zj (by omega),zE,zE,zrt]; rfl) (fin:=true) (fun k=>by simp only [zec]; rw [ltF]; rfl)
 rw [Bool.and_true] at this; exact this
theorem zKn {a b:List zk} (hl:a.length ≤ Go.maxLen):zot (a,b,()) = some (eqL zu a b,()):=zdh (p:=eqI zu) fun h=>by
 have:=yU (B:=zee) qj (eqI zu) (fun i=>(a,b,i)) hl h (fun k i hi=>by
  simp only [zee]
  rw [ltT hi,zj hi,zj (by omega),zE,zE,zrt]; rfl) (fin:=true) (fun k=>by simp only [zee]; rw [ltF]; rfl)
 rw [Bool.and_true] at this; exact this
theorem zKo {a b:List zv} (hl:a.length ≤ Go.maxLen):zov (a,b,()) = some (eqL zw a b,()):=zdh (p:=eqI zw) fun h=>by
 have:=yU (B:=zeg) zR (eqI zw) (fun i=>(a,b,i)) hl h (fun k i hi=>by
  simp only [zeg]
  rw [ltT hi,zj hi,zj (by omega),zE,zE,zrt]; rfl) (fin:=true) (fun k=>by simp only [zeg]; rw [ltF]; rfl)
 rw [Bool.and_true] at this; exact this
structure zKp (x:zp):Prop where
 rooms:x.1.length ≤ Go.maxLen
 exits:x.2.1.length ≤ Go.maxLen
 items:x.2.2.1.length ≤ Go.maxLen
 mails:x.2.2.2.1.length ≤ Go.maxLen
 trades:x.2.2.2.2.1.length ≤ Go.maxLen
 purses:x.2.2.2.2.2.1.length ≤ Go.maxLen
 places:x.2.2.2.2.2.2.1.length ≤ Go.maxLen
structure zQ7 (s:zb):Prop where
 shelves:s.2.1.length ≤ Go.maxLen
 ranks:s.2.2.1.length ≤ Go.maxLen
 orders:s.2.2.2.1.length ≤ Go.maxLen
 entries:s.2.2.2.2.1.length ≤ Go.maxLen
 seats:s.2.2.2.2.2.1.length ≤ Go.maxLen
 shelf:∀ x ∈ s.2.1,zKp x
 rank:∀ l ∈ s.2.2.1,l.length ≤ Go.maxLen
def zfW (a b:zp):Bool:=eqL qh a.1 b.1 && (eqL zU a.2.1 b.2.1 && (eqL zH a.2.2.1 b.2.2.1 && (eqL zu a.2.2.2.1 b.2.2.2.1 && (eqL zw a.2.2.2.2.1 b.2.2.2.2.1 && (eqL (.arr 4 tU) a.2.2.2.2.2.1 b.2.2.2.2.2.1 && (eqL zL a.2.2.2.2.2.2.1 b.2.2.2.2.2.2.1 && (eqI (.arr 4 tU) a.2.2.2.2.2.2.2.1 b.2.2.2.2.2.2.2.1 && eqI (.arr 4 tU) a.2.2.2.2.2.2.2.2.1 b.2.2.2.2.2.2.2.2.1)))))))
theorem zyv {a b:zp} (h:zKp a):zdI (a,b,()) = some (zfW a b,()):=by
 rw [zB]
 simp only [zdI,zdH]
 rw [zL2 h.rooms,zL3 h.exits,zKm h.items,zKn h.mails,zKo h.trades]
 simp only [Option.bind_some]
 rw [zs2 a.2.2.2.2.2.1 b.2.2.2.2.2.1 (eqI (.arr 4 tU)),zs2 a.2.2.2.2.2.2.1 b.2.2.2.2.2.2.1 (eqI zL)]
 have key:a.2.2.2.2.2.1.length = b.2.2.2.2.2.1.length→a.2.2.2.2.2.2.1.length = b.2.2.2.2.2.2.1.length→zf3 K0 (0,a,b) = some (eqL (.arr 4 tU) a.2.2.2.2.2.1 b.2.2.2.2.2.1 && eqL zL a.2.2.2.2.2.2.1 b.2.2.2.2.2.2.1,()):=fun h1 h2=>by
  have l1:=yU (B:=yE) zIx (eqI zL) (fun i=>(i,a,b)) h.places h2 (fun k i hi=>by
   simp only [yE]
   rw [ltT hi,zj hi,zj (by omega),zE,zE,zrt]; rfl) (fin:=true) (fun k=>by simp only [yE]; rw [ltF]; rfl)
  rw [Bool.and_true] at l1
  exact yU (B:=fun k0=>vb (zbN K0) k0) (ze (.arr 4 tU)) (eqI (.arr 4 tU)) (fun i=>(i,a,b)) h.purses h1 (fun k i hi=>by
   simp only [vb]
   rw [ltT hi,zj hi,zj (by omega),Int.toNat_natCast,zrt]; rfl) (fun k=>by simp only [vb]; rw [ltF]; exact l1)
 unfold zfW
 by_cases h1:a.2.2.2.2.2.1.length = b.2.2.2.2.2.1.length
 ·by_cases h2:a.2.2.2.2.2.2.1.length = b.2.2.2.2.2.2.1.length
  ·rw [key h1 h2,decide_eq_true h1,decide_eq_true h2]
   generalize eqL qh a.1 b.1 = c1
   generalize eqL zU a.2.1 b.2.1 = c2
   generalize eqL zH a.2.2.1 b.2.2.1 = c3
   generalize eqL zu a.2.2.2.1 b.2.2.2.1 = c4
   generalize eqL zw a.2.2.2.2.1 b.2.2.2.2.1 = c5
   generalize eqL (.arr 4 tU) a.2.2.2.2.2.1 b.2.2.2.2.2.1 = c6
   generalize eqL zL a.2.2.2.2.2.2.1 b.2.2.2.2.2.2.1 = c7
   generalize eqI (.arr 4 tU) a.2.2.2.2.2.2.2.1 b.2.2.2.2.2.2.2.1 = c8
   generalize eqI (.arr 4 tU) a.2.2.2.2.2.2.2.2.1 b.2.2.2.2.2.2.2.2.1 = c9
   grind
  ·have e:eqL zL a.2.2.2.2.2.2.1 b.2.2.2.2.2.2.1 = false:=zs3 h2
   rw [decide_eq_false h2,e]
   grind
 ·have e:eqL (.arr 4 tU) a.2.2.2.2.2.1 b.2.2.2.2.2.1 = false:=zs3 h1
  rw [decide_eq_false h1,e]
  grind
def zHF (a b:zb):Bool:=(a.1:Int) == b.1 && (eqW zfW a.2.1 b.2.1 && (eqW (eqL tI) a.2.2.1 b.2.2.1 && (eqL zr a.2.2.2.1 b.2.2.2.1 && (eqL zy a.2.2.2.2.1 b.2.2.2.2.1 && eqL tI a.2.2.2.2.2.1 b.2.2.2.2.2.1))))
theorem zKq {a b:List (List Int)} (hl:a.length ≤ Go.maxLen) (hr:∀ l ∈ a,l.length ≤ Go.maxLen):zol (a,b,()) = some (eqW (eqL tI) a b,()):=zdh (p:=eqL tI) fun h=>by
 have:=yU (B:=fun k0=>zaW (zg9 K0 k0) k0) ([]:List Int) (eqL tI) (fun i=>(a,b,i)) hl h (fun k i hi=>by
  simp only [zaW]
  rw [ltT hi,zj hi,zj (by omega),Int.toNat_natCast]
  simp only [cond_true]
  rw [zs2 (a.getD i []) (b.getD i []) (eqI tI)]
  by_cases hm:(a.getD i []).length = (b.getD i []).length
  ·rw [decide_eq_true hm,cond_true]
   have hz:(List.zip (a.getD i []) (b.getD i [])).length = (a.getD i []).length:=by rw [List.length_zip]; omega
   have:=jz (B:=fun k1=>zd6 k k1) (l:=List.zip (a.getD i []) (b.getD i [])) ((0:Int),(0:Int)) (p:=fun q=>q.1 == q.2) (fin:=k (a,b,wI (i + 1))) (bad:=some (false,())) (fun j=>(a,b,(i:Int),j)) (by rw [hz]; exact hr _ (zX hi)) (fun k1 j x hj hx _=>by
    rw [hz] at hj
    rw [zzG _ _ j hj (by omega)] at hx
    subst hx
    simp only [zd6]
    rw [zj hi,zj hi,Int.toNat_natCast,ltT hj,zj hj,zj (by omega),zj (by omega),Int.toNat_natCast]
    simp only [cond_true]
    exact zP0 _ _ _ _) (fun k1=>by
    simp only [zd6]
    rw [hz,zj hi,Int.toNat_natCast,ltF]; rfl)
   refine Eq.trans this ?_
   unfold eqL
   rw [decide_eq_true hm,Bool.true_and]
   rfl
  ·have e:eqL tI (a.getD i []) (b.getD i []) = false:=zs3 hm
   rw [decide_eq_false hm,e]; rfl) (fin:=true) (fun k=>by simp only [zaW]; rw [ltF]; rfl)
 rw [Bool.and_true] at this; exact this
theorem zKr {a b:zb} (h:zQ7 a):vn (a,b,()) = some (zHF a b,()):=by
 rw [zB]
 simp only [vn,zkk]
 rw [zKq h.ranks h.rank,zKk h.orders,zKl h.entries]
 simp only [Option.bind_some]
 rw [zs2 a.2.1 b.2.1 zfW,zs2 a.2.2.2.2.2.1 b.2.2.2.2.2.1 (eqI tI)]
 have key:a.2.1.length = b.2.1.length→a.2.2.2.2.2.1.length = b.2.2.2.2.2.1.length→zlr K0 (0,a,b) = some (eqW zfW a.2.1 b.2.1 && eqL tI a.2.2.2.2.2.1 b.2.2.2.2.2.1,()):=fun h1 h2=>by
  have l1:=yU (B:=zey) (0:Int) (eqI tI) (fun i=>(i,a,b)) h.seats h2 (fun k i hi=>by
   simp only [zey]
   rw [ltT hi,zj hi,zj (by omega),zE,zE]
   simp only [cond_true]
   exact zP0 _ _ _ _) (fin:=true) (fun k=>by simp only [zey]; rw [ltF]; rfl)
  rw [Bool.and_true] at l1
  exact yU (B:=fun k0=>za1 (zhl K0) k0) zf zfW (fun i=>(i,a,b)) h.shelves h1 (fun k i hi=>by
   simp only [za1]
   rw [ltT hi,zj hi,zj (by omega),zE,zE,zyv (h.shelf _ (zX hi))]; rfl) (fun k=>by simp only [za1]; rw [ltF]; exact l1)
 unfold zHF
 have e0:(a.1 != b.1) = !(a.1 == b.1):=rfl
 rw [e0]
 by_cases h1:a.2.1.length = b.2.1.length
 ·by_cases h2:a.2.2.2.2.2.1.length = b.2.2.2.2.2.1.length
  ·rw [key h1 h2,decide_eq_true h1,decide_eq_true h2]
   generalize eqW zfW a.2.1 b.2.1 = c1
   generalize eqW (eqL tI) a.2.2.1 b.2.2.1 = c2
   generalize eqL zr a.2.2.2.1 b.2.2.2.1 = c3
   generalize eqL zy a.2.2.2.2.1 b.2.2.2.2.1 = c4
   generalize eqL tI a.2.2.2.2.2.1 b.2.2.2.2.2.1 = c5
   generalize (a.1 == b.1) = c6
   grind
  ·have e:eqL tI a.2.2.2.2.2.1 b.2.2.2.2.2.1 = false:=zs3 h2
   rw [decide_eq_false h2,e]
   grind
 ·have e:eqW zfW a.2.1 b.2.1 = false:=zs3 h1
  rw [decide_eq_false h1,e]
  grind
theorem zP1 {r:zd} {l:List (List Int)} (h:zik r l = true):l.length = r.2.2.2.1.length ∧ ∀ g,g < r.2.2.2.1.length→(l.getD g []).length = r.2.2.1.length:=by
 simp only [zik,Bool.and_eq_true,decide_eq_true_eq,qy] at h
 refine ⟨h.1,fun g hg=>?_⟩
 have:=h.2 g (by omega) (by omega)
 simp only [zsY,Bool.and_eq_true,decide_eq_true_eq] at this
 exact this.1
theorem jS {r:zd} {s:zb} (h:qJ r s = true):qS r = true ∧ zgT r s = true ∧ zfU r s = true:=by
 simp only [qJ,Bool.and_eq_true] at h
 exact ⟨h.1,h.2.1,h.2.2.1⟩
theorem znU:∀ {τ:Ty},τ.eqIn = true→∀ x:τ.I,eqI τ x x = true:=by
 intro τ
 induction τ with
 | unit=>intro _ _; rfl
 | bool=>intro _ x; exact beq_self_eq_true x
 | int k=>intro _ x; exact beq_self_eq_true (α:=Int) x
 | str=>intro _ x; exact beq_self_eq_true _
 | pair a b iha ihb =>
  intro h x
  simp only [Ty.eqIn,Bool.and_eq_true] at h
  simp only [eqI,iha h.1,ihb h.2,cond_true]
 | st a ih=>intro h x; exact ih h x
 | arr n a ih =>
  intro h x
  simp only [eqI,List.all_eq_true]
  intro p hp
  have:p.1 = p.2:=by
   obtain ⟨i,hi,rfl⟩:=List.mem_iff_getElem.1 hp
   rw [List.getElem_zip]
  rw [this]
  exact ih h _
 | _=>intro h; cases h
theorem zAJ {α:Type} {p:α→α→Bool} (h:∀ x,p x x = true) (l:List α):eqW p l l = true:=by
 simp only [eqW,decide_true,Bool.true_and,List.all_eq_true]
 intro q hq
 have:q.1 = q.2:=by
  obtain ⟨i,hi,rfl⟩:=List.mem_iff_getElem.1 hq
  rw [List.getElem_zip]
 rw [this]; exact h _
theorem zay {τ:Ty} (h:τ.eqIn = true) (l:List τ.I):eqL τ l l = true:=zAJ (znU h) l
theorem zKs (x:zp):zfW x x = true:=by
 simp only [zfW,Bool.and_eq_true]
 exact ⟨zay (τ:=qh) rfl _,zay (τ:=zU) rfl _,zay (τ:=zH) rfl _,zay (τ:=zu) rfl _,zay (τ:=zw) rfl _,zay (τ:=.arr 4 tU) rfl _,zay (τ:=zL) rfl _,znU (τ:=.arr 4 tU) rfl _,znU (τ:=.arr 4 tU) rfl _⟩
theorem zNW (s:zb):zHF s s = true:=by
 simp only [zHF,Bool.and_eq_true]
 exact ⟨beq_self_eq_true (α:=Int) _,zAJ zKs _,zAJ (zay (τ:=tI) rfl) _,zay (τ:=zr) rfl _,zay (τ:=zy) rfl _,zay (τ:=tI) rfl _⟩
end Go.Proofs.YtkcakhbkoeimdaaGreatDoor
end
section
namespace Go.Proofs.YtkcakhbkoeimdaaGreatDoor
open Go.Ev
structure zxH (x:zp):Prop where
 rooms:x.1.length * 24 ≤ 140737488355328
 exits:x.2.1.length * 48 ≤ 140737488355328
 items:x.2.2.1.length * 56 ≤ 140737488355328
 mails:x.2.2.2.1.length * 48 ≤ 140737488355328
 trades:x.2.2.2.2.1.length * 72 ≤ 140737488355328
 purses:x.2.2.2.2.2.1.length * 32 ≤ 140737488355328
 places:x.2.2.2.2.2.2.1.length * 16 ≤ 140737488355328
structure zfm (s:zb):Prop where
 shelves:s.2.1.length * 232 ≤ 140737488355328
 ranks:s.2.2.1.length * 24 ≤ 140737488355328
 orders:s.2.2.2.1.length * 80 ≤ 140737488355328
 entries:s.2.2.2.2.1.length * 80 ≤ 140737488355328
 seats:s.2.2.2.2.2.1.length * 8 ≤ 140737488355328
 shelf:∀ x ∈ s.2.1,zxH x
 rank:∀ l ∈ s.2.2.1,l.length * 8 ≤ 140737488355328
theorem zKt {α:Type} {l:List α} {i:Nat} {d:α} (h:i < l.length):List.set l i (l.getD i d) = l:=by
 rw [List.getD_eq_getElem?_getD,List.getElem?_eq_getElem h]
 exact List.set_getElem_self h
theorem ziQ {s:zb} (h:zfm s):jl (s,()) = some (s,()):=by
 have hmm:140737488355328 ≤ Go.maxLen:=by unfold Go.maxLen; omega
 have h1:=h.shelves
 have h2:=h.ranks
 have h3:=h.orders
 have h4:=h.entries
 have h5:=h.seats
 have l1:zci K0 ((s.2.1.length:Int),0,s.1,0,s.2.1,0,s.2.2.1,s.2.2.1.length,s.2.2.2.1,s.2.2.2.2.1,s.2.2.2.2.2.1,[],0,[],0,[],[],[]) = some (s,()) :=
  zaT (α:=Unit) (B:=zch) (len:=s.2.1.length) (by omega) (fun i _=>((s.2.1.length:Int),i,s.1,0,s.2.1,i.toNat,s.2.2.1,s.2.2.1.length,s.2.2.2.1,s.2.2.2.2.1,s.2.2.2.2.2.1,[],0,[],0,[],[],[])) (fun _ _=>some (s,())) (fun _ _=>True) (fun k i _ hi _ hk=>by
   have hx:=h.shelf _ (zX (d:=zf) hi)
   have e1:=hx.rooms
   have e2:=hx.exits
   have e3:=hx.items
   have e4:=hx.mails
   have e5:=hx.trades
   have e6:=hx.purses
   have e7:=hx.places
   have hk':=hk () trivial
   have hw:wI ((i:Int) + 1) = (i:Int) + 1:=zBr hi (by omega)
   simp only [zch]
   rw [ltT hi,zj hi,zE]
   simp only [Int.toNat_natCast,Nat.le_refl,decide_true,cond_true]
   rw [zJL (by omega),zJM (by omega),zJN (by omega),zxz (by omega),zva (by omega),zNB (by omega),zLB (by omega)]
   simp only [Option.bind_some]
   rw [zj hi]
   refine Eq.trans ?_ hk'
   have hs:List.set s.2.1 i (s.2.1.getD i zf) = s.2.1:=zKt hi
   have ht:(wI ((i:Int) + 1)).toNat = i + 1:=by rw [hw]; omega
   rw [ht]
   exact congrArg (fun l=>k ((s.2.1.length:Int),wI ((i:Int) + 1),s.1,0,l,i + 1,s.2.2.1,s.2.2.1.length,s.2.2.2.1,s.2.2.2.2.1,s.2.2.2.2.2.1,[],0,[],0,[],[],[])) hs) (fun k _ _=>by
   simp only [zch]
   rw [ltF]
   simp only [Int.toNat_natCast,decide_true,cond_true,cond_false]) () trivial
 have l0:zj1 K0 ((s.2.2.1.length:Int),0,s.1,s.2.1,0,s.2.2.1,0,s.2.2.2.1,s.2.2.2.2.1,s.2.2.2.2.2.1,[],0,[],0,[],[],[]) = some (s,()) :=
  zaT (α:=Unit) (B:=fun k0=>zaj (zci K0) k0) (len:=s.2.2.1.length) (by omega) (fun i _=>((s.2.2.1.length:Int),i,s.1,s.2.1,0,s.2.2.1,i.toNat,s.2.2.2.1,s.2.2.2.2.1,s.2.2.2.2.2.1,[],0,[],0,[],[],[])) (fun _ _=>some (s,())) (fun _ _=>True) (fun k i _ hi _ hk=>by
   have hx:=h.rank _ (zX (d:=([]:List Int)) hi)
   have hk':=hk () trivial
   have hw:wI ((i:Int) + 1) = (i:Int) + 1:=zBr hi (by omega)
   simp only [zaj]
   rw [ltT hi,zj hi]
   simp only [Int.toNat_natCast,Nat.le_refl,decide_true,cond_true]
   rw [zzg (by omega)]
   simp only [Option.bind_some]
   rw [zj hi]
   refine Eq.trans ?_ hk'
   have hs:List.set s.2.2.1 i (s.2.2.1.getD i []) = s.2.2.1:=zKt hi
   have ht:(wI ((i:Int) + 1)).toNat = i + 1:=by rw [hw]; omega
   rw [ht,hs]) (fun k _ _=>by
   simp only [zaj]
   rw [ltF,zGZ (by omega)]
   simp only [Int.toNat_natCast,Option.bind_some,cond_false]
   exact l1) () trivial
 simp only [jl,ziB]
 rw [zu9 (by omega),zGY (by omega),zzg (by omega),zJK (by omega)]
 simp only [Option.bind_some]
 exact l0
end Go.Proofs.YtkcakhbkoeimdaaGreatDoor
end
section
namespace Go.Proofs.YtkcakhbkoeimdaaGreatDoor
open Go.Ev
structure At (s:zb) (i w:Int):Prop where
 hi:0 ≤ i ∧ i < (s.2.1.length:Int)
 hw:0 ≤ w ∧ w < (((ix zf s.2.1 i).2.2.2.2.2.1.length:Nat):Int)
theorem zxI {s:zb} {i:Int} (hi:0 ≤ i ∧ i < (s.2.1.length:Int)):ix zf s.2.1 i ∈ s.2.1:=zX (by omega)
theorem zRj {r:zd} {s:zb} (h:qJ r s = true) {i w:Int} (hi:jb r i = true) (hw:jW r w = true):At s i w:=by
 obtain ⟨hb,hz,-⟩:=jS h
 have sz:=zaR hb hz
 have hsl:=sz.shelves
 simp only [jb,jW,decide_eq_true_eq] at hi hw
 have h1:0 ≤ i ∧ i < (s.2.1.length:Int):=by omega
 have h2:=(sz.shelf _ (zxI h1)).2.2.2.2.2.1
 exact ⟨h1,by omega⟩
theorem zQ8 {r:zd} (hb:qS r = true) {x:pMe} (hm:vp r x = true):jb r x.2.1 = true:=by
 simp only [qS,zms,Bool.and_eq_true,decide_eq_true_eq,List.all_eq_true] at hb
 simp only [vp,Bool.and_eq_true,decide_eq_true_eq,beq_iff_eq] at hm
 have:=hb.2.1.2 _ (zX (d:=(0:Int)) (i:=x.1.toNat) (by omega))
 rw [← hm.2.1] at this
 simp only [jb,decide_eq_true_eq]
 exact this
theorem zRk {r:zd} {s:zb} (h:qJ r s = true) {x:pMe} (hm:vp r x = true):At s x.2.1 x.2.2.1:=by
 have hw:jW r x.2.2.1 = true:=by
  simp only [vp,Bool.and_eq_true] at hm; exact hm.2.2
 exact zRj h (zQ8 (jS h).1 hm) hw
end Go.Proofs.YtkcakhbkoeimdaaGreatDoor
end
section
namespace Go.Proofs.YtkcakhbkoeimdaaGreatDoor
open Go.Ev
theorem bnd {α β:Type} {x:Option α} {a:α} {f:α→Option β} (h:x = some a):Option.bind x f = f a:=by rw [h]; rfl
theorem cT {α:Type} {b:Bool} {x y:α} (h:b = true):cond b x y = x:=by rw [h]; rfl
theorem cF {α:Type} {b:Bool} {x y:α} (h:b = false):cond b x y = y:=by rw [h]; rfl
abbrev upd (s:zb) (i:Int) (h:zp):zb:=u1 s (List.set s.2.1 (Int.toNat i) h)
theorem getD_set_ne {α:Type} {l:List α} {i j:Nat} {x d:α} (h:i ≠ j):(List.set l i x).getD j d = l.getD j d:=by
 rw [List.getD_eq_getElem?_getD,List.getElem?_set_ne h,List.getD_eq_getElem?_getD]
theorem zPa {s:zb} {i:Int} {h:zp} (hl:s.2.1.length ≤ lim) (hi:0 ≤ i ∧ i < (s.2.1.length:Int)):zgE (s,i,h,()) = some (upd s i h,()):=by
 simp only [zgE]
 refine (cT (decide_eq_true (by simpa using hl))).trans ?_
 exact ixR hi
def zMx (x:zp):Bool:=decide (x.1.length * 24 ≤ 140737488355328) && (decide (x.2.1.length * 48 ≤ 140737488355328) && (decide (x.2.2.1.length * 56 ≤ 140737488355328) && (decide (x.2.2.2.1.length * 48 ≤ 140737488355328) && (decide (x.2.2.2.2.1.length * 72 ≤ 140737488355328) && (decide (x.2.2.2.2.2.1.length * 32 ≤ 140737488355328) && decide (x.2.2.2.2.2.2.1.length * 16 ≤ 140737488355328))))))
def zHG (s:zb):Bool:=decide (s.2.1.length * 232 ≤ 140737488355328) && (decide (s.2.2.1.length * 24 ≤ 140737488355328) && (decide (s.2.2.2.1.length * 80 ≤ 140737488355328) && (decide (s.2.2.2.2.1.length * 80 ≤ 140737488355328) && (decide (s.2.2.2.2.2.1.length * 8 ≤ 140737488355328) && (s.2.1.all zMx && s.2.2.1.all fun l=>decide (l.length * 8 ≤ 140737488355328))))))
theorem zP2 {s:zb} (h:zHG s = true):zfm s:=by
 simp only [zHG,Bool.and_eq_true,decide_eq_true_eq,List.all_eq_true] at h
 obtain ⟨h1,h2,h3,h4,h5,h6,h7⟩:=h
 refine ⟨h1,h2,h3,h4,h5,fun x hx=>?_,h7⟩
 have:=h6 x hx
 simp only [zMx,Bool.and_eq_true,decide_eq_true_eq] at this
 obtain ⟨a,b,c,d,e,f,g⟩:=this
 exact ⟨a,b,c,d,e,f,g⟩
noncomputable def zPb (x:zb × Unit):Option (zb × Unit):=bif zHG x.1 then some x else jl x
theorem zP3:jl = zPb:=by
 funext ⟨s,u⟩
 cases u
 unfold zPb
 cases h:zHG s with
 | true=>exact ziQ (zP2 h)
 | false=>rfl
theorem zL4 {x:zp} (h:zxH x):zKp x:=by
 have hm:140737488355328 ≤ Go.maxLen:=by unfold Go.maxLen; omega
 obtain ⟨e1,e2,e3,e4,e5,e6,e7⟩:=h
 exact ⟨by omega,by omega,by omega,by omega,by omega,by omega,by omega⟩
theorem zPc {s:zb} (h:zfm s):zQ7 s:=by
 have hm:140737488355328 ≤ Go.maxLen:=by unfold Go.maxLen; omega
 obtain ⟨e1,e2,e3,e4,e5,e6,e7⟩:=h
 exact ⟨by omega,by omega,by omega,by omega,by omega,fun x hx=>zL4 (e6 x hx),fun l hl=>by have:=e7 l hl; omega⟩
theorem zP4 {s:zb} (h:zfm s) {i:Int} {x:zp} (hx:zxH x):zfm (upd s i x):=by
 refine ⟨by show (List.set _ _ _).length * _ ≤ _; rw [List.length_set]; exact h.shelves,h.ranks,h.orders,h.entries,h.seats,fun y hy=>?_,h.rank⟩
 rcases List.mem_or_eq_of_mem_set hy with hy | rfl
 ·exact h.shelf y hy
 ·exact hx
theorem zQD {s:zb} (h:zfm s) (i:Int):zxH (ix zf s.2.1 i):=by
 by_cases hi:i.toNat < s.2.1.length
 ·exact h.shelf _ (zX hi)
 ·have e:ix zf s.2.1 i = zf:=by
   show List.getD _ _ _ = _
   rw [List.getD_eq_getElem?_getD,List.getElem?_eq_none (by omega)]; rfl
  rw [e]
  exact ⟨Nat.zero_le _,Nat.zero_le _,Nat.zero_le _,Nat.zero_le _,Nat.zero_le _,Nat.zero_le _,Nat.zero_le _⟩
theorem zjb:zfm (0,[],[],[],[],[],()):=⟨Nat.zero_le _,Nat.zero_le _,Nat.zero_le _,Nat.zero_le _,Nat.zero_le _,fun x hx=>(by cases hx),fun x hx=>(by cases hx)⟩
theorem wf_u64 {x:Int} (h:(Lit.int .u64 x).wf = true):zgo x:=by
 unfold Lit.wf at h
 simp only [Bool.and_eq_true,decide_eq_true_eq] at h
 have e1:IntKind.min .u64 = 0:=by decide
 have e2:IntKind.max .u64 = 18446744073709551615:=by decide
 rw [e1,e2] at h
 exact ⟨h.1,Int.lt_of_le_of_lt h.2 (by decide)⟩
theorem realmIn {r:zd} (h:InR zl r):qi r:=by
 obtain ⟨hl,h2⟩:=h
 refine ⟨fun a ha=>?_,h2.2.2.1.1,h2.2.2.2.1.1⟩
 have h3:(Lit.int .u64 a.2.1).wf = true:=(hl.2 a ha).2.1
 exact wf_u64 h3
theorem zKu {a:List Int} (h:InR (.arr 4 tU) a):ztU a:=fun x hx=>wf_u64 (h.2 x hx)
theorem zMy {x:zjE} (h:InR zdD x):zgo x.2.1:=wf_u64 (show (Lit.int .u64 x.2.1).wf = true from h.2.1)
theorem zQE {x:zp} (h:InR zx x):zsZ x:=by
 obtain ⟨-,-,-,-,h5,h6,-,h8,h9,-⟩:=h
 refine ⟨fun t ht=>?_,fun a ha=>zKu (h6.2 a ha),zKu h8,zKu h9⟩
 obtain ⟨-,-,-,g1,g2,-⟩:=h5.2 t ht
 exact ⟨zMy g1,zMy g2⟩
theorem zQF {x:zt} (h:InR zr x):zhz x:=by
 obtain ⟨-,-,-,-,-,-,h7,h8,h9,-⟩:=h
 exact ⟨wf_u64 h7,wf_u64 h8,wf_u64 h9⟩
theorem zQG {x:zG} (h:InR zy x):znM x:=by
 obtain ⟨-,-,-,-,-,-,-,h8,h9,-⟩:=h
 exact ⟨wf_u64 h8,wf_u64 h9⟩
theorem stateIn {s:zb} (h:InR zq s):jg s:=by
 obtain ⟨-,h2,-,h4,h5,-⟩:=h
 exact ⟨fun x hx=>zQE (h2.2 x hx),fun x hx=>zQF (h4.2 x hx),fun x hx=>zQG (h5.2 x hx)⟩
def zpi:zb:=(0,[],[],[],[],[],())
theorem zgV {n:Nat} (h:n ≤ 2000000):n ≤ lim:=by unfold lim; omega
theorem zpj {n:Nat} (h:n ≤ 2000000):n ≤ Go.maxLen:=by unfold Go.maxLen; omega
theorem zMz {r:zd} {s:zb} (h:qJ r s = true):zfm s:=by
 obtain ⟨hb,hz,hp⟩:=jS h
 have ok:=j9 hb
 have sz:=zaR hb hz
 have h1:=ok.labels
 have h2:=ok.lines
 have h3:=ok.accounts
 have h4:=sz.shelves
 have h5:=sz.orders
 have h6:=sz.entries
 have h7:=sz.people
 have h8:=ok.guilds
 have hh:zik r s.2.2.1 = true:=by simp only [zfU,Bool.and_eq_true] at hp; exact hp.1
 have hr:=zP1 hh
 refine ⟨by omega,by omega,by omega,by omega,by omega,fun x hx=>?_,fun l hl=>?_⟩
 ·have:=sz.shelf x hx
  exact ⟨by omega,by omega,by omega,by omega,by omega,by omega,by omega⟩
 ·obtain ⟨i,hi,rfl⟩:=List.mem_iff_getElem.1 hl
  have:=hr.2 i (by omega)
  rw [List.getD_eq_getElem?_getD,List.getElem?_eq_getElem hi] at this
  have this:(s.2.2.1[i]).length = _:=this
  omega
end Go.Proofs.YtkcakhbkoeimdaaGreatDoor
end
section
namespace Go.Proofs.YtkcakhbkoeimdaaGreatDoor
open Go.Ev
theorem zMA {α:Type} {p:α→Bool}:∀ (l:List α) (i:Int),0 ≤ i→qK p l i = -1 ∨ (i ≤ qK p l i ∧ qK p l i < i + l.length)
 | [],_,_=>.inl rfl
 | x :: l,i,h=>by
  simp only [qK]
  cases p x with
  | true=>right; simp only [cond_true,List.length_cons]; omega
  | false =>
   simp only [cond_false,List.length_cons]
   rcases zMA (p:=p) l (i + 1) (by omega) with e | e
   ·exact .inl e
   ·right; omega
def toV (x:z5) (h:zxZ):z5:=(x.1,x.2.1,h.1,h.2.1,h.2.2.1,())
end Go.Proofs.YtkcakhbkoeimdaaGreatDoor
end
section
namespace Go.Proofs.YtkcakhbkoeimdaaGreatDoor
open Go.Ev
abbrev zMB (s:zb) (me:pMe):List z5:=(ix zf s.2.1 me.2.1).2.2.1
structure Ctx (r:zd) (s:zb) (me:pMe):Prop where
 rs:qJ r s = true
 im:vp r me = true
theorem Ctx.hi {r:zd} {s:zb} {me:pMe} (x:Ctx r s me):0 ≤ me.2.1 ∧ me.2.1 < (s.2.1.length:Int):=(zRk x.rs x.im).hi
theorem Ctx.shelf {r:zd} {s:zb} {me:pMe} (x:Ctx r s me):(ix zf s.2.1 me.2.1).2.2.1.length ≤ 12 ∧ (ix zf s.2.1 me.2.1).2.2.2.2.2.2.1.length = r.2.2.1.length:=by
 obtain ⟨hb,hz,-⟩:=jS x.rs
 have h:=(zaR hb hz).shelf _ (zxI x.hi)
 exact ⟨h.2.2.1,h.2.2.2.2.2.2⟩
theorem Ctx.small {r:zd} {s:zb} {me:pMe} (x:Ctx r s me):(zMB s me).length ≤ 2000000:=Nat.le_trans x.shelf.1 (by omega)
theorem Ctx.who {r:zd} {s:zb} {me:pMe} (x:Ctx r s me):jW r me.2.2.1 = true:=by
 have:=x.im
 simp only [vp,Bool.and_eq_true] at this; exact this.2.2
theorem Ctx.slots {r:zd} {s:zb} {me:pMe} (x:Ctx r s me):(zMB s me).all j5 = true:=by
 have h:=x.rs
 have hi:=x.hi
 simp only [qJ,Bool.and_eq_true,qy] at h
 have:=(h.2.2.2.1 me.2.1.toNat (Nat.zero_le _) (by omega)).1.1
 simp only [qT,Bool.and_eq_true] at this
 exact this.2.2.1
theorem zMC {r:zd} (hb:qS r = true) {w:Int} (hw:jW r w = true):qn w = true:=by
 have:=(j9 hb).accounts
 simp only [jW,qn,decide_eq_true_eq] at hw ⊢
 omega
end Go.Proofs.YtkcakhbkoeimdaaGreatDoor
end
section
namespace Go.Proofs.YtkcakhbkoeimdaaGreatDoor
open Go.Ev
theorem zl1 {r:zd} {s:zb} (hr:qi r) (hs:jg s) (me:pMe):zdw (r,s,me,()) = some (qJ r s && vp r me,()):=by
 rw [zB]
 simp only [zdw,zHt hr hs,zKj,Option.bind_some]
 grind
theorem Ctx.items {r:zd} {s:zb} {me:pMe} (x:Ctx r s me) {i:Nat} (hi:i < s.2.1.length):(s.2.1.getD i zf).2.2.1.length ≤ 12 ∧ (s.2.1.getD i zf).2.2.1.all j5 = true:=by
 obtain ⟨hb,hz,-⟩:=jS x.rs
 have h:=(zaR hb hz).shelf _ (zX (d:=zf) hi)
 have h':=x.rs
 simp only [qJ,Bool.and_eq_true,qy] at h'
 have:=(h'.2.2.2.1 i (Nat.zero_le _) (by omega)).1.1
 simp only [qT,Bool.and_eq_true] at this
 exact ⟨h.2.2.1,this.2.2.1⟩
theorem Ctx.count {r:zd} {s:zb} {me:pMe} (x:Ctx r s me):s.2.1.length ≤ 8:=by
 obtain ⟨hb,hz,-⟩:=jS x.rs
 have h1:=(zaR hb hz).shelves
 have h2:=(j9 hb).labels
 omega
theorem zQ9 {a b:List Int} (hl:a.length ≤ Go.maxLen):zd4 (a,b,()) = some (eqL tI a b,()):=zdh (p:=eqI tI) fun h=>by
 have:=yU (B:=zd3) (0:Int) (eqI tI) (fun i=>(a,b,i)) hl h (fun k i hi=>by
  simp only [zd3]
  rw [ltT hi,zj hi,zj (by omega),zE,zE,zP0]; rfl) (fin:=true) (fun k=>by simp only [zd3]; rw [ltF]; rfl)
 rw [Bool.and_true] at this; exact this
end Go.Proofs.YtkcakhbkoeimdaaGreatDoor
end
section
namespace Go.Proofs.YtkcakhbkoeimdaaGreatDoor
open Go.Ev
theorem zRl {x:zp} (h:WtR zx x):zxH x:=by
 obtain ⟨h1,h2,h3,h4,h5,h6,h7,-⟩:=h
 have hb:reachBytes ≤ 140737488355328:=by decide
 exact ⟨Nat.le_trans h1.1 hb,Nat.le_trans h2.1 hb,Nat.le_trans h3.1 hb,Nat.le_trans h4.1 hb,Nat.le_trans h5.1 hb,Nat.le_trans h6.1 hb,Nat.le_trans h7.1 hb⟩
theorem wt_fits {s:zb} (h:WtR zq s):zfm s:=by
 obtain ⟨-,h2,h3,h4,h5,h6,-⟩:=h
 have hb:reachBytes ≤ 140737488355328:=by decide
 exact ⟨Nat.le_trans h2.1 hb,Nat.le_trans h3.1 hb,Nat.le_trans h4.1 hb,Nat.le_trans h5.1 hb,Nat.le_trans h6.1 hb,fun x hx=>zRl (h2.2 x hx),fun l hl=>Nat.le_trans (h3.2 l hl).1 hb⟩
end Go.Proofs.YtkcakhbkoeimdaaGreatDoor
end
section
namespace Go.Proofs.YtkcakhbkoeimdaaGreatDoor
open Go.Ev
structure zRw (r:zd) (s:zb) (i:Int) (x:zp) (l:List z5):Prop where
 len:l.length = x.2.2.1.length
 ok:l.all j5 = true
 below:l.all (zeO r s i) = true
 who:l.all (zjv r) = true
 deals:zmu (u2 x l) = true
end Go.Proofs.YtkcakhbkoeimdaaGreatDoor
end
section
namespace Go.Proofs.YtkcakhbkoeimdaaGreatDoor
open Go.Ev
abbrev zE0 (l:List zk):Option yk:=some (l,some ja,())
theorem znG {l:List zk} (hl:l.length ≤ lim):zfh (l,()) = some (zE0 l,()):=by
 simp only [zfh,zj5]
 rw [zxA hl]; rfl
theorem zAK (x:zk):ja (x,()) = some (x.1,()):=(zB x.1).symm
theorem zru (l:List zk):vX (zE0 l,()) = some (true,()):=rfl
def zAL (l:List zk) (i:Int):Bool:=decide (0 ≤ i ∧ i < (l.length:Int)) && (ix qj l i).1
theorem zQH {l:List zk} {i:Int} (h:zAL l i = true):0 ≤ i ∧ i < (l.length:Int):=by
 simp only [zAL,Bool.and_eq_true,decide_eq_true_eq] at h; exact h.1
theorem zNX (l:List zk) (i:Int):yP (zE0 l,i,()) = some (zAL l i,()):=by
 rw [zB]
 simp only [yP]
 refine (bnd (zru l)).trans ?_
 refine (cT rfl).trans ?_
 unfold zAL
 by_cases h:0 ≤ i ∧ i < (l.length:Int)
 ·rw [decide_eq_true h,Bool.true_and]
  refine (cT (decide_eq_true (show i ≥ 0 from h.1))).trans ?_
  refine (bnd (a:=(l,some ja,())) rfl).trans ?_
  refine (cT (decide_eq_true (show i < (l.length:Int) from h.2))).trans ?_
  refine (bnd (a:=(l,some ja,())) rfl).trans ?_
  refine (bnd (a:=(l,some ja,())) rfl).trans ?_
  refine (ixR h).trans ?_
  refine (bnd (a:=ja) rfl).trans ?_
  refine (bnd (zAK _)).trans ?_
  cases (ix qj l i).1 <;> rfl
 ·rw [decide_eq_false h,Bool.false_and]
  by_cases h0:i ≥ 0
  ·refine (cT (decide_eq_true h0)).trans ?_
   refine (bnd (a:=(l,some ja,())) rfl).trans ?_
   exact cF (decide_eq_false (show ¬ i < (l.length:Int) by omega))
  ·exact cF (decide_eq_false h0)
theorem zDf {l:List zk} (hl:l.length ≤ lim) {i:Int} (hi:0 ≤ i ∧ i < (l.length:Int)) (x:zk):zeh (zE0 l,i,x,()) = some (List.set l i.toNat x,0,()):=by
 simp only [zeh]
 refine (bnd (zru l)).trans ?_
 refine (cT rfl).trans ?_
 refine (cF (decide_eq_false (by omega))).trans ?_
 refine (bnd (a:=(l,some ja,())) rfl).trans ?_
 refine (cF (decide_eq_false (show ¬ i ≥ (l.length:Int) by omega))).trans ?_
 refine (bnd (a:=(l,some ja,())) rfl).trans ?_
 refine (bnd (zxA hl)).trans ?_
 exact ixR hi
def zfn (l:List zk):Int:=qK (fun x=>!x.1) l 0
theorem zKv {l:List zk} (hl:l.length ≤ Go.maxLen):zfb (zE0 l,()) = some (bif decide (zfn l < 0) then (0,8,()) else (zfn l,0,())):=by
 simp only [zfb]
 refine (bnd (zru l)).trans ?_
 refine (cT rfl).trans ?_
 refine (bnd (a:=(l,some ja,())) rfl).trans ?_
 refine (bnd (zo3 (p:=fun x=>!x.1) hl fun x _=>?_)).trans ?_
 ·show Option.bind (ja (x,())) (fun q3=>bif q3.1 then some (false,()) else some (true,())) = some (!x.1,())
  refine (bnd (zAK x)).trans ?_
  cases x.1 <;> rfl
 ·show (bif decide (zfn l < 0) then some (0,8,()) else some (zfn l,0,())) = _
  cases decide (zfn l < 0) <;> rfl
def zf4 (l:List zk) (x:zk):List zk × Int × Int × Unit:=bif decide (zfn l < 0) then ([],0,8,()) else (List.set l (zfn l).toNat x,zfn l,0,())
theorem zP5 {l:List zk} (h:¬ zfn l < 0):0 ≤ zfn l ∧ zfn l < (l.length:Int):=by
 have hr:=zMA (p:=fun x:zk=>!x.1) l 0 (Int.le_refl 0)
 unfold zfn at h ⊢
 omega
theorem zNY {l:List zk} (hl:l.length ≤ 2000000) (x:zk):zhk (zE0 l,x,()) = some (zf4 l x):=by
 simp only [zhk]
 refine (bnd (zKv (zpj hl))).trans ?_
 unfold zf4
 by_cases h:zfn l < 0
 ·rw [decide_eq_true h]; rfl
 ·rw [decide_eq_false h]
  refine (cF rfl).trans ?_
  exact bnd (zDf (zgV hl) (zP5 h) x)
theorem zL5 {l:List zk} {g:zk × Unit→Option (Bool × Unit)}:vX (some (l,some g,()),()) = some (true,()):=rfl
theorem zNZ {l:List zk} {g:zk × Unit→Option (Bool × Unit)} {p:zk→Bool} (hg:∀ x,g (x,()) = some (p x,())) {i:Nat} (hi:i < l.length):yP (some (l,some g,()),(i:Int),()) = some (p (l.getD i qj),()):=by
 rw [zB]
 simp only [yP,zL5,Option.bind_some,cond_true]
 rw [decide_eq_true (by omega),ltT hi,zj hi,zE,hg]
 simp only [cond_true,Option.bind_some]
theorem zKw {l:List zk} {g:zk × Unit→Option (Bool × Unit)} {p:zk→Bool} (hl:l.length ≤ lim) (hg:∀ x,g (x,()) = some (p x,())):zi5 (some (l,some g,()),()) = some (z8 p 0 l,()):=by
 have hl':l.length ≤ Go.maxLen:=by unfold lim at hl; unfold Go.maxLen; omega
 have:=zaT (B:=zac) (α:=List Int) hl' (fun i o=>(some (l,some g,()),(l.length:Int),i,o)) (fun i o=>some (o ++ z8 p i (l.drop i),())) (fun i o=>o.length ≤ i) (fun k i o hi hI hk=>by
  simp only [zac]
  rw [ltT hi,zNZ hg hi,zhH,yi qj hi]
  simp only [cond_true,Option.bind_some,z8]
  rw [decide_eq_true (by simp; omega)]
  cases hp:p (l.getD i qj) with
  | false =>
   simp only [cond_false]
   exact hk o (by omega)
  | true =>
   simp only [cond_true]
   rw [hk _ (by simp; omega)]
   simp) (fun k o _=>by
  simp only [zac]
  rw [ltF,List.drop_of_length_le (Nat.le_refl _)]
  simp [z8]) [] (Nat.le_refl _)
 refine Eq.trans ?_ (this.trans ?_)
 ·rfl
 ·simp
theorem zDg {α:Type} {p q:α→Bool} (d:α) (L:List α):∀ (l:List α) (i:Nat),(∀ j,j < l.length→L.getD (i + j) d = l.getD j d)→(z8 p i l).filter (fun z=>q (L.getD z.toNat d)) = z8 (fun x=>p x && q x) i l
 | [],_,_=>rfl
 | x :: l,i,h=>by
  have ih:=zDg (p:=p) (q:=q) d L l (i + 1) fun j hj=>by
   have:=h (j + 1) (by simp; omega)
   rw [show i + 1 + j = i + (j + 1) by omega,this]; rfl
  have h0:L.getD i d = x:=h 0 (by simp)
  simp only [z8]
  cases hp:p x with
  | false=>simp only [cond_false,Bool.false_and]; exact ih
  | true =>
   simp only [cond_true,Bool.true_and,zjs,Int.toNat_natCast,h0]
   cases hq:q x with
   | false=>exact ih
   | true=>simp only [cond_true,ih]
def zx5 (m:zk):Bool:=qn m.2.1 && (qn m.2.2.1 && qn m.2.2.2.1)
theorem zE1 (m:zk):zaX (m,()) = some (zx5 m,()):=by
 rw [zB]
 simp only [zaX,zFD,Option.bind_some,zx5]
 grind
def zE2 (l:List zk) (m:zk):List zk × Int × Int × Unit:=bif l.all zad then bif zx5 m then bif zdL m.2.2.2.2.1 then zf4 l (true,m.2) else ([],0,2,()) else ([],0,1,()) else ([],0,1,())
theorem zN0 {l:List zk} (hl:l.length ≤ 2000000) (m:zk):znC (l,m,()) = some (zE2 l m):=by
 simp only [znC]
 refine (bnd (zpa (zpj hl))).trans ?_
 unfold zE2
 cases l.all zad with
 | false=>rfl
 | true =>
  refine (cT rfl).trans ?_
  refine (bnd (zE1 m)).trans ?_
  cases zx5 m with
  | false=>rfl
  | true =>
   refine (cT rfl).trans ?_
   refine (bnd (zzi _)).trans ?_
   cases zdL m.2.2.2.2.1 with
   | false=>rfl
   | true =>
    refine (cT rfl).trans ?_
    refine (bnd (znG (zgV hl))).trans ?_
    exact bnd (zNY hl _)
def isM (l:List zk) (i to:Int):Bool:=decide (0 ≤ i ∧ i < (l.length:Int)) && ((ix qj l i).1 && ((ix qj l i).2.2.2.1:Int) == to)
theorem zKx {l:List zk} {i to:Int} (h:isM l i to = true):0 ≤ i ∧ i < (l.length:Int):=by
 simp only [isM,Bool.and_eq_true,decide_eq_true_eq] at h; exact h.1
abbrev zRa:zk:=(false,0,0,0,ByteArray.mk #[],())
def zE3 (l:List zk) (i to:Int):zk × Int × Unit:=bif isM l i to then (ix qj l i,0,()) else (zRa,3,())
theorem zQI (l:List zk) (i to:Int):isM l i to = (zAL l i && ((ix qj l i).2.2.2.1:Int) == to):=by
 unfold isM zAL
 rw [Bool.and_assoc]
theorem zDh {l:List zk} (hl:l.length ≤ 2000000) (i to:Int):zkq (l,i,to,()) = some (zE3 l i to):=by
 simp only [zkq]
 refine (bnd (znG (zgV hl))).trans ?_
 refine (bnd (zNX l i)).trans ?_
 unfold zE3
 rw [zQI]
 cases h:zAL l i with
 | false=>rfl
 | true =>
  have hi:=zQH h
  refine (cT rfl).trans ?_
  refine (ixR hi).trans ?_
  show cond (!(((ix qj l i).2.2.2.1:Int) == to)) _ _ = _
  cases ((ix qj l i).2.2.2.1:Int) == to with
  | false=>rfl
  | true =>
   refine (cF rfl).trans ?_
   exact ixR hi
def zkQ (l:List zk) (i to:Int):List zk × Int × Unit:=bif l.all zad then bif isM l i to then (List.set l i.toNat (ze zu),0,()) else ([],3,()) else ([],1,())
theorem zL6 {l:List zk} (hl:l.length ≤ 2000000) (i to:Int):zlY (l,i,to,()) = some (zkQ l i to):=by
 simp only [zlY]
 refine (bnd (zpa (zpj hl))).trans ?_
 unfold zkQ
 cases l.all zad with
 | false=>rfl
 | true =>
  refine (cT rfl).trans ?_
  refine (bnd (zDh hl i to)).trans ?_
  unfold zE3
  cases h:isM l i to with
  | false=>rfl
  | true =>
   refine (cF rfl).trans ?_
   refine (bnd (znG (zgV hl))).trans ?_
   exact bnd (zDf (zgV hl) (zKx h) _)
def toP (to:Int) (x:zk):Bool:=x.1 && (x.2.2.2.1:Int) == to
theorem zL7 {l:List zk} {z:Int} (hz:0 ≤ z ∧ z < (l.length:Int)) (to:Int):y0 (z,some l,some to,()) = some (!(((l.getD z.toNat qj).2.2.2.1:Int) == to),()):=by
 simp only [y0]
 refine (bnd (a:=l) rfl).trans ?_
 refine (ixR hz).trans ?_
 refine (bnd (a:=to) rfl).trans ?_
 show cond (!(((l.getD z.toNat qj).2.2.2.1:Int) == to)) _ _ = _
 cases ((l.getD z.toNat qj).2.2.2.1:Int) == to <;> rfl
theorem zPd {l:List zk} (hl:l.length ≤ 1000000) (to:Int):zmq (l,to,()) = some (z8 (toP to) 0 l,()):=by
 simp only [zmq]
 refine (bnd (znG (zgV (by omega)))).trans ?_
 refine (bnd (zKw (zgV (by omega)) zAK)).trans ?_
 have hm:=zkL (p:=fun x:zk=>x.1) l 0
 have hlen:=zhx (p:=fun x:zk=>x.1) l 0
 have hp:∀ z ∈ z8 (fun x:zk=>x.1) 0 l,y0 (z,some l,some to,()) = some (!(((l.getD z.toNat qj).2.2.2.1:Int) == to),()):=fun z hz=>by
  obtain ⟨j,rfl,h1,h2⟩:=hm z hz
  exact zL7 (by omega) to
 have e:=zDg (p:=fun x:zk=>x.1) (q:=fun x:zk=>(x.2.2.2.1:Int) == to) qj l l 0 (fun j _=>by rw [Nat.zero_add])
 have hf:zNg (fun z=>y0 (z.1,some l,some to,())) (z8 (fun x:zk=>x.1) 0 l) = some (z8 (toP to) 0 l):=by
  unfold zNg
  refine (cT (List.all_eq_true.2 fun z hz=>by show (y0 (z,some l,some to,())).isSome = true; rw [hp z hz]; rfl)).trans ?_
  refine (cT (decide_eq_true (by omega))).trans ?_
  show some _ = some (z8 (fun x=>x.1 && (x.2.2.2.1:Int) == to) 0 l)
  rw [← e]
  congr 1
  refine List.filter_congr fun z hz=>?_
  show (!zjD (fun z=>y0 (z.1,some l,some to,())) z) = _
  unfold zjD
  rw [show (fun z:Int × Unit=>y0 (z.1,some l,some to,())) (z,()) = _ from hp z hz]
  exact Bool.not_not _
 exact bnd hf
theorem zt0 (l:List zk) (i to:Int):zg8 (l,i,to,()) = some (isM l i to,()):=by
 rw [zB]
 simp only [zg8]
 unfold isM
 by_cases h:0 ≤ i ∧ i < (l.length:Int)
 ·rw [decide_eq_true h,Bool.true_and]
  refine (cT (decide_eq_true (show i ≥ 0 from h.1))).trans ?_
  refine (cT (decide_eq_true (show i < (l.length:Int) from h.2))).trans ?_
  refine (ixR h).trans ?_
  cases (ix qj l i).1 with
  | false=>rfl
  | true =>
   refine (cT rfl).trans ?_
   refine (ixR h).trans ?_
   cases ((ix qj l i).2.2.2.1:Int) == to <;> rfl
 ·rw [decide_eq_false h,Bool.false_and]
  by_cases h0:i ≥ 0
  ·refine (cT (decide_eq_true h0)).trans ?_
   exact cF (decide_eq_false (show ¬ i < (l.length:Int) by omega))
  ·exact cF (decide_eq_false h0)
theorem zKy {l:List zk} (hl:l.length ≤ 2000000) (i to:Int):zkr (l,i,to,()) = some (zkQ l i to):=by
 simp only [zkr]
 refine (bnd (zm7 (zpj hl))).trans ?_
 unfold zkQ
 cases l.all zad with
 | false=>rfl
 | true =>
  refine (cT rfl).trans ?_
  refine (bnd (zt0 l i to)).trans ?_
  cases h:isM l i to with
  | false=>rfl
  | true =>
   refine (cT rfl).trans ?_
   refine (cT (decide_eq_true (by have:=zgV hl; omega))).trans ?_
   exact ixR (n:=l.length) (zKx h)
theorem zL8 {l:List zk} (hl:l.length ≤ 2000000) (m:zk):zlV (l,m,()) = some (zE2 l m):=by
 simp only [zlV,zlU]
 refine (bnd (zm7 (zpj hl))).trans ?_
 unfold zE2
 cases l.all zad with
 | false=>rfl
 | true =>
  refine (cT rfl).trans ?_
  refine (bnd (zlZ _)).trans ?_
  unfold zx5
  cases qn m.2.1 with
  | false=>rfl
  | true =>
   refine (cT rfl).trans ?_
   refine (bnd (zlZ _)).trans ?_
   cases qn m.2.2.1 with
   | false=>rfl
   | true =>
    refine (cT rfl).trans ?_
    refine (bnd (zlZ _)).trans ?_
    cases qn m.2.2.2.1 with
    | false=>rfl
    | true =>
     refine (cT rfl).trans ?_
     refine (bnd (zo9 _)).trans ?_
     cases zdL m.2.2.2.2.1 with
     | false=>rfl
     | true =>
      refine (cT rfl).trans ?_
      refine (cT (decide_eq_true (by have:=zgV hl; omega))).trans ?_
      show zmU K0 (0,(true,m.2),l) = some (zf4 l (true,m.2))
      have:=zaT (α:=Unit) (B:=zfB) (zpj hl) (fun i _=>(i,(true,m.2),l)) (fun i _=>some (bif decide (qK (fun x:zk=>!x.1) (l.drop i) (i:Int) < 0) then ([],0,8,()) else (List.set l (qK (fun x:zk=>!x.1) (l.drop i) (i:Int)).toNat (true,m.2),qK (fun x:zk=>!x.1) (l.drop i) (i:Int),0,()))) (fun _ _=>True) (fun k i _ hi _ hk=>by
       have hk':=hk () trivial
       have e:((i + 1:Nat):Int) = (i:Int) + 1:=by omega
       rw [e] at hk'
       simp only [zfB]
       rw [ltT hi,zj hi,zE,yi qj hi]
       simp only [cond_true,qK]
       by_cases h:(l.getD i qj).1 = true
       ·simp only [h,cond_true,Bool.not_true,cond_false]
        exact hk'
       ·simp only [Bool.not_eq_true] at h
        simp only [h,cond_false,Bool.not_false,cond_true]
        rw [zj hi,decide_eq_false (by omega)]
        rfl) (fun k _ _=>by
       simp only [zfB]
       rw [ltF,List.drop_of_length_le (Nat.le_refl _)]
       rfl) () trivial
      exact this
theorem zN1 {l:List zk} (hl:l.length ≤ 1000000) (to:Int):ztK (l,to,()) = some (z8 (toP to) 0 l,()):=by
 have hl':l.length ≤ Go.maxLen:=by unfold Go.maxLen; omega
 have:=zaT (B:=zgL) (α:=List Int) hl' (fun i o=>(l,to,i,o)) (fun i o=>some (o ++ z8 (toP to) i (l.drop i),())) (fun i o=>o.length ≤ i) (fun k i o hi hI hk=>by
  have e:isM l (i:Int) to = toP to (l.getD i qj):=by
   unfold isM toP
   rw [decide_eq_true (p:=0 ≤ (i:Int) ∧ (i:Int) < (l.length:Int)) (by omega),Bool.true_and,zE]
  simp only [zgL]
  rw [ltT hi,zhH,yi qj hi]
  simp only [cond_true,z8]
  refine (bnd (zt0 l (i:Int) to)).trans ?_
  rw [e]
  cases toP to (l.getD i qj) with
  | false=>exact hk o (by omega)
  | true =>
   refine (cT rfl).trans ?_
   refine (cT (zOY (by simp; omega))).trans ?_
   refine (hk _ (by simp; omega)).trans ?_
   simp) (fun k o _=>by
  simp only [zgL]
  rw [ltF,List.drop_of_length_le (Nat.le_refl _)]
  simp [z8]) [] (Nat.le_refl _)
 exact this
end Go.Proofs.YtkcakhbkoeimdaaGreatDoor
end
section
namespace Go.Proofs.YtkcakhbkoeimdaaGreatDoor
open Go.Ev
abbrev qs (s:zb) (p:Int):List zk:=(ix zf s.2.1 p).2.2.2.1
abbrev zP6 (s:zb) (p:Int) (l:List zk):zb:=upd s p (u3 (ix zf s.2.1 p) l)
theorem Ctx.at_ {r:zd} {s:zb} {me:pMe} (x:Ctx r s me) {p:Int} (hp:jb r p = true):0 ≤ p ∧ p < (s.2.1.length:Int):=by
 obtain ⟨hb,hz,-⟩:=jS x.rs
 have:=(zaR hb hz).shelves
 simp only [jb,decide_eq_true_eq] at hp
 omega
theorem Ctx.lab {r:zd} {s:zb} {me:pMe} (x:Ctx r s me):jb r me.2.1 = true:=by
 obtain ⟨hb,hz,-⟩:=jS x.rs
 have h1:=(zaR hb hz).shelves
 have:=x.hi
 simp only [jb,decide_eq_true_eq]
 omega
theorem Ctx.mails {r:zd} {s:zb} {me:pMe} (x:Ctx r s me) {p:Int} (hp:jb r p = true):(qs s p).length ≤ 12 ∧ (qs s p).all zad = true:=by
 obtain ⟨hb,hz,-⟩:=jS x.rs
 have hi:=x.at_ hp
 have h:=(zaR hb hz).shelf _ (zxI hi)
 have h':=x.rs
 simp only [qJ,Bool.and_eq_true,qy] at h'
 have:=(h'.2.2.2.1 p.toNat (Nat.zero_le _) (by omega)).1.1
 simp only [qT,Bool.and_eq_true] at this
 exact ⟨h.2.2.2.1,this.2.2.2.1⟩
theorem zQJ {r:zd} (hb:qS r = true) {p:Int} (hp:jb r p = true):qn p = true:=by
 have:=(j9 hb).labels
 simp only [jb,qn,decide_eq_true_eq] at hp ⊢
 omega
theorem zpk {r:zd} {s:zb} {me:pMe} (x:Ctx r s me):zd1 (s,me,()) = some (qs s me.2.1,()):=by
 simp only [zd1]
 exact ixR x.hi
abbrev zgp (me:pMe) (who:Int) (text:ByteArray):zk:=(false,me.2.1,me.2.2.1,who,text,())
def zt1 (s:zb) (me:pMe) (p:Int) (v:List zk × Int × Int × Unit):zb × Int × Unit:=bif v.2.2.1 == 0 then (zP6 s p v.1,0,()) else bif v.2.2.1 == 2 then (zpi,2,()) else bif p == me.2.1 then (zpi,8,()) else (s,0,())
def zt2 (r:zd) (s:zb) (me:pMe) (p who:Int) (text:ByteArray):zb × Int × Unit :=
 bif qJ r s && vp r me then bif jb r p && jW r who then bif zkN r me.2.1 p then zt1 s me p (bif zdL text then zf4 (qs s p) (true,(zgp me who text).2) else ([],0,2,())) else (zpi,5,()) else (zpi,1,()) else (zpi,1,())
theorem zKz (l:List zk) (m:zk):(zf4 l m).2.2.1 = 0 ∨ (zf4 l m).2.2.1 = 8:=by
 unfold zf4
 cases decide (zfn l < 0)
 ·exact .inl rfl
 ·exact .inr rfl
theorem zPe {r:zd} {p who:Int} {ρ:Type} {x y:ρ} (h:(jb r p && jW r who) = false):(bif decide (p < 0) then x else bif decide (p ≥ (r.1.length:Int)) then x else bif decide (who < 0) then x else bif decide (who ≥ (r.2.2.1.length:Int)) then x else y) = x:=by
 simp only [jb,jW] at h
 grind
theorem zMD {r:zd} {p who:Int} {ρ:Type} {x y:ρ} (h:(jb r p && jW r who) = true):(bif decide (p < 0) then x else bif decide (p ≥ (r.1.length:Int)) then x else bif decide (who < 0) then x else bif decide (who ≥ (r.2.2.1.length:Int)) then x else y) = y:=by
 simp only [jb,jW,Bool.and_eq_true,decide_eq_true_eq] at h
 rw [decide_eq_false (by omega),decide_eq_false (by omega),decide_eq_false (by omega),decide_eq_false (by omega)]
 rfl
theorem zFG {r:zd} {s:zb} {me:pMe} (x:Ctx r s me) {p who:Int} (hp:jb r p = true) (hw:jW r who = true) (text:ByteArray):zE2 (qs s p) (zgp me who text) = bif zdL text then zf4 (qs s p) (true,(zgp me who text).2) else ([],0,2,()):=by
 have hb:=(jS x.rs).1
 unfold zE2 zx5
 rw [(x.mails hp).2]
 show (bif qn me.2.1 && (qn me.2.2.1 && qn who) then _ else _) = _
 rw [zQJ hb x.lab,zMC hb x.who,zMC hb hw]
 rfl
theorem zL9 {r:zd} {s:zb} {me:pMe} (hr:qi r) (hs:jg s) (p who:Int) (text:ByteArray):zdx (r,s,me,p,who,text,()) = some (zt2 r s me p who text):=by
 simp only [zdx]
 refine (bnd (zkP hr hs me)).trans ?_
 unfold zt2
 cases h:qJ r s && vp r me with
 | false=>rfl
 | true =>
  simp only [Bool.and_eq_true] at h
  have x:Ctx r s me:=⟨h.1,h.2⟩
  have hb:=(jS x.rs).1
  refine (cT rfl).trans ?_
  cases h4:jb r p && jW r who with
  | false=>exact zPe h4
  | true =>
   refine (zMD h4).trans ?_
   simp only [Bool.and_eq_true] at h4
   refine (bnd (zL1 hr hb _ _)).trans ?_
   show cond (zkN r me.2.1 p) _ _ = _
   cases zkN r me.2.1 p with
   | false=>rfl
   | true =>
    refine (cT rfl).trans ?_
    refine (ixR (x.at_ h4.1)).trans ?_
    refine (bnd (zN0 (l:=qs s p) (Nat.le_trans (x.mails h4.1).1 (by omega)) (zgp me who text))).trans ?_
    rw [zFG x h4.1 h4.2]
    refine (bnd (ziQ (zMz x.rs))).trans ?_
    show _ = some (zt1 s me p _)
    unfold zt1
    cases ht:zdL text with
    | false=>rfl
    | true =>
     rw [cond_true]
     show cond ((zf4 (qs s p) (true,(zgp me who text).2)).2.2.1 == 0) _ _ = _
     have he:=zKz (qs s p) (true,(zgp me who text).2)
     generalize zf4 (qs s p) (true,(zgp me who text).2) = v at he ⊢
     rcases he with he | he
     ·rw [he]
      refine (cT rfl).trans ?_
      exact ixR (x.at_ h4.1)
     ·rw [he]
      refine (cF rfl).trans ?_
      refine (cF rfl).trans ?_
      show cond (p == me.2.1) (some (zpi,8,())) (some (s,0,())) = some (cond (p == me.2.1) (zpi,8,()) (s,0,()))
      cases p == me.2.1 <;> rfl
theorem zKA {r:zd} {s:zb} {me:pMe} (hr:qi r) (hs:jg s) (p who:Int) (text:ByteArray):zkC (r,s,me,p,who,text,()) = some (zt2 r s me p who text):=by
 simp only [zkC]
 refine (bnd (zl1 hr hs me)).trans ?_
 unfold zt2
 cases h:qJ r s && vp r me with
 | false=>rfl
 | true =>
  simp only [Bool.and_eq_true] at h
  have x:Ctx r s me:=⟨h.1,h.2⟩
  have hb:=(jS x.rs).1
  refine (cT rfl).trans ?_
  cases h4:jb r p && jW r who with
  | false=>exact zPe h4
  | true =>
   refine (zMD h4).trans ?_
   simp only [Bool.and_eq_true] at h4
   refine (bnd (zrr hr _ _)).trans ?_
   show cond (zkN r me.2.1 p) _ _ = _
   cases zkN r me.2.1 p with
   | false=>rfl
   | true =>
    refine (cT rfl).trans ?_
    refine (bnd (zo9 text)).trans ?_
    cases ht:zdL text with
    | false=>rfl
    | true =>
     refine (cT rfl).trans ?_
     refine (ixR (x.at_ h4.1)).trans ?_
     refine (bnd (zL8 (l:=qs s p) (Nat.le_trans (x.mails h4.1).1 (by omega)) (zgp me who text))).trans ?_
     rw [zFG x h4.1 h4.2,ht,cond_true]
     show cond ((zf4 (qs s p) (true,(zgp me who text).2)).2.2.1 == 0) _ _ = some (zt1 s me p _)
     unfold zt1
     have he:=zKz (qs s p) (true,(zgp me who text).2)
     generalize zf4 (qs s p) (true,(zgp me who text).2) = v at he ⊢
     rcases he with he | he
     ·rw [he]
      refine (cT rfl).trans ?_
      exact bnd (zPa (zgV (Nat.le_trans x.count (by omega))) (x.at_ h4.1))
     ·rw [he]
      refine (cF rfl).trans ?_
      show cond (p == me.2.1) (some (zpi,8,())) (some (s,0,())) = some (cond (p == me.2.1) (zpi,8,()) (s,0,()))
      cases p == me.2.1 <;> rfl
def zt3 (s:zb) (me:pMe) (v:List zk × Int × Unit):zb × Int × Unit:=bif v.2.1 != 0 then (zpi,v.2.1,()) else (zP6 s me.2.1 v.1,0,())
def zt4 (r:zd) (s:zb) (me:pMe) (i:Int):zb × Int × Unit:=bif qJ r s && vp r me then zt3 s me (zkQ (qs s me.2.1) i me.2.2.1) else (zpi,1,())
theorem zMa {r:zd} {s:zb} {me:pMe} (hr:qi r) (hs:jg s) (i:Int):zfS (r,s,me,i,()) = some (zt4 r s me i):=by
 simp only [zfS]
 refine (bnd (zkP hr hs me)).trans ?_
 unfold zt4
 cases h:qJ r s && vp r me with
 | false=>rfl
 | true =>
  simp only [Bool.and_eq_true] at h
  have x:Ctx r s me:=⟨h.1,h.2⟩
  refine (cT rfl).trans ?_
  refine (bnd (zpk x)).trans ?_
  refine (bnd (zL6 (Nat.le_trans (x.mails x.lab).1 (by omega)) i me.2.2.1)).trans ?_
  show _ = some (zt3 s me _)
  unfold zt3
  cases he:(zkQ (qs s me.2.1) i me.2.2.1).2.1 != 0 with
  | true=>exact cT rfl
  | false =>
   refine (cF rfl).trans ?_
   refine (bnd (ziQ (zMz x.rs))).trans ?_
   exact ixR x.hi
theorem zKB {r:zd} {s:zb} {me:pMe} (hr:qi r) (hs:jg s) (i:Int):zkD (r,s,me,i,()) = some (zt4 r s me i):=by
 simp only [zkD]
 refine (bnd (zl1 hr hs me)).trans ?_
 unfold zt4
 cases h:qJ r s && vp r me with
 | false=>rfl
 | true =>
  simp only [Bool.and_eq_true] at h
  have x:Ctx r s me:=⟨h.1,h.2⟩
  refine (cT rfl).trans ?_
  refine (ixR x.hi).trans ?_
  refine (bnd (zKy (l:=qs s me.2.1) (Nat.le_trans (x.mails x.lab).1 (by omega)) i me.2.2.1)).trans ?_
  show _ = some (zt3 s me _)
  unfold zt3
  cases he:(zkQ (qs s me.2.1) i me.2.2.1).2.1 != 0 with
  | true=>exact cT rfl
  | false =>
   refine (cF rfl).trans ?_
   exact bnd (zPa (zgV (Nat.le_trans x.count (by omega))) x.hi)
def zs4 (r:zd) (s:zb) (me:pMe) (i:Int):zk × Int × Unit:=bif qJ r s && vp r me then zE3 (qs s me.2.1) i me.2.2.1 else (zRa,1,())
theorem zHv {r:zd} {s:zb} {me:pMe} (hr:qi r) (hs:jg s) (i:Int):zfK (r,s,me,i,()) = some (zs4 r s me i):=by
 simp only [zfK]
 refine (bnd (zkP hr hs me)).trans ?_
 unfold zs4
 cases h:qJ r s && vp r me with
 | false=>rfl
 | true =>
  simp only [Bool.and_eq_true] at h
  have x:Ctx r s me:=⟨h.1,h.2⟩
  refine (cT rfl).trans ?_
  refine (bnd (zpk x)).trans ?_
  exact bnd (zDh (Nat.le_trans (x.mails x.lab).1 (by omega)) i me.2.2.1)
theorem zE4 {r:zd} {s:zb} {me:pMe} (hr:qi r) (hs:jg s) (i:Int):zhr (r,s,me,i,()) = some (zs4 r s me i):=by
 simp only [zhr]
 refine (bnd (zl1 hr hs me)).trans ?_
 unfold zs4
 cases h:qJ r s && vp r me with
 | false=>rfl
 | true =>
  simp only [Bool.and_eq_true] at h
  have x:Ctx r s me:=⟨h.1,h.2⟩
  refine (cT rfl).trans ?_
  refine (ixR x.hi).trans ?_
  refine (bnd (zt0 (qs s me.2.1) i me.2.2.1)).trans ?_
  show cond (isM (qs s me.2.1) i me.2.2.1) _ _ = some (zE3 _ _ _)
  unfold zE3
  cases hi:isM (qs s me.2.1) i me.2.2.1 with
  | false=>rfl
  | true =>
   refine (cT rfl).trans ?_
   exact ixR (zKx hi)
def zN2 (s:zb) (me:pMe):List Int:=z8 (toP me.2.2.1) 0 (qs s me.2.1)
theorem zKC {r:zd} {s:zb} {me:pMe} (hr:qi r) (hs:jg s):zgO (r,s,me,()) = some (bif qJ r s && vp r me then (zN2 s me,0,()) else ([],1,())):=by
 simp only [zgO]
 refine (bnd (zkP hr hs me)).trans ?_
 cases h:qJ r s && vp r me with
 | false=>rfl
 | true =>
  simp only [Bool.and_eq_true] at h
  have x:Ctx r s me:=⟨h.1,h.2⟩
  refine (cT rfl).trans ?_
  refine (bnd (zpk x)).trans ?_
  exact bnd (zPd (Nat.le_trans (x.mails x.lab).1 (by omega)) me.2.2.1)
end Go.Proofs.YtkcakhbkoeimdaaGreatDoor
end
section
namespace Go.Proofs.YtkcakhbkoeimdaaGreatDoor
open Go.Ev
theorem zFH:zfL () = some (true,()):=by
 simp only [zfL,zdx,zfS,zo2,zP3]
 kernel_rfl
end Go.Proofs.YtkcakhbkoeimdaaGreatDoor
end
section
namespace Go.Proofs.YtkcakhbkoeimdaaGreatDoor
open Go.Ev
theorem zFI {s:zb} (h:zfm s) {i:Int} {l:List zk} (hl:l.length * 48 ≤ 140737488355328):zfm (zP6 s i l):=by
 have a:=zQD h i
 exact zP4 h ⟨a.rooms,a.exits,a.items,hl,a.trades,a.purses,a.places⟩
theorem zP7 (l:List zk) (m:zk):(zf4 l m).1.length ≤ l.length:=by
 unfold zf4
 cases decide (zfn l < 0) <;> simp
theorem zPf (l:List zk) (i to:Int):(zkQ l i to).1.length ≤ l.length:=by
 unfold zkQ
 cases l.all zad <;> cases isM l i to <;> simp
theorem zPg {r:zd} {s:zb} (hf:zfm s) (me:pMe) (p who:Int) (text:ByteArray):zfm (zt2 r s me p who text).1:=by
 unfold zt2
 cases h:qJ r s && vp r me with
 | false=>exact zjb
 | true =>
  simp only [Bool.and_eq_true] at h
  have x:Ctx r s me:=⟨h.1,h.2⟩
  cases h4:jb r p && jW r who with
  | false=>exact zjb
  | true =>
   simp only [Bool.and_eq_true] at h4
   cases zkN r me.2.1 p with
   | false=>exact zjb
   | true =>
    have hm:=(x.mails h4.1).1
    show zfm (zt1 s me p (bif zdL text then zf4 (qs s p) (true,(zgp me who text).2) else ([],0,2,()))).1
    have hv:(bif zdL text then zf4 (qs s p) (true,(zgp me who text).2) else ([],0,2,())).1.length ≤ 12:=by
     cases zdL text with
     | false=>exact Nat.zero_le _
     | true=>exact Nat.le_trans (zP7 _ _) hm
    generalize (bif zdL text then zf4 (qs s p) (true,(zgp me who text).2) else ([],0,2,())) = v at hv
    unfold zt1
    cases v.2.2.1 == 0 with
    | true=>exact zFI hf (by omega)
    | false =>
     cases v.2.2.1 == 2 with
     | true=>exact zjb
     | false =>
      cases p == me.2.1 with
      | true=>exact zjb
      | false=>exact hf
theorem zPh {r:zd} {s:zb} (hf:zfm s) (me:pMe) (i:Int):zfm (zt4 r s me i).1:=by
 unfold zt4
 cases h:qJ r s && vp r me with
 | false=>exact zjb
 | true =>
  simp only [Bool.and_eq_true] at h
  have x:Ctx r s me:=⟨h.1,h.2⟩
  have hm:=(x.mails x.lab).1
  have hv:=Nat.le_trans (zPf (qs s me.2.1) i me.2.2.1) hm
  show zfm (zt3 s me (zkQ (qs s me.2.1) i me.2.2.1)).1
  unfold zt3
  cases (zkQ (qs s me.2.1) i me.2.2.1).2.1 != 0 with
  | true=>exact zjb
  | false=>exact zFI hf (by omega)
theorem zQK {r:zd} {s:zb} {me:pMe} (x:Ctx r s me):(zN2 s me).length ≤ 2000000:=Nat.le_trans (zhx _ _) (Nat.le_trans (x.mails x.lab).1 (by omega))
theorem x_TalkMails {r:zd} {s:zb} (hr:qi r) (hs:jg s) (hf:zfm s) {me:pMe} {x:znX}:P_law31_TalkMails (r,s,me,x,()) = some (true,()):=by
 have hS:∀ t:zb,zfm t→vn (t,t,()) = some (true,()):=fun t ht=>by rw [zKr (zPc ht),zNW]
 have hb:∀ z:Int,(z == z) = true:=fun z=>beq_self_eq_true (α:=Int) z
 have hm:∀ m:zk,eqI zu m m = true:=fun m=>znU (τ:=zu) rfl m
 simp only [P_law31_TalkMails]
 refine (bnd (ziQ hf)).trans ?_
 refine (bnd (zL9 hr hs x.1 x.2.1 x.2.2.2.2.1)).trans ?_
 refine (bnd (zKA hr hs x.1 x.2.1 x.2.2.2.2.1)).trans ?_
 refine (bnd (zMa hr hs x.2.2.1)).trans ?_
 refine (bnd (zKB hr hs x.2.2.1)).trans ?_
 refine (bnd (zHv hr hs x.2.2.1)).trans ?_
 refine (bnd (zE4 hr hs x.2.2.1)).trans ?_
 refine (bnd (zKC hr hs)).trans ?_
 refine (bnd (zl1 hr hs me)).trans ?_
 have h1:=hS _ (zPg (r:=r) hf me x.1 x.2.1 x.2.2.2.2.1)
 have h2:=hS _ (zPh (r:=r) hf me x.2.2.1)
 have h3:=hS s hf
 generalize zt2 r s me x.1 x.2.1 x.2.2.2.2.1 = v1 at h1 ⊢
 generalize zt4 r s me x.2.2.1 = v2 at h2 ⊢
 generalize zs4 r s me x.2.2.1 = v3
 cases h:qJ r s && vp r me with
 | false =>
  refine (cF rfl).trans ?_
  refine (cF rfl).trans ?_
  refine (cF rfl).trans ?_
  refine (bnd zFH).trans ?_
  refine (cT rfl).trans ?_
  refine (bnd h1).trans ?_
  refine (cT rfl).trans ?_
  refine (cT (hb _)).trans ?_
  refine (bnd h2).trans ?_
  refine (cT rfl).trans ?_
  refine (cT (hb _)).trans ?_
  refine (cT (hm _)).trans ?_
  refine (cT (hb _)).trans ?_
  refine (bnd h3).trans ?_
  rfl
 | true =>
  simp only [Bool.and_eq_true] at h
  have c:Ctx r s me:=⟨h.1,h.2⟩
  refine (cT rfl).trans ?_
  refine (cF rfl).trans ?_
  refine (ixR c.hi).trans ?_
  refine (bnd (zN1 (l:=qs s me.2.1) (Nat.le_trans (c.mails c.lab).1 (by omega)) me.2.2.1)).trans ?_
  have e1:zd4 (zN2 s me,zN2 s me,()) = some (true,()):=by
   rw [zQ9 (zpj (zQK c)),zay (τ:=tI) rfl]
  refine (bnd e1).trans ?_
  refine (cT rfl).trans ?_
  refine (bnd zFH).trans ?_
  refine (cT rfl).trans ?_
  refine (bnd h1).trans ?_
  refine (cT rfl).trans ?_
  refine (cT (hb _)).trans ?_
  refine (bnd h2).trans ?_
  refine (cT rfl).trans ?_
  refine (cT (hb _)).trans ?_
  refine (cT (hm _)).trans ?_
  refine (cT (hb _)).trans ?_
  refine (bnd h3).trans ?_
  rfl
end Go.Proofs.YtkcakhbkoeimdaaGreatDoor
end
section
namespace Go.Proofs.YtkcakhbkoeimdaaGreatDoor.fnTalkMails
open Go.ChangeShapes Go.WideShapes Go.ChangeAt Go.RowKit Go.Ev
abbrev tab:List Int:=[0,1,56,2,57,49,28,3,61,58,42,50,38,29,17,4,62,47,59,36,45,43,51,22,53,39,33,30,24,18,12,5,63,55,48,27,60,41,37,16,46,35,44,21,52,32,23,11,54,26,40,15,34,20,31,10,25,14,19,9,13,8,7,6]
theorem own:ownKnob Tryz.prog.godebug = none:=by kernel_rfl
theorem gTab:Tryz.prog.globalNamed "math/bits.deBruijn64tab" = some 0:=by kernel_rfl
theorem gTabType:(Tryz.prog.globals[0]?).map (·.type) = some 309:=by kernel_rfl
theorem cellsA:Tryz.prog.cellsOf 309 = 64:=by kernel_rfl
theorem cellsE:Tryz.prog.cellsOf 5 = 1:=by kernel_rfl
theorem undA:Tryz.prog.underlying 309 = some (.array 64 5):=by kernel_rfl
theorem undE:Tryz.prog.underlying 5 = some (.int .u8):=by kernel_rfl
theorem table {W:World} (h:laidMetH Tryz.prog Rows.talkMailsRow.laid W):Lib.TabIs Tryz.prog W "math/bits.deBruijn64tab" .u8 tab :=
 Lib.tabIs_of_head gTab gTabType undA undE cellsE cellsA h
theorem cell_FH {W:World} {j:Nat} {v:Value} (h:W.cell? ⟨0,j,none⟩ = some v):∃ c,FH.of W 0 = some c ∧ c[j]? = some v:=by
 unfold World.cell? at h
 simp only at h
 split at h
 ·rename_i c el fz hk
  exact ⟨c,by simp [FH.of,hk],by simpa using h⟩
 ·cases h
def cellsL:List Int→List Value:=List.map (Value.int .u8)
theorem repL (P:Program) (F:FH):∀ l:List Int,RepL (Rep P F (.int .u8)) l (cellsL l)
 | []=>rfl
 | x :: l=>⟨[.int .u8 x],cellsL l,rfl,rfl,repL P F l⟩
theorem extOk:∀ f add,Ev.look ext f = some add→ExtOk Tryz.prog f add:=by
 intro f add h
 have h':(Nat.beq 350 f = true ∧ add = false) ∨ (Nat.beq 368 f = true ∧ add = true):=by
  simp only [ext,Ev.look] at h
  cases h1:Nat.beq 350 f with
  | true=>rw [h1] at h; exact .inl ⟨rfl,(Option.some.inj h).symm⟩
  | false =>
   rw [h1] at h
   cases h2:Nat.beq 368 f with
   | true=>rw [h2] at h; exact .inr ⟨rfl,(Option.some.inj h).symm⟩
   | false=>rw [h2] at h; cases h
 rcases h' with ⟨h1,rfl⟩ | ⟨h1,rfl⟩
 ·obtain rfl:=Nat.eq_of_beq_eq_true h1
  intro x y w hx hy hy2
  obtain ⟨m,rfl⟩:=Int.eq_ofNat_of_zero_le hx
  obtain ⟨n,rfl⟩:=Int.eq_ofNat_of_zero_le hy
  rw [run_callFunc_extern (P:=Tryz.prog) (f:=350) Tryz.func350 (by kernel_rfl) (by kernel_rfl) (by kernel_rfl) (e:=sub64Entry) (by kernel_rfl)]
  have h0:(sub64Entry #[.int .u64 (m:Int),.int .u64 (n:Int),.int .u64 0]).run Tryz.prog w = .ok (.tuple #[.int .u64 (((m + 18446744073709551616 - n - 0) % 18446744073709551616:Nat):Int),.int .u64 ((if m < n + 0 then 1 else 0:Nat):Int)]) w:=run_sub64 m n 0 (by omega) w
  have e1:extA false (m:Int) (n:Int) = (((m + 18446744073709551616 - n - 0) % 18446744073709551616:Nat):Int):=by
   show ((m:Int) - (n:Int)) % 18446744073709551616 = _
   omega
  have e2:extB false (m:Int) (n:Int) = ((if m < n + 0 then 1 else 0:Nat):Int):=by
   show cond (decide ((m:Int) < (n:Int))) 1 0 = _
   by_cases h:m < n
   ·rw [decide_eq_true (by omega),if_pos (by omega)]; rfl
   ·rw [decide_eq_false (by omega),if_neg (by omega)]; rfl
  rw [h0,e1,e2]
  rfl
 ·obtain rfl:=Nat.eq_of_beq_eq_true h1
  intro x y w hx hy hy2
  rw [run_callFunc_extern (P:=Tryz.prog) (f:=368) Tryz.func368 (by kernel_rfl) (by kernel_rfl) (by kernel_rfl) (e:=add64Entry) (by kernel_rfl),run_add64 x y 0 hx hy (by omega) (by omega),Int.add_zero]
  rfl
theorem env {W:World} (hL:laidMetH Tryz.prog Rows.talkMailsRow.laid W):EnvOk Tryz.prog (FH.of W) E0:=by
 refine EnvOk.nil (by kernel_rfl) (fun g v hv=>?_) extOk
 have ht:=table hL
 obtain ⟨c,hc,-⟩:=cell_FH (ht.cell gTab 0 (by decide))
 have hg:g = 0:=by
  have hv2:Ev.look glob g = some v:=hv
  simp only [glob,Ev.look] at hv2
  cases hb:Nat.beq 0 g with
  | true=>exact (Nat.eq_of_beq_eq_true hb).symm
  | false=>rw [hb] at hv2; cases hv2
 subst hg
 have hv':some (AV.dat (.ptr (.arr 64 (.int .u8))) (some tab)) = some v:=hv
 cases hv'
 refine ⟨.arr 64 (.int .u8),tab,cellsL tab,rfl,⟨rfl,c,hc,fun j v hj=>?_⟩,⟨rfl,repL _ _ tab⟩⟩
 have hj':j < tab.length:=by
  have:=List.getElem?_eq_some_iff.1 hj
  obtain ⟨h,-⟩:=this
  simpa [cellsL] using h
 obtain ⟨c',hc',h0⟩:=cell_FH (ht.cell gTab j hj')
 rw [hc] at hc'
 obtain rfl:=Option.some.inj hc'
 have:(cellsL tab)[j]? = some (.int .u8 (tab.getD j 0)):=by
  unfold cellsL
  rw [List.getElem?_map,List.getD_eq_getElem?_getD,List.getElem?_eq_getElem hj']; rfl
 rw [this] at hj
 rw [← hj]
 show c[0 + j]? = _
 rw [Nat.zero_add]; exact h0
set_option maxRecDepth 100000 in
theorem contract (H:Type) (enc:TypeId × Value→H) (W:World) (base:Nat) (args:Array Value) (ds gs:List (DataW H)) (before:List MemPlace)
 (hval:∀ (j:Nat) t v,Tryz.f3.params[j]? = some t→args[j]? = some v→Value.okWide Tryz.prog W .any base t v)
 (hW:DataW.Whole enc Tryz.prog Tryz.f3.params.toList Rows.talkMailsSpec.vars false W args.toList ds gs before) (hL:laidMetH Tryz.prog Rows.talkMailsRow.laid W) {us:List TypeId} (hz:(DataW.weightsEach Tryz.prog (Tryz.f3.params.toList ++ us) (ds ++ gs)).all (· ≤ reachBytes) = true) :
 Calls Tryz.prog 3 args W fun e W'=>∃ v,e = .returned v ∧ Rows.talkMailsSpec.post enc Tryz.prog Tryz.f3 false true false false W args v W':=by
 refine law_contractW (a:=A_law31_TalkMails) (tb:=4) (by kernel_rfl) (by decide +kernel) (by kernel_rfl) (by kernel_rfl) (by kernel_rfl) rfl (fun ds hd=>?_) hval hW fun x hx hbk hwt hr=>?_
 ·have:Tryz.f3.params.size = 4:=by kernel_rfl
  rw [this] at hd
  match ds,hd with
  | [d1,d2,d3,d4],_=>rfl
 ·have hs:=s_law31_TalkMails (FH.of W) (env hL)
  have hwt:=hwt fun n hn=>of_decide_eq_true (List.all_eq_true.1 hz n (wEach_left hn))
  have he:P_law31_TalkMails x = some (true,()):=by
   obtain ⟨r,s,m,x,⟨⟩⟩:=x
   exact x_TalkMails (realmIn hx.1) (stateIn hx.2.1) (wt_fits hwt.2.1)
  have hc:=hs.2 x (true,()) he (FH.of W) W args.toList (FH.le.refl _) (FH.of_ok W) hr
  refine hc.mono fun e W' he=>?_
  obtain ⟨us,F',h1,h2,_,_,h3⟩:=he
  refine ⟨?_,h2⟩
  obtain ⟨v,r,hus,hv,hva,hnil⟩:=(show RepA Tryz.prog F' (.pair .bool .unit) (true,()) us from h3)
  have hr0:r = []:=hnil
  subst hr0
  have hv':v.cells.toList = [.bool true]:=hv
  rw [h1,hus]
  have hva':isAggV v = false:=hva
  have:v = .bool true:=by
   cases v <;> first | (simp [isAggV] at hva'; done) | (simp [Value.cells] at hv'; exact congrArg _ hv') | (simp [Value.cells] at hv')
  rw [this]
  rfl
def putC (l:List Value):Obj→Obj
 | .cells _ t frozen=>.cells l.toArray t frozen
 | o=>o
noncomputable def laidWorld (os:Os):World :=
 { World.holding Tryz.prog os ⟨#[],#[],[]⟩ with heap:=(((World.holding Tryz.prog os ⟨#[],#[],[]⟩).heap.modify 0 (putC (cellsL tab))).modify 1 (putC (cellsL (Pinned.utf8FirstZ.map fun n:Nat=>(n:Int))))).modify 2 (putC (cellsL [128,191,160,191,128,159,144,191,128,143,0,0,0,0,0,0,0,0,0,0,0,0,0,0,0,0,0,0,0,0,0,0])) }
def arg0:Value:=.agg #[.slice none 0 0,.slice none 0 0,.slice none 0 0,.slice none 0 0,.slice none 0 0,.int .i64 0,.int .i64 0,.int .i64 0,.int .i64 0]
def arg1:Value:=.agg #[.int .u64 0,.slice none 0 0,.slice none 0 0,.slice none 0 0,.slice none 0 0,.slice none 0 0]
def arg2:Value:=.agg #[.int .i64 0,.int .i64 0,.int .i64 0]
def arg3:Value:=.agg #[.int .i64 0,.int .i64 0,.int .i64 0,.int .i64 0,.string ⟨#[]⟩]
theorem laid_met (os:Os):laidMet Tryz.prog Rows.talkMailsRow.laid ((laidWorld os).forCall (fun _ _=>0) ⟨#[],#[arg0,arg1,arg2,arg3],[]⟩).memory :=
 laidMet_of_run' 8 (by kernel_rfl) (by kernel_rfl)
theorem reads (os:Os) {H:Type} (enc:TypeId × Value→H):∃ places,DataW.whole enc Tryz.prog ((laidWorld os).forCall (fun _ _=>0) ⟨#[],#[arg0,arg1,arg2,arg3],[]⟩).memory Tryz.f3.params.toList Rows.talkMailsSpec.vars false #[arg0,arg1,arg2,arg3].toList 8 = some ([.agg [.nil,.nil,.nil,.nil,.nil,.lit (.int .i64 0),.lit (.int .i64 0),.lit (.int .i64 0),.lit (.int .i64 0)],.agg [.lit (.int .u64 0),.nil,.nil,.nil,.nil,.nil],.agg [.lit (.int .i64 0),.lit (.int .i64 0),.lit (.int .i64 0)],.agg [.lit (.int .i64 0),.lit (.int .i64 0),.lit (.int .i64 0),.lit (.int .i64 0),.lit (.string [])]],[],places) :=
 ⟨[],by kernel_rfl⟩
set_option maxRecDepth 100000 in
theorem lifted (os:Os) (started:os.Started) (H:Type) (enc:TypeId × Value→H) (F:Stop.Interp) :
 ReturnsInHanded {} Tryz.checked os 3 .any ((OpenSpec.ofChange Rows.talkMailsSpec).preRow enc Tryz.prog Tryz.f3 Rows.talkMailsRow.domain false Rows.talkMailsRow.laid) (((OpenSpec.ofChange Rows.talkMailsSpec).at F).post enc Tryz.prog Tryz.f3 false true false false):=by
 obtain ⟨places,hx⟩:=reads os enc
 refine returnsInHanded_of_row (C:=Tryz.checked) (s:=OpenSpec.ofChange Rows.talkMailsSpec) own started (by kernel_rfl) Tryz.func3
  (witness_row_at (enc:=enc) (C:=Tryz.checked) false (laidWorld os) #[arg0,arg1,arg2,arg3] rfl (by kernel_rfl) (by kernel_rfl) (by kernel_rfl)
   (OpenSpec.preRow_of_cond 8 hx (by kernel_rfl) (fun k hk=>by cases hk) (by kernel_rfl) (laid_met os))) ?_
 intro W base args ds gs before hval hW _ _ hz hL _ _
 exact contract H enc W base args ds gs before hval hW hL hz
end Go.Proofs.YtkcakhbkoeimdaaGreatDoor.fnTalkMails
end
section
namespace Go.Proofs.YtkcakhbkoeimdaaGreatDoor.fnTalkMails
open Go.ChangeShapes Go.WideShapes Go.ChangeAt Go.RowKit Go.Ev
theorem k2:laidOutB Tryz.prog = true:=by kernel_rfl
theorem k3:mapsRowed Tryz.prog = true:=by kernel_rfl
theorem k10:(Rows.talkMailsRow.inPlace == Tryz.prog.inPlace 3) = true:=by kernel_rfl
theorem k11:(Rows.talkMailsRow.unfollowed == Tryz.prog.unfollowed 3) = true:=by kernel_rfl
theorem k12:(Rows.talkMailsRow.recurses == Tryz.prog.recurses 3) = true:=by kernel_rfl
theorem k13:(Rows.talkMailsRow.named == Tryz.prog.varsNamed 3) = true:=by kernel_rfl
theorem k23:(Rows.talkMailsRow.plainKeys == Tryz.prog.plainKeys) = true:=by kernel_rfl
theorem k24:Tryz.prog.stopsHeard = true:=by kernel_rfl
theorem k25:Tryz.prog.mayEnter = true:=by kernel_rfl
theorem k26:(Rows.talkMailsRow.lifted == Tryz.prog.liftsFinal) = true:=by kernel_rfl
theorem k27:(Tryz.prog.make == some Rows.talkMailsRow.make) = true:=by kernel_rfl
theorem closed0:joinedFacts Tryz.prog 3 Tryz.f3 (OpenSpec.ofChange Rows.talkMailsSpec).bare Rows.talkMailsRow = true:=by
 unfold joinedFacts
 rw [k2,k3,k10,k11,k12,k13,k23,k24,k25,k26,k27]
 kernel_rfl
theorem peq:Tryz.pinned.checked.prog = Tryz.prog:=by kernel_rfl
theorem closed:joinedFacts Tryz.pinned.checked.prog 3 Tryz.f3 (OpenSpec.ofChange Rows.talkMailsSpec).bare Rows.talkMailsRow = true:=by
 rw [peq]; exact closed0
end Go.Proofs.YtkcakhbkoeimdaaGreatDoor.fnTalkMails
end
