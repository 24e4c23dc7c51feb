import Derived.Test.YtkcakhbkoeimdaaGreatDoorMde
import Derived.Shelf.Spec.BitsCarry
import Derived.WideShapes
import Derived.Laws.Strings
import Derived.Test.YtkcakhbkoeimdaaGreatDoorCards
import Derived.Test.YtkcakhbkoeimdaaGreatDoorTie
import Derived.ProofKit
import Derived.OpenShut
import Derived.Deep.DeepHandedRow
import Derived.Lib.LaidTab
set_option linter.unusedVariables false
set_option linter.unusedSimpArgs false
section
namespace Go.Proofs.YtkcakhbkoeimdaaGreatDoor
open Go.Ev
theorem zNe {ρ:Type} (u v:Int) (x y:ρ):(bif u != v then y else x) = bif u == v then x else y:=by
 show (bif !(u == v) then y else x) = _
 exact zNd _ _
structure zzo (x:zi):Prop where
 rooms:x.1.length ≤ Go.maxLen
 exits:x.2.1.length ≤ Go.maxLen
 items:x.2.2.1.length ≤ Go.maxLen
 mails:x.2.2.2.1.length ≤ Go.maxLen
 trades:x.2.2.2.2.1.length ≤ Go.maxLen
 purses:x.2.2.2.2.2.1.length ≤ Go.maxLen
 places:x.2.2.2.2.2.2.1.length ≤ Go.maxLen
structure zMJ (s:zd):Prop where
 shelves:s.2.1.length ≤ Go.maxLen
 ranks:s.2.2.1.length ≤ Go.maxLen
 orders:s.2.2.2.1.length ≤ Go.maxLen
 entries:s.2.2.2.2.1.length ≤ Go.maxLen
 seats:s.2.2.2.2.2.1.length ≤ Go.maxLen
 shelf:∀ x ∈ s.2.1,zzo x
 rank:∀ l ∈ s.2.2.1,l.length ≤ Go.maxLen
def yn (a b:zi):Bool:=eqL qn a.1 b.1 && (eqL z4 a.2.1 b.2.1 && (eqL zZ a.2.2.1 b.2.2.1 && (eqL zu a.2.2.2.1 b.2.2.2.1 && (eqL zz a.2.2.2.2.1 b.2.2.2.2.1 && (eqL (.arr 4 tU) a.2.2.2.2.2.1 b.2.2.2.2.2.1 && (eqL zR a.2.2.2.2.2.2.1 b.2.2.2.2.2.2.1 && (eqI (.arr 4 tU) a.2.2.2.2.2.2.2.1 b.2.2.2.2.2.2.2.1 && eqI (.arr 4 tU) a.2.2.2.2.2.2.2.2.1 b.2.2.2.2.2.2.2.2.1)))))))
def y6 (a b:zd):Bool:=(a.1:Int) == b.1 && (eqW yn a.2.1 b.2.1 && (eqW (eqL tI) a.2.2.1 b.2.2.1 && (eqL zq a.2.2.2.1 b.2.2.2.1 && (eqL zy a.2.2.2.2.1 b.2.2.2.2.1 && eqL tI a.2.2.2.2.2.1 b.2.2.2.2.2.1))))
theorem yT {r:za} {l:List (List Int)} (h:vn r l = true):l.length = r.2.2.2.1.length ∧ ∀ g,g < r.2.2.2.1.length→(l.getD g []).length = r.2.2.1.length:=by
 simp only [vn,Bool.and_eq_true,decide_eq_true_eq,qE] at h
 refine ⟨h.1,fun g hg=>?_⟩
 have:=h.2 g (by omega) (by omega)
 simp only [zqb,Bool.and_eq_true,decide_eq_true_eq] at this
 exact this.1
theorem zT {r:za} {s:zd} (h:zS r s = true):zG r = true ∧ ziZ r s = true ∧ zb2 r s = true:=by
 simp only [zS,Bool.and_eq_true] at h
 exact ⟨h.1,h.2.1,h.2.2.1⟩
theorem zhb:∀ {τ:Ty},τ.eqIn = true→∀ x:τ.I,eqI τ x x = true:=by
 intro τ
 induction τ with
 | unit=>intro _ _; rfl
 | bool=>intro _ x; exact beq_self_eq_true x
 | int k=>intro _ x; exact beq_self_eq_true (α:=Int) x
 | str=>intro _ x; exact beq_self_eq_true _
 | pair a b iha ihb =>
  intro h x
  simp only [Ty.eqIn,Bool.and_eq_true] at h
  simp only [eqI,iha h.1,ihb h.2,cond_true]
 | st a ih=>intro h x; exact ih h x
 | arr n a ih =>
  intro h x
  simp only [eqI,List.all_eq_true]
  intro p hp
  have:p.1 = p.2:=by
   obtain ⟨i,hi,rfl⟩:=List.mem_iff_getElem.1 hp
   rw [List.getElem_zip]
  rw [this]
  exact ih h _
 | _=>intro h; cases h
theorem zLg {α:Type} {p:α→α→Bool} (h:∀ x,p x x = true) (l:List α):eqW p l l = true:=by
 simp only [eqW,decide_true,Bool.true_and,List.all_eq_true]
 intro q hq
 have:q.1 = q.2:=by
  obtain ⟨i,hi,rfl⟩:=List.mem_iff_getElem.1 hq
  rw [List.getElem_zip]
 rw [this]; exact h _
theorem yU {τ:Ty} (h:τ.eqIn = true) (l:List τ.I):eqL τ l l = true:=zLg (zhb h) l
theorem zt8 (x:zi):yn x x = true:=by
 simp only [yn,Bool.and_eq_true]
 exact ⟨yU (τ:=qn) rfl _,yU (τ:=z4) rfl _,yU (τ:=zZ) rfl _,yU (τ:=zu) rfl _,yU (τ:=zz) rfl _,yU (τ:=.arr 4 tU) rfl _,yU (τ:=zR) rfl _,zhb (τ:=.arr 4 tU) rfl _,zhb (τ:=.arr 4 tU) rfl _⟩
end Go.Proofs.YtkcakhbkoeimdaaGreatDoor
end
section
namespace Go.Proofs.YtkcakhbkoeimdaaGreatDoor
open Go.Ev
structure zzp (x:zi):Prop where
 rooms:x.1.length * 24 ≤ 140737488355328
 exits:x.2.1.length * 48 ≤ 140737488355328
 items:x.2.2.1.length * 56 ≤ 140737488355328
 mails:x.2.2.2.1.length * 48 ≤ 140737488355328
 trades:x.2.2.2.2.1.length * 72 ≤ 140737488355328
 purses:x.2.2.2.2.2.1.length * 32 ≤ 140737488355328
 places:x.2.2.2.2.2.2.1.length * 16 ≤ 140737488355328
structure zt9 (s:zd):Prop where
 shelves:s.2.1.length * 232 ≤ 140737488355328
 ranks:s.2.2.1.length * 24 ≤ 140737488355328
 orders:s.2.2.2.1.length * 80 ≤ 140737488355328
 entries:s.2.2.2.2.1.length * 80 ≤ 140737488355328
 seats:s.2.2.2.2.2.1.length * 8 ≤ 140737488355328
 shelf:∀ x ∈ s.2.1,zzp x
 rank:∀ l ∈ s.2.2.1,l.length * 8 ≤ 140737488355328
theorem zFq {α:Type} {l:List α} {i:Nat} {d:α} (h:i < l.length):List.set l i (l.getD i d) = l:=by
 rw [List.getD_eq_getElem?_getD,List.getElem?_eq_getElem h]
 exact List.set_getElem_self h
theorem zeG {s:zd} (h:zt9 s):qR (s,()) = some (s,()):=by
 have hmm:140737488355328 ≤ Go.maxLen:=by unfold Go.maxLen; omega
 have h1:=h.shelves
 have h2:=h.ranks
 have h3:=h.orders
 have h4:=h.entries
 have h5:=h.seats
 have l1:zco K0 ((s.2.1.length:Int),0,s.1,0,s.2.1,0,s.2.2.1,s.2.2.1.length,s.2.2.2.1,s.2.2.2.2.1,s.2.2.2.2.2.1,[],0,[],0,[],[],[]) = some (s,()) :=
  jS (α:=Unit) (B:=zcn) (len:=s.2.1.length) (by omega) (fun i _=>((s.2.1.length:Int),i,s.1,0,s.2.1,i.toNat,s.2.2.1,s.2.2.1.length,s.2.2.2.1,s.2.2.2.2.1,s.2.2.2.2.2.1,[],0,[],0,[],[],[])) (fun _ _=>some (s,())) (fun _ _=>True) (fun k i _ hi _ hk=>by
   have hx:=h.shelf _ (zU (d:=zg) hi)
   have e1:=hx.rooms
   have e2:=hx.exits
   have e3:=hx.items
   have e4:=hx.mails
   have e5:=hx.trades
   have e6:=hx.purses
   have e7:=hx.places
   have hk':=hk () trivial
   have hw:wI ((i:Int) + 1) = (i:Int) + 1:=zx2 hi (by omega)
   simp only [zcn]
   rw [ltT hi,zC hi,qe]
   simp only [Int.toNat_natCast,Nat.le_refl,decide_true,cond_true]
   rw [zEW (by omega),zEX (by omega),zEY (by omega),zt4 (by omega),zr5 (by omega),zIs (by omega),zGG (by omega)]
   simp only [Option.bind_some]
   rw [zC hi]
   refine Eq.trans ?_ hk'
   have hs:List.set s.2.1 i (s.2.1.getD i zg) = s.2.1:=zFq hi
   have ht:(wI ((i:Int) + 1)).toNat = i + 1:=by rw [hw]; omega
   rw [ht]
   exact congrArg (fun l=>k ((s.2.1.length:Int),wI ((i:Int) + 1),s.1,0,l,i + 1,s.2.2.1,s.2.2.1.length,s.2.2.2.1,s.2.2.2.2.1,s.2.2.2.2.2.1,[],0,[],0,[],[],[])) hs) (fun k _ _=>by
   simp only [zcn]
   rw [ltF]
   simp only [Int.toNat_natCast,decide_true,cond_true,cond_false]) () trivial
 have l0:ziA K0 ((s.2.2.1.length:Int),0,s.1,s.2.1,0,s.2.2.1,0,s.2.2.2.1,s.2.2.2.2.1,s.2.2.2.2.2.1,[],0,[],0,[],[],[]) = some (s,()) :=
  jS (α:=Unit) (B:=fun k0=>zaq (zco K0) k0) (len:=s.2.2.1.length) (by omega) (fun i _=>((s.2.2.1.length:Int),i,s.1,s.2.1,0,s.2.2.1,i.toNat,s.2.2.2.1,s.2.2.2.2.1,s.2.2.2.2.2.1,[],0,[],0,[],[],[])) (fun _ _=>some (s,())) (fun _ _=>True) (fun k i _ hi _ hk=>by
   have hx:=h.rank _ (zU (d:=([]:List Int)) hi)
   have hk':=hk () trivial
   have hw:wI ((i:Int) + 1) = (i:Int) + 1:=zx2 hi (by omega)
   simp only [zaq]
   rw [ltT hi,zC hi]
   simp only [Int.toNat_natCast,Nat.le_refl,decide_true,cond_true]
   rw [zoW (by omega)]
   simp only [Option.bind_some]
   rw [zC hi]
   refine Eq.trans ?_ hk'
   have hs:List.set s.2.2.1 i (s.2.2.1.getD i []) = s.2.2.1:=zFq hi
   have ht:(wI ((i:Int) + 1)).toNat = i + 1:=by rw [hw]; omega
   rw [ht,hs]) (fun k _ _=>by
   simp only [zaq]
   rw [ltF,zCF (by omega)]
   simp only [Int.toNat_natCast,Option.bind_some,cond_false]
   exact l1) () trivial
 simp only [qR,zgZ]
 rw [zr4 (by omega),zCE (by omega),zoW (by omega),zEV (by omega)]
 simp only [Option.bind_some]
 exact l0
end Go.Proofs.YtkcakhbkoeimdaaGreatDoor
end
section
namespace Go.Proofs.YtkcakhbkoeimdaaGreatDoor
open Go.Ev
structure At (s:zd) (i w:Int):Prop where
 hi:0 ≤ i ∧ i < (s.2.1.length:Int)
 hw:0 ≤ w ∧ w < (((ix zg s.2.1 i).2.2.2.2.2.1.length:Nat):Int)
theorem zkL {s:zd} {i:Int} (hi:0 ≤ i ∧ i < (s.2.1.length:Int)):ix zg s.2.1 i ∈ s.2.1:=zU (by omega)
theorem zMZ {r:za} {s:zd} (h:zS r s = true) {i w:Int} (hi:qc r i = true) (hw:qy r w = true):At s i w:=by
 obtain ⟨hb,hz,-⟩:=zT h
 have sz:=vO hb hz
 have hsl:=sz.shelves
 simp only [qc,qy,decide_eq_true_eq] at hi hw
 have h1:0 ≤ i ∧ i < (s.2.1.length:Int):=by omega
 have h2:=(sz.shelf _ (zkL h1)).2.2.2.2.2.1
 exact ⟨h1,by omega⟩
theorem zMK {r:za} (hb:zG r = true) {x:pMe} (hm:jD r x = true):qc r x.2.1 = true:=by
 simp only [zG,zkJ,Bool.and_eq_true,decide_eq_true_eq,List.all_eq_true] at hb
 simp only [jD,Bool.and_eq_true,decide_eq_true_eq,beq_iff_eq] at hm
 have:=hb.2.1.2 _ (zU (d:=(0:Int)) (i:=x.1.toNat) (by omega))
 rw [← hm.2.1] at this
 simp only [qc,decide_eq_true_eq]
 exact this
theorem zM0 {r:za} {s:zd} (h:zS r s = true) {x:pMe} (hm:jD r x = true):At s x.2.1 x.2.2.1:=by
 have hw:qy r x.2.2.1 = true:=by
  simp only [jD,Bool.and_eq_true] at hm; exact hm.2.2
 exact zMZ h (zMK (zT h).1 hm) hw
end Go.Proofs.YtkcakhbkoeimdaaGreatDoor
end
section
namespace Go.Proofs.YtkcakhbkoeimdaaGreatDoor
open Go.Ev
theorem bnd {α β:Type} {x:Option α} {a:α} {f:α→Option β} (h:x = some a):Option.bind x f = f a:=by rw [h]; rfl
theorem cT {α:Type} {b:Bool} {x y:α} (h:b = true):cond b x y = x:=by rw [h]; rfl
theorem cF {α:Type} {b:Bool} {x y:α} (h:b = false):cond b x y = y:=by rw [h]; rfl
theorem geF {n:Nat} {i:Int} {ρ:Type} {x y:ρ} (h:0 ≤ i ∧ i < (n:Int)):cond (decide (n ≤ Int.toNat i)) x y = y:=cF (decide_eq_false (by omega))
abbrev upd (s:zd) (i:Int) (h:zi):zd:=u1 s (List.set s.2.1 (Int.toNat i) h)
theorem zeM {α:Type} {l:List α} {i:Nat} {x d:α} (h:i < l.length):(List.set l i x).getD i d = x:=by
 rw [List.getD_eq_getElem?_getD,List.getElem?_set_self h]; rfl
theorem getD_set_ne {α:Type} {l:List α} {i j:Nat} {x d:α} (h:i ≠ j):(List.set l i x).getD j d = l.getD j d:=by
 rw [List.getD_eq_getElem?_getD,List.getElem?_set_ne h,List.getD_eq_getElem?_getD]
def zHo (x:zi):Bool:=decide (x.1.length * 24 ≤ 140737488355328) && (decide (x.2.1.length * 48 ≤ 140737488355328) && (decide (x.2.2.1.length * 56 ≤ 140737488355328) && (decide (x.2.2.2.1.length * 48 ≤ 140737488355328) && (decide (x.2.2.2.2.1.length * 72 ≤ 140737488355328) && (decide (x.2.2.2.2.2.1.length * 32 ≤ 140737488355328) && decide (x.2.2.2.2.2.2.1.length * 16 ≤ 140737488355328))))))
def zDa (s:zd):Bool:=decide (s.2.1.length * 232 ≤ 140737488355328) && (decide (s.2.2.1.length * 24 ≤ 140737488355328) && (decide (s.2.2.2.1.length * 80 ≤ 140737488355328) && (decide (s.2.2.2.2.1.length * 80 ≤ 140737488355328) && (decide (s.2.2.2.2.2.1.length * 8 ≤ 140737488355328) && (s.2.1.all zHo && s.2.2.1.all fun l=>decide (l.length * 8 ≤ 140737488355328))))))
theorem zLh {s:zd} (h:zDa s = true):zt9 s:=by
 simp only [zDa,Bool.and_eq_true,decide_eq_true_eq,List.all_eq_true] at h
 obtain ⟨h1,h2,h3,h4,h5,h6,h7⟩:=h
 refine ⟨h1,h2,h3,h4,h5,fun x hx=>?_,h7⟩
 have:=h6 x hx
 simp only [zHo,Bool.and_eq_true,decide_eq_true_eq] at this
 obtain ⟨a,b,c,d,e,f,g⟩:=this
 exact ⟨a,b,c,d,e,f,g⟩
noncomputable def zKg (x:zd × Unit):Option (zd × Unit):=bif zDa x.1 then some x else qR x
theorem zLi:qR = zKg:=by
 funext ⟨s,u⟩
 cases u
 unfold zKg
 cases h:zDa s with
 | true=>exact zeG (zLh h)
 | false=>rfl
theorem zGS {x:zi} (h:zzp x):zzo x:=by
 have hm:140737488355328 ≤ Go.maxLen:=by unfold Go.maxLen; omega
 obtain ⟨e1,e2,e3,e4,e5,e6,e7⟩:=h
 exact ⟨by omega,by omega,by omega,by omega,by omega,by omega,by omega⟩
theorem zKh {s:zd} (h:zt9 s):zMJ s:=by
 have hm:140737488355328 ≤ Go.maxLen:=by unfold Go.maxLen; omega
 obtain ⟨e1,e2,e3,e4,e5,e6,e7⟩:=h
 exact ⟨by omega,by omega,by omega,by omega,by omega,fun x hx=>zGS (e6 x hx),fun l hl=>by have:=e7 l hl; omega⟩
theorem wf_u64 {x:Int} (h:(Lit.int .u64 x).wf = true):ze9 x:=by
 unfold Lit.wf at h
 simp only [Bool.and_eq_true,decide_eq_true_eq] at h
 have e1:IntKind.min .u64 = 0:=by decide
 have e2:IntKind.max .u64 = 18446744073709551615:=by decide
 rw [e1,e2] at h
 exact ⟨h.1,Int.lt_of_le_of_lt h.2 (by decide)⟩
theorem realmIn {r:za} (h:InR zl r):zO r:=by
 obtain ⟨hl,h2⟩:=h
 refine ⟨fun a ha=>?_,h2.2.2.1.1,h2.2.2.2.1.1⟩
 have h3:(Lit.int .u64 a.2.1).wf = true:=(hl.2 a ha).2.1
 exact wf_u64 h3
theorem zFr {a:List Int} (h:InR (.arr 4 tU) a):zrg a:=fun x hx=>wf_u64 (h.2 x hx)
theorem zHp {x:zly} (h:InR zd2 x):ze9 x.2.1:=wf_u64 (show (Lit.int .u64 x.2.1).wf = true from h.2.1)
theorem zL3 {x:zi} (h:InR zp x):zlV x:=by
 obtain ⟨-,-,-,-,h5,h6,-,h8,h9,-⟩:=h
 refine ⟨fun t ht=>?_,fun a ha=>zFr (h6.2 a ha),zFr h8,zFr h9⟩
 obtain ⟨-,-,-,g1,g2,-⟩:=h5.2 t ht
 exact ⟨zHp g1,zHp g2⟩
theorem zL4 {x:zr} (h:InR zq x):zlT x:=by
 obtain ⟨-,-,-,-,-,-,h7,h8,h9,-⟩:=h
 exact ⟨wf_u64 h7,wf_u64 h8,wf_u64 h9⟩
theorem zL5 {x:zH} (h:InR zy x):zuF x:=by
 obtain ⟨-,-,-,-,-,-,-,h8,h9,-⟩:=h
 exact ⟨wf_u64 h8,wf_u64 h9⟩
theorem stateIn {s:zd} (h:InR zx s):qH s:=by
 obtain ⟨-,h2,-,h4,h5,-⟩:=h
 exact ⟨fun x hx=>zL3 (h2.2 x hx),fun x hx=>zL4 (h4.2 x hx),fun x hx=>zL5 (h5.2 x hx)⟩
def zhu:zd:=(0,[],[],[],[],[],())
theorem zi4 {n:Nat} (h:n ≤ 2000000):n ≤ lim:=by unfold lim; omega
theorem zua {n:Nat} (h:n ≤ 2000000):n ≤ Go.maxLen:=by unfold Go.maxLen; omega
theorem zqg {r:za} {s:zd} (h:zS r s = true):zt9 s:=by
 obtain ⟨hb,hz,hp⟩:=zT h
 have ok:=qj hb
 have sz:=vO hb hz
 have h1:=ok.labels
 have h2:=ok.lines
 have h3:=ok.accounts
 have h4:=sz.shelves
 have h5:=sz.orders
 have h6:=sz.entries
 have h7:=sz.people
 have h8:=ok.guilds
 have hh:vn r s.2.2.1 = true:=by simp only [zb2,Bool.and_eq_true] at hp; exact hp.1
 have hr:=yT hh
 refine ⟨by omega,by omega,by omega,by omega,by omega,fun x hx=>?_,fun l hl=>?_⟩
 ·have:=sz.shelf x hx
  exact ⟨by omega,by omega,by omega,by omega,by omega,by omega,by omega⟩
 ·obtain ⟨i,hi,rfl⟩:=List.mem_iff_getElem.1 hl
  have:=hr.2 i (by omega)
  rw [List.getD_eq_getElem?_getD,List.getElem?_eq_getElem hi] at this
  have this:(s.2.2.1[i]).length = _:=this
  omega
end Go.Proofs.YtkcakhbkoeimdaaGreatDoor
end
section
namespace Go.Proofs.YtkcakhbkoeimdaaGreatDoor
open Go.Ev
theorem zqh {α:Type} {p:α→Bool}:∀ (l:List α) (i:Int),0 ≤ i→qu p l i = -1 ∨ (i ≤ qu p l i ∧ qu p l i < i + l.length)
 | [],_,_=>.inl rfl
 | x :: l,i,h=>by
  simp only [qu]
  cases p x with
  | true=>right; simp only [cond_true,List.length_cons]; omega
  | false =>
   simp only [cond_false,List.length_cons]
   rcases zqh (p:=p) l (i + 1) (by omega) with e | e
   ·exact .inl e
   ·right; omega
def toV (x:qb) (h:zuy):qb:=(x.1,x.2.1,h.1,h.2.1,h.2.2.1,())
end Go.Proofs.YtkcakhbkoeimdaaGreatDoor
end
section
namespace Go.Proofs.YtkcakhbkoeimdaaGreatDoor
open Go.Ev
abbrev zHq (s:zd) (me:pMe):List qb:=(ix zg s.2.1 me.2.1).2.2.1
abbrev zqi (s:zd) (i w:Int):j9:=List.getD (ix zg s.2.1 i).2.2.2.2.2.2.1 (Int.toNat w) (ze zR)
abbrev zFs (s:zd) (me:pMe):j9:=zqi s me.2.1 me.2.2.1
structure Ctx (r:za) (s:zd) (me:pMe):Prop where
 rs:zS r s = true
 im:jD r me = true
theorem Ctx.hi {r:za} {s:zd} {me:pMe} (x:Ctx r s me):0 ≤ me.2.1 ∧ me.2.1 < (s.2.1.length:Int):=(zM0 x.rs x.im).hi
theorem Ctx.shelf {r:za} {s:zd} {me:pMe} (x:Ctx r s me):(ix zg s.2.1 me.2.1).2.2.1.length ≤ 12 ∧ (ix zg s.2.1 me.2.1).2.2.2.2.2.2.1.length = r.2.2.1.length:=by
 obtain ⟨hb,hz,-⟩:=zT x.rs
 have h:=(vO hb hz).shelf _ (zkL x.hi)
 exact ⟨h.2.2.1,h.2.2.2.2.2.2⟩
theorem Ctx.small {r:za} {s:zd} {me:pMe} (x:Ctx r s me):(zHq s me).length ≤ 2000000:=Nat.le_trans x.shelf.1 (by omega)
theorem Ctx.who {r:za} {s:zd} {me:pMe} (x:Ctx r s me):qy r me.2.2.1 = true:=by
 have:=x.im
 simp only [jD,Bool.and_eq_true] at this; exact this.2.2
theorem Ctx.slots {r:za} {s:zd} {me:pMe} (x:Ctx r s me):(zHq s me).all ziX = true:=by
 have h:=x.rs
 have hi:=x.hi
 simp only [zS,Bool.and_eq_true,qE] at h
 have:=(h.2.2.2.1 me.2.1.toNat (Nat.zero_le _) (by omega)).1.1
 simp only [jB,Bool.and_eq_true] at this
 exact this.2.2.1
theorem zuG {r:za} (hb:zG r = true) {w:Int} (hw:qy r w = true):qW w = true:=by
 have:=(qj hb).accounts
 simp only [qy,qW,decide_eq_true_eq] at hw ⊢
 omega
end Go.Proofs.YtkcakhbkoeimdaaGreatDoor
end
section
namespace Go.Proofs.YtkcakhbkoeimdaaGreatDoor
open Go.Ev
theorem Ctx.items {r:za} {s:zd} {me:pMe} (x:Ctx r s me) {i:Nat} (hi:i < s.2.1.length):(s.2.1.getD i zg).2.2.1.length ≤ 12 ∧ (s.2.1.getD i zg).2.2.1.all ziX = true:=by
 obtain ⟨hb,hz,-⟩:=zT x.rs
 have h:=(vO hb hz).shelf _ (zU (d:=zg) hi)
 have h':=x.rs
 simp only [zS,Bool.and_eq_true,qE] at h'
 have:=(h'.2.2.2.1 i (Nat.zero_le _) (by omega)).1.1
 simp only [jB,Bool.and_eq_true] at this
 exact ⟨h.2.2.1,this.2.2.1⟩
theorem Ctx.count {r:za} {s:zd} {me:pMe} (x:Ctx r s me):s.2.1.length ≤ 8:=by
 obtain ⟨hb,hz,-⟩:=zT x.rs
 have h1:=(vO hb hz).shelves
 have h2:=(qj hb).labels
 omega
theorem zML {a b:List Int} (hl:a.length ≤ Go.maxLen):qF (a,b,()) = some (eqL tI a b,()):=zt7 (p:=eqI tI) fun h=>by
 have:=zxf (B:=zdw) (0:Int) (eqI tI) (fun i=>(a,b,i)) hl h (fun k i hi=>by
  simp only [zdw]
  rw [ltT hi,zC hi,zC (by omega),qe,qe,zNe]; rfl) (fin:=true) (fun k=>by simp only [zdw]; rw [ltF]; rfl)
 rw [Bool.and_true] at this; exact this
end Go.Proofs.YtkcakhbkoeimdaaGreatDoor
end
section
namespace Go.Proofs.YtkcakhbkoeimdaaGreatDoor
open Go.Ev
theorem zrl {s:zd} {i:Int} {h:zi} (hi:0 ≤ i ∧ i < (s.2.1.length:Int)) (k:Nat):(upd s i h).2.1.getD k zg = if i.toNat = k then h else s.2.1.getD k zg:=by
 by_cases hk:i.toNat = k
 ·rw [if_pos hk,← hk]; exact zeM (by omega)
 ·rw [if_neg hk]; exact getD_set_ne hk
theorem zAS (s:zd) (i:Int) (h:zi):(upd s i h).2.1.length = s.2.1.length:=List.length_set ..
structure zNf (r:za) (s:zd) (i:Int) (x:zi) (l:List qb):Prop where
 len:l.length = x.2.2.1.length
 ok:l.all ziX = true
 below:l.all (zdV r s i) = true
 who:l.all (zqe r) = true
 deals:zm2 (u2 x l) = true
theorem zFt {α:Type} (f:α→Int) (d:α):∀ (l:List α) (i:Nat) (x:α),i < l.length→qz ((List.set l i x).map f) = qz (l.map f) - f (l.getD i d) + f x
 | [],_,_,h=>by cases h
 | y :: l,0,x,_=>by
  show f x + qz (l.map f) = f y + qz (l.map f) - f y + f x
  omega
 | y :: l,i + 1,x,h=>by
  have:=zFt f d l i x (by simpa using h)
  show f y + qz ((List.set l i x).map f) = f y + qz (l.map f) - f (l.getD i d) + f x
  omega
theorem zAT {α:Type} {p:α→Bool} {l:List α} {k:Nat} {y:α} (h:l.all p = true) (hy:p y = true):(List.set l k y).all p = true:=by
 rw [List.all_eq_true] at h ⊢
 intro z hz
 rcases List.mem_or_eq_of_mem_set hz with hz | rfl
 ·exact h z hz
 ·exact hy
end Go.Proofs.YtkcakhbkoeimdaaGreatDoor
end
section
namespace Go.Proofs.YtkcakhbkoeimdaaGreatDoor
open Go.Ev
theorem zLj {β:Type} {d:β} {n i:Nat} (h:i < n) (o:List β):(o ++ [d]) ++ List.replicate (n - (i + 1)) d = o ++ List.replicate (n - i) d:=by
 rw [List.append_assoc,show n - i = (n - (i + 1)) + 1 by omega,List.replicate_succ]; rfl
theorem zLk {σ β ρ:Type} {B:(σ→Option ρ)→σ→Option ρ} {n:Nat} (hn:n ≤ Go.maxLen) (d:β) (st:Int→List β→σ) (fin:List β→Option ρ) (o0:List β)
 (hin:∀ k (i:Nat) o,i < n→o.length = o0.length + i→B k (st i o) = k (st (wI (i + 1)) (o ++ [d]))) (hout:∀ k o,B k (st n o) = fin o):zk B K0 (st 0 o0) = fin (o0 ++ List.replicate n d):=by
 have:=jS (B:=B) hn st (fun i o=>fin (o ++ List.replicate (n - i) d)) (fun i o=>o.length = o0.length + i) (fun k i o hi hI h=>?_) (fun k o hI=>?_) o0 rfl
 ·simpa using this
 ·rw [hin k i o hi hI,h _ (by rw [List.length_append,hI]; simp; omega),zLj hi]
 ·rw [hout]; simp
abbrev zM1:ByteArray:=ByteArray.mk #[112,108,97,122,97]
def zaI (r:za) (q:zcb):zi:=(List.replicate q.1.toNat zuw,List.replicate q.2.1.toNat vU,List.replicate q.2.2.1.toNat zd1,List.replicate q.2.2.2.1.toNat vP,List.replicate q.2.2.2.2.1.toNat qT,List.replicate r.2.2.1.length [0,0,0,0],List.replicate r.2.2.1.length zM7,[0,0,0,0],[0,0,0,0],())
def zAU (x:zi):zi:=(x.1.set 0 (true,zM1,()),x.2)
def zom (r:za) (g:zN):List Int:=(List.replicate r.2.2.1.length 0).set g.2.1.toNat 2
def zLl (r:za):List zi:=(r.2.2.2.2.1.map (zaI r)).set 0 (zAU ((r.2.2.2.2.1.map (zaI r)).getD 0 zg))
def zc3 (r:za):zd:=(0,zLl r,r.2.2.2.1.map (zom r),List.replicate r.2.2.2.2.2.1.toNat qt,[],List.replicate r.2.1.length (-1),())
theorem zFu {q:zcb} (h:zhO q = true):(0 ≤ q.1 ∧ q.1 ≤ 12) ∧ (0 ≤ q.2.1 ∧ q.2.1 ≤ 12) ∧ (0 ≤ q.2.2.1 ∧ q.2.2.1 ≤ 12) ∧ (0 ≤ q.2.2.2.1 ∧ q.2.2.2.1 ≤ 12) ∧ (0 ≤ q.2.2.2.2.1 ∧ q.2.2.2.2.1 ≤ 12):=by
 simp only [zhO,qf,Bool.and_eq_true,decide_eq_true_eq] at h
 omega
theorem zCU {r:za} {q:zcb} (hq:zhO q = true) (ha:r.2.2.1.length ≤ 8):zgW (r,q,()) = some (zaI r q,()):=by
 simp only [zgW]
 have h:=zFu hq
 have hl:((lim:Nat):Int) = 4294967296:=rfl
 rw [hl]
 have t:∀ {p:Prop} [Decidable p],p→decide p = true:=fun h=>decide_eq_true h
 rw [t (p:=0 ≤ q.1) (by omega),t (p:=q.1 ≤ q.1) (by omega),t (p:=q.1 ≤ 4294967296) (by omega),
  t (p:=0 ≤ q.2.1) (by omega),t (p:=q.2.1 ≤ q.2.1) (by omega),t (p:=q.2.1 ≤ 4294967296) (by omega),
  t (p:=0 ≤ q.2.2.1) (by omega),t (p:=q.2.2.1 ≤ q.2.2.1) (by omega),t (p:=q.2.2.1 ≤ 4294967296) (by omega),
  t (p:=0 ≤ q.2.2.2.1) (by omega),t (p:=q.2.2.2.1 ≤ q.2.2.2.1) (by omega),t (p:=q.2.2.2.1 ≤ 4294967296) (by omega),
  t (p:=0 ≤ q.2.2.2.2.1) (by omega),t (p:=q.2.2.2.2.1 ≤ q.2.2.2.2.1) (by omega),t (p:=q.2.2.2.2.1 ≤ 4294967296) (by omega),
  t (p:=(r.2.2.1.length:Int) ≤ (r.2.2.1.length:Int)) (by omega),t (p:=(r.2.2.1.length:Int) ≤ 4294967296) (by omega),Int.toNat_natCast]
 rfl
theorem zzq {r:za} (hb:zG r = true):∀ q ∈ r.2.2.2.2.1,zhO q = true:=by
 simp only [zG,zjK,Bool.and_eq_true] at hb
 exact zxc _ _ hb.2.2.2.2.1.2.2.2
theorem zM2 {r:za} (hb:zG r = true):1 ≤ (r.2.2.2.2.1.getD 0 va).1:=by
 simp only [zG,zjK,Bool.and_eq_true,decide_eq_true_eq] at hb
 exact hb.2.2.2.2.1.2.2.1
theorem zIM {r:za} (hr:zO r) (hb:zG r = true):zlH (r,()) = some (r.2.2.2.1.map (zom r),()):=by
 have ok:=qj hb
 have ha:=ok.accounts
 have hg:=ok.guilds
 have hl:((lim:Nat):Int) = 4294967296:=rfl
 simp only [zlH,zlG,yr r hr,Option.bind_some,hb,cond_true]
 exact zaY (B:=zfB) (l:=r.2.2.2.1) (α:=List (List Int)) zD (fun i o=>o.length = i) (fun i o=>(r.2.2.2.1,(r.2.2.2.1.length:Int),i,r,o,o.length)) (fun rest o=>some (o ++ rest.map (zom r),())) (by unfold Go.maxLen; omega) (fun k i x rest o hi hI hx hm hr' hk=>by
  have hh:=ok.heads i hi
  rw [show r.2.2.2.1.getD i zD = x from hx] at hh
  have hx':List.getD r.2.2.2.1 i (ze jf) = x:=hx
  simp only [zfB]
  rw [ltT hi,zC hi,qe,hx,hl,decide_eq_true (Int.le_refl _),decide_eq_true (p:=(r.2.2.1.length:Int) ≤ 4294967296) (by omega),Int.toNat_natCast]
  simp only [cond_true]
  rw [ixR (by rw [List.length_replicate]; exact hh),zbF (by simp; omega)]
  simp only [cond_true,decide_true]
  have:=hk (o ++ [zom r x]) (by rw [List.length_append,hI]; rfl)
  rw [List.length_append] at this
  refine Eq.trans this ?_
  simp) (fun k o hI=>by
  simp only [zfB]
  rw [ltF]
  simp) [] rfl
theorem zM3 {r:za} (ok:zhP r) (o:List zi) (l:List (List Int)) (w:List zr):zeC K0 ((r.2.1.length:Int),0,0,0,[],0,[],0,[],[],[],o,o.length,l,l.length,w,[],[]) = some ((0,o,l,w,[],List.replicate r.2.1.length (-1),()),0,()):=by
 have hl:=ok.lines
 have:=zLk (B:=zeB) (n:=r.2.1.length) (by unfold Go.maxLen; omega) (-1:Int) (fun i (e:List Int)=>((r.2.1.length:Int),i,0,0,[],0,[],0,[],[],[],o,o.length,l,l.length,w,[],e)) (fun e=>some ((0,o,l,w,[],e,()),0,())) [] (fun k i e hi hI=>by
  simp only [zeB]
  rw [ltT hi,y9,zbF (by simp at hI ⊢; omega)]
  rfl) (fun k e=>by
  simp only [zeB]
  rw [ltF]
  simp only [decide_true]
  rfl)
 exact this
theorem zKi (q:zi):(q.1,q.2.1,q.2.2.1,q.2.2.2.1,q.2.2.2.2.1,q.2.2.2.2.2.1,q.2.2.2.2.2.2.1,q.2.2.2.2.2.2.2.1,q.2.2.2.2.2.2.2.2.1,()) = q:=rfl
theorem zvS {r:za} (hr:zO r):zgN (r,()) = some (bif zG r then (zc3 r,0,()) else ((0,[],[],[],[],[],()),1,())):=by
 simp only [zgN,zkb,yr r hr,Option.bind_some]
 cases hb:zG r with
 | false=>rfl
 | true =>
  have ok:=qj hb
  have ha:=ok.accounts
  have hl:=ok.labels
  have hq:=ok.quotas
  have h24:0 ≤ r.2.2.2.2.2.1 ∧ r.2.2.2.2.2.1 ≤ 24:=by
   simp only [zG,zuB,qf,Bool.and_eq_true,decide_eq_true_eq] at hb
   omega
  have hlim:((lim:Nat):Int) = 4294967296:=rfl
  rw [zIM hr hb]
  simp only [Option.bind_some,cond_true]
  rw [hlim,decide_eq_true h24.1,decide_eq_true (Int.le_refl _),decide_eq_true (p:=r.2.2.2.2.2.1 ≤ 4294967296) (by omega)]
  simp only [cond_true]
  have hall:=zzq hb
  have hloop:=zaY (B:=fun k0=>zb1 (zeC K0) k0) (l:=r.2.2.2.2.1) (α:=List zi) va (fun i o=>o.length = i)
   (fun i o=>(r.2.2.2.2.1,(r.2.2.2.2.1.length:Int),i,r,0,0,[],0,[],0,[],[],[],o,o.length,r.2.2.2.1.map (zom r),(r.2.2.2.1.map (zom r)).length,List.replicate r.2.2.2.2.2.1.toNat qt,[],[]))
   (fun rest o=>bif decide (0 < (o ++ rest.map (zaI r)).length) && decide (0 < ((o ++ rest.map (zaI r)).getD 0 zg).1.length) then some ((0,(o ++ rest.map (zaI r)).set 0 (zAU ((o ++ rest.map (zaI r)).getD 0 zg)),r.2.2.2.1.map (zom r),List.replicate r.2.2.2.2.2.1.toNat qt,[],List.replicate r.2.1.length (-1),()),0,()) else none)
   (by unfold Go.maxLen; omega) (fun k i x rest o hi hI hx hm hr' hk=>by
    have hx':List.getD r.2.2.2.2.1 i (ze zdj) = x:=hx
    simp only [zb1]
    rw [ltT hi,zC hi,qe,hx,zCU (hall x hm) ha.2]
    simp only [Option.bind_some,cond_true]
    rw [zKi,zbF (by simp; omega)]
    simp only [cond_true,decide_true]
    have:=hk (o ++ [zaI r x]) (by rw [List.length_append,hI]; rfl)
    rw [List.length_append] at this
    refine Eq.trans this ?_
    rw [List.append_assoc]; rfl) (fun k o hI=>by
    have e0:o ++ List.map (zaI r) [] = o:=by simp
    rw [e0]
    simp only [zb1]
    rw [ltF,cond_false]
    by_cases h0:0 < o.length
    ·have e1:decide (0 < ((List.length o:Nat):Int)) = true:=decide_eq_true (by omega)
     have e2:decide (o.length ≤ Int.toNat 0) = false:=decide_eq_false (by show ¬ o.length ≤ 0; omega)
     rw [e1,e2,decide_eq_true h0,zK7]
     simp only [cond_true,cond_false,Bool.true_and]
     by_cases h1:0 < (o.getD 0 zg).1.length
     ·have e3:decide (0 < ((List.length (o.getD 0 zg).1:Nat):Int)) = true:=decide_eq_true (by omega)
      rw [e3,decide_eq_true h1]
      simp only [cond_true]
      have:=zM3 (r:=r) ok (o.set 0 (zAU (o.getD 0 zg))) (r.2.2.2.1.map (zom r)) (List.replicate r.2.2.2.2.2.1.toNat qt)
      rw [List.length_set] at this
      exact this
     ·have e3:decide (0 < ((List.length (o.getD 0 zg).1:Nat):Int)) = false:=decide_eq_false (by omega)
      rw [e3,decide_eq_false h1]; rfl
    ·have e1:decide (0 < ((List.length o:Nat):Int)) = false:=decide_eq_false (by omega)
     rw [e1,decide_eq_false h0]; rfl) [] rfl
  refine Eq.trans hloop ?_
  have hrm:=zM2 hb
  have hpos:0 < r.2.2.2.2.1.length:=by omega
  have hget:(r.2.2.2.2.1.map (zaI r)).getD 0 zg = zaI r (r.2.2.2.2.1.getD 0 va):=by
   cases hl:r.2.2.2.2.1 with
   | nil=>rw [hl] at hpos; simp at hpos
   | cons q l=>rfl
  rw [List.nil_append,decide_eq_true (by rw [List.length_map]; exact hpos),decide_eq_true (p:=0 < ((r.2.2.2.2.1.map (zaI r)).getD 0 zg).1.length) (by rw [hget]; show 0 < (List.replicate _ zuw).length; rw [List.length_replicate]; omega)]
  rfl
end Go.Proofs.YtkcakhbkoeimdaaGreatDoor
end
section
namespace Go.Proofs.YtkcakhbkoeimdaaGreatDoor
open Go.Ev
theorem zGT {a b:zi} (h:zzo a):yl (a,b,()) = some (yn a b,()):=by
 rw [zL]
 simp only [yl]
 rw [zER h.rooms,zES h.exits,zET h.items,zEU h.mails,zCC h.trades,zIr h.purses,zGF h.places]
 simp only [Option.bind_some,yn]
 grind
theorem zvf {a b:List zi} (hl:a.length ≤ Go.maxLen) (h:∀ x ∈ a,zzo x):zef (a,b,some yl,()) = some (eqW yn a b,()):=zt7 (p:=yn) fun hab=>by
 have:=zxf (B:=vh) zg yn (fun i=>(b,some yl,a,(a.length:Int),i)) hl hab (fun k i hi=>by
  simp only [vh]
  rw [ltT hi,zC hi,zC (by omega),qe,qe]
  simp only [cond_true,Option.bind_some]
  rw [zGT (h _ (zU hi))]; rfl) (fin:=true) (fun k=>by simp only [vh]; rw [ltF]; rfl)
 rw [Bool.and_true] at this; exact this
theorem zxg {a b:List (List Int)} (hl:a.length ≤ Go.maxLen) (h:∀ x ∈ a,x.length ≤ Go.maxLen):zeW (a,b,some zba,()) = some (eqW (eqL tI) a b,()):=zt7 (p:=eqL tI) fun hab=>by
 have:=zxf (B:=vI) ([]:List Int) (eqL tI) (fun i=>(b,some zba,a,(a.length:Int),i)) hl hab (fun k i hi=>by
  simp only [vI]
  rw [ltT hi,zC hi,zC (by omega),Int.toNat_natCast]
  simp only [cond_true,Option.bind_some]
  rw [zvM (h _ (zU hi))]; rfl) (fin:=true) (fun k=>by simp only [vI]; rw [ltF]; rfl)
 rw [Bool.and_true] at this; exact this
theorem zFv {a b:zd} (h:zMJ a):ziD (a,b,()) = some (y6 a b,()):=by
 rw [zL]
 simp only [ziD]
 rw [zvf h.shelves h.shelf,zxg h.ranks h.rank,zCA h.orders,zCB h.entries,zvM h.seats]
 simp only [Option.bind_some,y6]
 generalize eqW yn a.2.1 b.2.1 = c1
 generalize eqW (eqL tI) a.2.2.1 b.2.2.1 = c2
 generalize eqL zq a.2.2.2.1 b.2.2.2.1 = c3
 generalize eqL zy a.2.2.2.2.1 b.2.2.2.2.1 = c4
 generalize eqL tI a.2.2.2.2.2.1 b.2.2.2.2.2.1 = c5
 generalize (a.1 == b.1) = c6
 grind
def zg8 {α:Type} (d:α) (p:Nat→Bool) (now fresh:List α) (i:Nat):α:=bif p i then now.getD i d else fresh.getD i d
def qh {α:Type} (d:α) (p:Nat→Bool) (now fresh:List α):List α:=(List.range now.length).map (zg8 d p now fresh)
theorem zrm {α:Type} {f:Nat→α} {i:Nat} {o:List α} (h:o = (List.range i).map f):o ++ [f i] = (List.range (i + 1)).map f:=by
 rw [List.range_succ,List.map_append,h]; rfl
theorem zAV {now fresh:List zi} {g:Int × Unit→Option (Bool × Unit)} {p:Nat→Bool} (hl:now.length ≤ 1000) (hf:now.length ≤ fresh.length) (hg:∀ i:Nat,i < now.length→g ((i:Int),()) = some (p i,())):zeU (now,fresh,some g,()) = some (qh zg p now fresh,()) :=
 jS (α:=List zi) (B:=vG) (len:=now.length) (by unfold Go.maxLen; omega) (fun i o=>(now,fresh,some g,(now.length:Int),i,o,0)) (fun _ _=>some (qh zg p now fresh,())) (fun i o=>o = (List.range i).map (zg8 zg p now fresh)) (fun k i o hi hI hk=>by
  have hx:=zrm hI
  have hlen:o.length = i:=by rw [hI]; simp
  have hk':=hk _ hx
  simp only [vG]
  rw [ltT hi]
  simp only [cond_true,Option.bind_some]
  rw [hg i hi]
  simp only [Option.bind_some]
  unfold zg8 at hk'
  cases hp:p i with
  | true =>
   rw [hp] at hk'
   simp only [cond_true] at hk' ⊢
   rw [zC hi,y9,zbF (by simp; omega),qe]
   exact hk'
  | false =>
   rw [hp] at hk'
   simp only [cond_false] at hk' ⊢
   rw [zC (by omega),y9,zbF (by simp; omega),qe]
   exact hk') (fun k o hI=>by
  simp only [vG]
  rw [ltF]
  simp only [cond_false]
  rw [hI]; rfl) [] rfl
theorem zCV {now fresh:List (List Int)} {g:Int × Unit→Option (Bool × Unit)} {p:Nat→Bool} (hl:now.length ≤ 1000) (hf:now.length ≤ fresh.length) (hg:∀ i:Nat,i < now.length→g ((i:Int),()) = some (p i,())):zfs (now,fresh,some g,()) = some (qh [] p now fresh,()) :=
 jS (α:=List (List Int)) (B:=ya) (len:=now.length) (by unfold Go.maxLen; omega) (fun i o=>(now,fresh,some g,(now.length:Int),i,o,0)) (fun _ _=>some (qh [] p now fresh,())) (fun i o=>o = (List.range i).map (zg8 [] p now fresh)) (fun k i o hi hI hk=>by
  have hx:=zrm hI
  have hlen:o.length = i:=by rw [hI]; simp
  have hk':=hk _ hx
  simp only [ya]
  rw [ltT hi]
  simp only [cond_true,Option.bind_some]
  rw [hg i hi]
  simp only [Option.bind_some]
  unfold zg8 at hk'
  cases hp:p i with
  | true =>
   rw [hp] at hk'
   simp only [cond_true] at hk' ⊢
   rw [zC hi,y9,zbF (by simp; omega),Int.toNat_natCast]
   exact hk'
  | false =>
   rw [hp] at hk'
   simp only [cond_false] at hk' ⊢
   rw [zC (by omega),y9,zbF (by simp; omega),Int.toNat_natCast]
   exact hk') (fun k o hI=>by
  simp only [ya]
  rw [ltF]
  simp only [cond_false]
  rw [hI]; rfl) [] rfl
theorem zFw {now fresh:List Int} {g:Int × Unit→Option (Bool × Unit)} {p:Nat→Bool} (hl:now.length ≤ 1000) (hf:now.length ≤ fresh.length) (hg:∀ i:Nat,i < now.length→g ((i:Int),()) = some (p i,())):zgi (now,fresh,some g,()) = some (qh 0 p now fresh,()) :=
 jS (α:=List Int) (B:=yE) (len:=now.length) (by unfold Go.maxLen; omega) (fun i o=>(now,fresh,some g,(now.length:Int),i,o)) (fun _ _=>some (qh 0 p now fresh,())) (fun i o=>o = (List.range i).map (zg8 0 p now fresh)) (fun k i o hi hI hk=>by
  have hx:=zrm hI
  have hlen:o.length = i:=by rw [hI]; simp
  have hk':=hk _ hx
  simp only [yE]
  rw [ltT hi]
  simp only [cond_true,Option.bind_some]
  rw [hg i hi]
  simp only [Option.bind_some]
  unfold zg8 at hk'
  cases hp:p i with
  | true =>
   rw [hp] at hk'
   simp only [cond_true] at hk' ⊢
   rw [zC hi,y9,zbF (by simp; omega),qe]
   exact hk'
  | false =>
   rw [hp] at hk'
   simp only [cond_false] at hk' ⊢
   rw [zC (by omega),y9,zbF (by simp; omega),qe]
   exact hk') (fun k o hI=>by
  simp only [yE]
  rw [ltF]
  simp only [cond_false]
  rw [hI]; rfl) [] rfl
theorem zzr {α:Type} {d:α} {p:Nat→Bool} {now fresh:List α} {i:Nat} {x:α} (h:p i = false):qh d p (List.set now i x) fresh = qh d p now fresh:=by
 unfold qh
 rw [List.length_set]
 refine List.map_congr_left fun j hj=>?_
 unfold zg8
 by_cases e:i = j
 ·subst e; rw [h]; rfl
 ·rw [getD_set_ne e]
theorem zcK {α:Type} {d:α} {p:Nat→Bool} {now fresh:List α}:(qh d p now fresh).length = now.length:=by
 unfold qh; simp
end Go.Proofs.YtkcakhbkoeimdaaGreatDoor
end
section
namespace Go.Proofs.YtkcakhbkoeimdaaGreatDoor
open Go.Ev
theorem zLm {b:Int} (h:jM b = true):zbH (j4 b):=by
 simp only [jM,Bool.and_eq_true,decide_eq_true_eq] at h
 have h1:b.toNat < 64:=by omega
 have h2:2 ^ b.toNat < 2 ^ 64:=Nat.pow_lt_pow_right (by omega) h1
 have h3:(2:Nat) ^ 64 = 18446744073709551616:=by decide
 show 0 ≤ ((2 ^ b.toNat:Nat):Int) ∧ ((2 ^ b.toNat:Nat):Int) < ((18446744073709551616:Nat):Int)
 rw [h3] at h2
 exact ⟨Int.natCast_nonneg _,Int.ofNat_lt.2 h2⟩
def zer (b:Int):zo:=bif jM b then j4 b else (0,0,())
theorem zIN (b:Int):zbH (zer b):=by
 unfold zer
 cases h:jM b with
 | true=>exact zLm h
 | false=>exact ⟨Int.le_refl 0,show (0:Int) < U64 by unfold U64; decide⟩
theorem zFx {r:za} {a:zo} (hr:zO r) (ha:zbH a) {i:Nat} (hi:i < r.1.length):zbY ((i:Int),some r,some a,()) = some (jb (r.1.getD i zA) a,()):=by
 rw [zL]
 simp only [zbY,Option.bind_some]
 rw [zC hi,qe,zeL (hr.labels _ (zU hi)) ha]
 rfl
theorem zLn {r:za} {a:zo} (ha:zbH a) {i:Nat} (hi:i < r.2.2.2.1.length):zgY ((i:Int),some r,some a,()) = some (jb (zer (r.2.2.2.1.getD i zD).1) a,()):=by
 rw [zL]
 simp only [zgY,Option.bind_some]
 rw [zC hi,qe,ziW]
 simp only [Option.bind_some]
 have e:(bif jM (r.2.2.2.1.getD i zD).1 then (j4 (r.2.2.2.1.getD i zD).1,(0:Int),()) else ((0,0,()),1,())).1 = zer (r.2.2.2.1.getD i zD).1:=by
  unfold zer
  cases jM (r.2.2.2.1.getD i zD).1 <;> rfl
 rw [e,zeL (zIN _) ha]
 rfl
def zaJ (r:za) (i:Nat):Int:=r.2.1.getD i 0
theorem zHr {r:za} (hb:zG r = true) {i:Nat} (hi:i < r.2.1.length):0 ≤ zaJ r i ∧ zaJ r i < (r.1.length:Int):=by
 simp only [zG,zkJ,Bool.and_eq_true,decide_eq_true_eq,List.all_eq_true] at hb
 exact hb.2.1.2 _ (zU (d:=(0:Int)) hi)
theorem zLo {r:za} {a:zo} (hr:zO r) (hb:zG r = true) (ha:zbH a) {i:Nat} (hi:i < r.2.1.length):zgX ((i:Int),some (some fun z=>zbY (z.1,some r,some a,())),some r,()) = some (jb (r.1.getD (zaJ r i).toNat zA) a,()):=by
 have hl:=zHr hb hi
 rw [zL]
 simp only [zgX,Option.bind_some]
 rw [zC hi,qe]
 have e:r.2.1.getD i 0 = (((zaJ r i).toNat:Nat):Int):=by
  show zaJ r i = _
  omega
 rw [e,zFx hr ha (by omega)]
 rfl
def qq (r:za) (a:zo) (s:zd):zd:=(s.1,qh zg (fun i=>jb (r.1.getD i zA) a) s.2.1 (zc3 r).2.1,qh [] (fun i=>jb (zer (r.2.2.2.1.getD i zD).1) a) s.2.2.1 (zc3 r).2.2.1,s.2.2.2.1,s.2.2.2.2.1,qh 0 (fun i=>jb (r.1.getD (zaJ r i).toNat zA) a) s.2.2.2.2.2.1 (zc3 r).2.2.2.2.2.1,())
theorem zlL {α:Type} {d:α} {p:Nat→Bool} {now fresh:List α} (hf:now.length ≤ fresh.length) {x:α} (h:x ∈ qh d p now fresh):x ∈ now ∨ x ∈ fresh:=by
 unfold qh at h
 obtain ⟨i,hi,rfl⟩:=List.mem_map.1 h
 have hi':=List.mem_range.1 hi
 unfold zg8
 cases p i with
 | true=>exact .inl (zU hi')
 | false=>exact .inr (zU (by omega))
theorem zFy {r:za} (hb:zG r = true):zt9 (zc3 r):=by
 have ok:=qj hb
 have ha:=ok.accounts
 have hg:=ok.guilds
 have hl:=ok.lines
 have ho:=ok.labels
 have hq:=ok.quotas
 have h24:0 ≤ r.2.2.2.2.2.1 ∧ r.2.2.2.2.2.1 ≤ 24:=by
  simp only [zG,zuB,qf,Bool.and_eq_true,decide_eq_true_eq] at hb
  omega
 have hsh:∀ q ∈ r.2.2.2.2.1,zzp (zaI r q):=fun q hq=>by
  have h:=zFu (zzq hb q hq)
  refine ⟨?_,?_,?_,?_,?_,?_,?_⟩ <;> (show (List.replicate _ _).length * _ ≤ _; rw [List.length_replicate]; omega)
 refine ⟨by show (List.set _ _ _).length * _ ≤ _; rw [List.length_set,List.length_map]; omega,by show (List.map _ _).length * _ ≤ _; rw [List.length_map]; omega,by show (List.replicate _ _).length * _ ≤ _; rw [List.length_replicate]; omega,Nat.zero_le _,by show (List.replicate _ _).length * _ ≤ _; rw [List.length_replicate]; omega,fun x hx=>?_,fun l hl=>?_⟩
 ·rcases List.mem_or_eq_of_mem_set hx with hx | rfl
  ·obtain ⟨q,hq,rfl⟩:=List.mem_map.1 hx
   exact hsh q hq
  ·have h0:zzp ((r.2.2.2.2.1.map (zaI r)).getD 0 zg):=by
    have hm:(r.2.2.2.2.1.map (zaI r)).getD 0 zg ∈ r.2.2.2.2.1.map (zaI r):=zU (by rw [List.length_map]; omega)
    obtain ⟨q,hq,e⟩:=List.mem_map.1 hm
    rw [← e]; exact hsh q hq
   exact ⟨by show (List.set _ _ _).length * _ ≤ _; rw [List.length_set]; exact h0.rooms,h0.exits,h0.items,h0.mails,h0.trades,h0.purses,h0.places⟩
 ·obtain ⟨g,hg,rfl⟩:=List.mem_map.1 hl
  show (List.set _ _ _).length * _ ≤ _
  rw [List.length_set,List.length_replicate]; omega
theorem zvT {r:za} {s:zd} {a:zo} (hr:zO r) (h:zS r s = true) (ha:zbH a) (la:yS a = true):zc0 (r,s,a,()) = some (qq r a s,0,()):=by
 obtain ⟨hb,hz,hp⟩:=zT h
 have ok:=qj hb
 have sz:=vO hb hz
 have hf:=zqg h
 have hn:=zFy hb
 have h1:=sz.shelves
 have h2:s.2.2.1.length = r.2.2.2.1.length:=by
  have hh:vn r s.2.2.1 = true:=by simp only [zb2,Bool.and_eq_true] at hp; exact hp.1
  exact (yT hh).1
 have h3:=sz.people
 have hlab:=ok.labels
 have hgui:=ok.guilds
 have hlin:=ok.lines
 have hq:=ok.quotas
 have f1:(zc3 r).2.1.length = r.1.length:=by show (List.set _ _ _).length = _; rw [List.length_set,List.length_map]; exact hq
 have f2:(zc3 r).2.2.1.length = r.2.2.2.1.length:=List.length_map ..
 have f3:(zc3 r).2.2.2.2.2.1.length = r.2.1.length:=List.length_replicate ..
 have hfit:zj3 (r,s,()) = some (true,()):=by
  simp only [zj3]
  rw [h1,h2,h3]
  simp
 have hv:zt9 (qq r a s):=by
  refine ⟨?_,?_,hf.orders,hf.entries,?_,fun x hx=>?_,fun l hl=>?_⟩
  ·show (qh _ _ _ _).length * _ ≤ _; rw [zcK]; exact hf.shelves
  ·show (qh _ _ _ _).length * _ ≤ _; rw [zcK]; exact hf.ranks
  ·show (qh _ _ _ _).length * _ ≤ _; rw [zcK]; exact hf.seats
  ·rcases zlL (by omega) hx with hx | hx
   ·exact hf.shelf x hx
   ·exact hn.shelf x hx
  ·rcases zlL (by omega) hl with hl | hl
   ·exact hf.rank l hl
   ·exact hn.rank l hl
 simp only [zc0]
 refine (bnd (zvS hr)).trans ?_
 rw [hb]
 refine (cF rfl).trans ?_
 refine (bnd (zg7 a)).trans ?_
 refine (cT la).trans ?_
 refine (bnd hfit).trans ?_
 refine (cT rfl).trans ?_
 refine (bnd (zAV (by omega) (by show s.2.1.length ≤ (zc3 r).2.1.length; omega) fun i hi=>zFx hr ha (by omega))).trans ?_
 refine (bnd (zCV (by omega) (by show s.2.2.1.length ≤ (zc3 r).2.2.1.length; omega) fun i hi=>zLn ha (by omega))).trans ?_
 refine (bnd (zFw (by omega) (by show s.2.2.2.2.2.1.length ≤ (zc3 r).2.2.2.2.2.1.length; omega) fun i hi=>zLo hr hb ha (by omega))).trans ?_
 refine (bnd (zeG hv)).trans ?_
 rfl
theorem zvU {r:za} {s t:zd} {a:zo} (hr:zO r) (h:zS r s = true) (h':zS r t = true) (ha:zbH a) (la:yS a = true) (hf:zt9 (qq r a s)):zc1 (r,s,t,a,()) = some (y6 (qq r a s) (qq r a t),()):=by
 rw [zL]
 simp only [zc1]
 refine (bnd (zvT hr h ha la)).trans ?_
 refine (bnd (zvT hr h' ha la)).trans ?_
 refine (cT rfl).trans ?_
 refine (cT rfl).trans ?_
 refine (bnd (zFv (zKh hf))).trans ?_
 rfl
end Go.Proofs.YtkcakhbkoeimdaaGreatDoor
end
section
namespace Go.Proofs.YtkcakhbkoeimdaaGreatDoor
open Go.Ev
abbrev zAW (l:List zm):Option yp:=some (l,some qV,())
theorem zlM {l:List zm} (hl:l.length ≤ lim):zem (l,()) = some (zAW l,()):=by
 simp only [zem,ziB]
 rw [zt5 hl]; rfl
theorem zxh (x:zm):qV (x,()) = some (x.1,()):=(zL x.1).symm
theorem zo0 (l:List zm):yb (zAW l,()) = some (true,()):=rfl
def zxi (l:List zm) (i:Int):Bool:=decide (0 ≤ i ∧ i < (l.length:Int)) && (ix vP l i).1
theorem zL6 {l:List zm} {i:Int} (h:zxi l i = true):0 ≤ i ∧ i < (l.length:Int):=by
 simp only [zxi,Bool.and_eq_true,decide_eq_true_eq] at h; exact h.1
theorem zIO (l:List zm) (i:Int):yN (zAW l,i,()) = some (zxi l i,()):=by
 rw [zL]
 simp only [yN]
 refine (bnd (zo0 l)).trans ?_
 refine (cT rfl).trans ?_
 unfold zxi
 by_cases h:0 ≤ i ∧ i < (l.length:Int)
 ·rw [decide_eq_true h,Bool.true_and]
  refine (cT (decide_eq_true (show i ≥ 0 from h.1))).trans ?_
  refine (bnd (a:=(l,some qV,())) rfl).trans ?_
  refine (cT (decide_eq_true (show i < (l.length:Int) from h.2))).trans ?_
  refine (bnd (a:=(l,some qV,())) rfl).trans ?_
  refine (bnd (a:=(l,some qV,())) rfl).trans ?_
  refine (ixR h).trans ?_
  refine (bnd (a:=qV) rfl).trans ?_
  refine (bnd (zxh _)).trans ?_
  cases (ix vP l i).1 <;> rfl
 ·rw [decide_eq_false h,Bool.false_and]
  by_cases h0:i ≥ 0
  ·refine (cT (decide_eq_true h0)).trans ?_
   refine (bnd (a:=(l,some qV,())) rfl).trans ?_
   exact cF (decide_eq_false (show ¬ i < (l.length:Int) by omega))
  ·exact cF (decide_eq_false h0)
theorem zzs {l:List zm} (hl:l.length ≤ lim) {i:Int} (hi:0 ≤ i ∧ i < (l.length:Int)) (x:zm):zdx (zAW l,i,x,()) = some (List.set l i.toNat x,0,()):=by
 simp only [zdx]
 refine (bnd (zo0 l)).trans ?_
 refine (cT rfl).trans ?_
 refine (cF (decide_eq_false (by omega))).trans ?_
 refine (bnd (a:=(l,some qV,())) rfl).trans ?_
 refine (cF (decide_eq_false (show ¬ i ≥ (l.length:Int) by omega))).trans ?_
 refine (bnd (a:=(l,some qV,())) rfl).trans ?_
 refine (bnd (zt5 hl)).trans ?_
 exact ixR hi
def zdd (l:List zm):Int:=qu (fun x=>!x.1) l 0
theorem zFz {l:List zm} (hl:l.length ≤ Go.maxLen):zek (zAW l,()) = some (bif decide (zdd l < 0) then (0,8,()) else (zdd l,0,())):=by
 simp only [zek]
 refine (bnd (zo0 l)).trans ?_
 refine (cT rfl).trans ?_
 refine (bnd (a:=(l,some qV,())) rfl).trans ?_
 refine (bnd (zmQ (p:=fun x=>!x.1) hl fun x _=>?_)).trans ?_
 ·show Option.bind (qV (x,())) (fun q3=>bif q3.1 then some (false,()) else some (true,())) = some (!x.1,())
  refine (bnd (zxh x)).trans ?_
  cases x.1 <;> rfl
 ·show (bif decide (zdd l < 0) then some (0,8,()) else some (zdd l,0,())) = _
  cases decide (zdd l < 0) <;> rfl
def zgs (l:List zm) (x:zm):List zm × Int × Int × Unit:=bif decide (zdd l < 0) then ([],0,8,()) else (List.set l (zdd l).toNat x,zdd l,0,())
theorem zLp {l:List zm} (h:¬ zdd l < 0):0 ≤ zdd l ∧ zdd l < (l.length:Int):=by
 have hr:=zqh (p:=fun x:zm=>!x.1) l 0 (Int.le_refl 0)
 unfold zdd at h ⊢
 omega
theorem zIP {l:List zm} (hl:l.length ≤ 2000000) (x:zm):zfX (zAW l,x,()) = some (zgs l x):=by
 simp only [zfX]
 refine (bnd (zFz (zua hl))).trans ?_
 unfold zgs
 by_cases h:zdd l < 0
 ·rw [decide_eq_true h]; rfl
 ·rw [decide_eq_false h]
  refine (cF rfl).trans ?_
  exact bnd (zzs (zi4 hl) (zLp h) x)
theorem zGU {l:List zm} {g:zm × Unit→Option (Bool × Unit)}:yb (some (l,some g,()),()) = some (true,()):=rfl
theorem zIQ {l:List zm} {g:zm × Unit→Option (Bool × Unit)} {p:zm→Bool} (hg:∀ x,g (x,()) = some (p x,())) {i:Nat} (hi:i < l.length):yN (some (l,some g,()),(i:Int),()) = some (p (l.getD i vP),()):=by
 rw [zL]
 simp only [yN,zGU,Option.bind_some,cond_true]
 rw [decide_eq_true (by omega),ltT hi,zC hi,qe,hg]
 simp only [cond_true,Option.bind_some]
theorem zFA {l:List zm} {g:zm × Unit→Option (Bool × Unit)} {p:zm→Bool} (hl:l.length ≤ lim) (hg:∀ x,g (x,()) = some (p x,())):zhs (some (l,some g,()),()) = some (z9 p 0 l,()):=by
 have hl':l.length ≤ Go.maxLen:=by unfold lim at hl; unfold Go.maxLen; omega
 have:=jS (B:=zai) (α:=List Int) hl' (fun i o=>(some (l,some g,()),(l.length:Int),i,o)) (fun i o=>some (o ++ z9 p i (l.drop i),())) (fun i o=>o.length ≤ i) (fun k i o hi hI hk=>by
  simp only [zai]
  rw [ltT hi,zIQ hg hi,y9,zab vP hi]
  simp only [cond_true,Option.bind_some,z9]
  rw [decide_eq_true (by simp; omega)]
  cases hp:p (l.getD i vP) with
  | false =>
   simp only [cond_false]
   exact hk o (by omega)
  | true =>
   simp only [cond_true]
   rw [hk _ (by simp; omega)]
   simp) (fun k o _=>by
  simp only [zai]
  rw [ltF,List.drop_of_length_le (Nat.le_refl _)]
  simp [z9]) [] (Nat.le_refl _)
 refine Eq.trans ?_ (this.trans ?_)
 ·rfl
 ·simp
theorem zzt {α:Type} {p q:α→Bool} (d:α) (L:List α):∀ (l:List α) (i:Nat),(∀ j,j < l.length→L.getD (i + j) d = l.getD j d)→(z9 p i l).filter (fun z=>q (L.getD z.toNat d)) = z9 (fun x=>p x && q x) i l
 | [],_,_=>rfl
 | x :: l,i,h=>by
  have ih:=zzt (p:=p) (q:=q) d L l (i + 1) fun j hj=>by
   have:=h (j + 1) (by simp; omega)
   rw [show i + 1 + j = i + (j + 1) by omega,this]; rfl
  have h0:L.getD i d = x:=h 0 (by simp)
  simp only [z9]
  cases hp:p x with
  | false=>simp only [cond_false,Bool.false_and]; exact ih
  | true =>
   simp only [cond_true,Bool.true_and,zjN,Int.toNat_natCast,h0]
   cases hq:q x with
   | false=>exact ih
   | true=>simp only [cond_true,ih]
def zzu (m:zm):Bool:=qW m.2.1 && (qW m.2.2.1 && qW m.2.2.2.1)
theorem zAX (m:zm):zbb (m,()) = some (zzu m,()):=by
 rw [zL]
 simp only [zbb,zBB,Option.bind_some,zzu]
 grind
def zIR (l:List zm) (m:zm):List zm × Int × Int × Unit:=bif l.all zcJ then bif zzu m then bif zaX m.2.2.2.2.1 then zgs l (true,m.2) else ([],0,2,()) else ([],0,1,()) else ([],0,1,())
theorem zIS {l:List zm} (hl:l.length ≤ 2000000) (m:zm):zlF (l,m,()) = some (zIR l m):=by
 simp only [zlF]
 refine (bnd (zmV (zua hl))).trans ?_
 unfold zIR
 cases l.all zcJ with
 | false=>rfl
 | true =>
  refine (cT rfl).trans ?_
  refine (bnd (zAX m)).trans ?_
  cases zzu m with
  | false=>rfl
  | true =>
   refine (cT rfl).trans ?_
   refine (bnd (zke _)).trans ?_
   cases zaX m.2.2.2.2.1 with
   | false=>rfl
   | true =>
    refine (cT rfl).trans ?_
    refine (bnd (zlM (zi4 hl))).trans ?_
    exact bnd (zIP hl _)
def isM (l:List zm) (i to:Int):Bool:=decide (0 ≤ i ∧ i < (l.length:Int)) && ((ix vP l i).1 && ((ix vP l i).2.2.2.1:Int) == to)
theorem zMM {l:List zm} {i to:Int} (h:isM l i to = true):0 ≤ i ∧ i < (l.length:Int):=by
 simp only [isM,Bool.and_eq_true,decide_eq_true_eq] at h; exact h.1
abbrev zMN:zm:=(false,0,0,0,ByteArray.mk #[],())
def zIT (l:List zm) (i to:Int):zm × Int × Unit:=bif isM l i to then (ix vP l i,0,()) else (zMN,3,())
theorem zL7 (l:List zm) (i to:Int):isM l i to = (zxi l i && ((ix vP l i).2.2.2.1:Int) == to):=by
 unfold isM zxi
 rw [Bool.and_assoc]
theorem zzv {l:List zm} (hl:l.length ≤ 2000000) (i to:Int):ziI (l,i,to,()) = some (zIT l i to):=by
 simp only [ziI]
 refine (bnd (zlM (zi4 hl))).trans ?_
 refine (bnd (zIO l i)).trans ?_
 unfold zIT
 rw [zL7]
 cases h:zxi l i with
 | false=>rfl
 | true =>
  have hi:=zL6 h
  refine (cT rfl).trans ?_
  refine (ixR hi).trans ?_
  show cond (!(((ix vP l i).2.2.2.1:Int) == to)) _ _ = _
  cases ((ix vP l i).2.2.2.1:Int) == to with
  | false=>rfl
  | true =>
   refine (cF rfl).trans ?_
   exact ixR hi
def zuH (l:List zm) (i to:Int):List zm × Int × Unit:=bif l.all zcJ then bif isM l i to then (List.set l i.toNat (ze zu),0,()) else ([],3,()) else ([],1,())
theorem zGV {l:List zm} (hl:l.length ≤ 2000000) (i to:Int):zka (l,i,to,()) = some (zuH l i to):=by
 simp only [zka]
 refine (bnd (zmV (zua hl))).trans ?_
 unfold zuH
 cases l.all zcJ with
 | false=>rfl
 | true =>
  refine (cT rfl).trans ?_
  refine (bnd (zzv hl i to)).trans ?_
  unfold zIT
  cases h:isM l i to with
  | false=>rfl
  | true =>
   refine (cF rfl).trans ?_
   refine (bnd (zlM (zi4 hl))).trans ?_
   exact bnd (zzs (zi4 hl) (zMM h) _)
def toP (to:Int) (x:zm):Bool:=x.1 && (x.2.2.2.1:Int) == to
theorem zGW {l:List zm} {z:Int} (hz:0 ≤ z ∧ z < (l.length:Int)) (to:Int):y4 (z,some l,some to,()) = some (!(((l.getD z.toNat vP).2.2.2.1:Int) == to),()):=by
 simp only [y4]
 refine (bnd (a:=l) rfl).trans ?_
 refine (ixR hz).trans ?_
 refine (bnd (a:=to) rfl).trans ?_
 show cond (!(((l.getD z.toNat vP).2.2.2.1:Int) == to)) _ _ = _
 cases ((l.getD z.toNat vP).2.2.2.1:Int) == to <;> rfl
theorem zKj {l:List zm} (hl:l.length ≤ 1000000) (to:Int):zkG (l,to,()) = some (z9 (toP to) 0 l,()):=by
 simp only [zkG]
 refine (bnd (zlM (zi4 (by omega)))).trans ?_
 refine (bnd (zFA (zi4 (by omega)) zxh)).trans ?_
 have hm:=ziY (p:=fun x:zm=>x.1) l 0
 have hlen:=zf7 (p:=fun x:zm=>x.1) l 0
 have hp:∀ z ∈ z9 (fun x:zm=>x.1) 0 l,y4 (z,some l,some to,()) = some (!(((l.getD z.toNat vP).2.2.2.1:Int) == to),()):=fun z hz=>by
  obtain ⟨j,rfl,h1,h2⟩:=hm z hz
  exact zGW (by omega) to
 have e:=zzt (p:=fun x:zm=>x.1) (q:=fun x:zm=>(x.2.2.2.1:Int) == to) vP l l 0 (fun j _=>by rw [Nat.zero_add])
 have hf:zH7 (fun z=>y4 (z.1,some l,some to,())) (z9 (fun x:zm=>x.1) 0 l) = some (z9 (toP to) 0 l):=by
  unfold zH7
  refine (cT (List.all_eq_true.2 fun z hz=>by show (y4 (z,some l,some to,())).isSome = true; rw [hp z hz]; rfl)).trans ?_
  refine (cT (decide_eq_true (by omega))).trans ?_
  show some _ = some (z9 (fun x=>x.1 && (x.2.2.2.1:Int) == to) 0 l)
  rw [← e]
  congr 1
  refine List.filter_congr fun z hz=>?_
  show (!zh0 (fun z=>y4 (z.1,some l,some to,())) z) = _
  unfold zh0
  rw [show (fun z:Int × Unit=>y4 (z.1,some l,some to,())) (z,()) = _ from hp z hz]
  exact Bool.not_not _
 exact bnd hf
end Go.Proofs.YtkcakhbkoeimdaaGreatDoor
end
section
namespace Go.Proofs.YtkcakhbkoeimdaaGreatDoor
open Go.Ev
theorem zjS {l:List Int} {a:Int} (hl:l.length ≤ Go.maxLen):jq (l,a,()) = some (l.any fun y=>a == y,()):=by
 have h:zjE (l,a,()) = some (qu (fun y=>a == y) l 0,()) :=
  zw7 (B:=zbs) (l:=l) (0:Int) (fun i=>(l,a,(l.length:Int),i)) hl (fun k i x hi hx _=>by
   simp only [zbs]
   rw [ltT hi,zC hi,qe,hx]; rfl) (fun k=>by simp only [zbs]; rw [ltF]; rfl)
 simp only [jq]
 rw [h,Option.bind_some,zqN (p:=fun y=>a == y) l 0 (Int.le_refl 0)]
 cases l.any fun y=>a == y <;> rfl
theorem zon (a b:Int):zdU (a,b,()) = some (decide (0 ≤ a ∧ a < b),()):=by simp only [zdU]; grind
theorem zLq {c:Int} (hc:0 ≤ c) {b:Int} (hb:0 ≤ b ∧ b < 64):(((jT c.toNat).map Int.ofNat).any fun y=>b == y) = zak c b.toNat:=by
 obtain ⟨n,rfl⟩:=Int.eq_ofNat_of_zero_le hb.1
 rw [Bool.eq_iff_iff,List.any_eq_true,Int.toNat_natCast]
 unfold zak jT
 constructor
 ·rintro ⟨x,hx,e⟩
  obtain ⟨m,hm,rfl⟩:=List.mem_map.1 hx
  obtain rfl:n = m:=by
   have:=eq_of_beq e
   exact Int.ofNat.inj this
  exact (List.mem_filter.1 hm).2
 ·intro h
  exact ⟨(n:Int),List.mem_map.2 ⟨n,List.mem_filter.2 ⟨by simp; omega,h⟩,rfl⟩,by simp⟩
def yV (r:za) (i:Int):List Int:=(List.range r.2.2.2.1.length).filterMap fun g=>bif zak (r.1.getD i.toNat zA).2.1 (r.2.2.2.1.getD g zD).1.toNat then some (g:Int) else none
theorem zMO {r:za} (hb:zG r = true):∀ g ∈ r.2.2.2.1,0 ≤ g.1 ∧ g.1 < 64:=by
 simp only [zG,zjL,Bool.and_eq_true] at hb
 intro g hg
 have:=zof _ _ hb.2.2.2.1.2.1 g hg
 simp only [jM,Bool.and_eq_true,decide_eq_true_eq] at this
 exact this
theorem zqj {r:za} (hr:zO r) (i:Int) (hi:qc r i = true):yR (r,i,()) = some (bif zG r then yV r i else [],()):=by
 simp only [yR,zf1,zi3 hr,Option.bind_some,hi,Bool.and_true]
 cases hb:zG r with
 | false=>rfl
 | true =>
  have hc:=zm1 hr i hi
  simp only [qc,decide_eq_true_eq] at hi
  have ok:=qj hb
  have hg:=ok.guilds
  have hbits:=zMO hb
  have hin:zfj (r.1.getD i.toNat zA,()) = some ((jT (r.1.getD i.toNat zA).2.1.toNat).map Int.ofNat,()):=by
   unfold zfj
   rw [decide_eq_true (show 0 ≤ (r.1.getD i.toNat zA).2.1 ∧ (r.1.getD i.toNat zA).2.1 < 18446744073709551616 from hc)]; rfl
  have:=jS (B:=zbE) (len:=r.2.2.2.1.length) (by unfold Go.maxLen; omega) (fun j o=>(i,r.2.2.2.1,(r.2.2.2.1.length:Int),j,r,o))
   (fun j o=>some (o ++ (List.range' j (r.2.2.2.1.length - j)).filterMap fun g=>bif zak (r.1.getD i.toNat zA).2.1 (r.2.2.2.1.getD g zD).1.toNat then some (g:Int) else none,())) (fun j o=>o.length ≤ j) (fun k j o hj hI h=>by
    simp only [zbE]
    rw [ltT hj,zC hj,ixR hi,qe]
    simp only [cond_true]
    rw [show ix zA r.1 i = r.1.getD i.toNat zA from rfl,hin,Option.bind_some,zjS (by rw [List.length_map]; have:=zD2 (r.1.getD i.toNat zA).2.1.toNat; unfold Go.maxLen; omega),Option.bind_some,zLq hc.1 (hbits _ (zU hj)),y9,zbF (by simp; omega)]
    have e:List.range' j (r.2.2.2.1.length - j) = j :: List.range' (j + 1) (r.2.2.2.1.length - (j + 1)):=by
     rw [show r.2.2.2.1.length - j = (r.2.2.2.1.length - (j + 1)) + 1 by omega,List.range'_succ]
    rw [e,List.filterMap_cons]
    cases zak (r.1.getD i.toNat zA).2.1 (r.2.2.2.1.getD j zD).1.toNat with
    | true =>
     simp only [cond_true]
     rw [h _ (by rw [List.length_append]; simp; omega),List.append_assoc]; rfl
    | false =>
     simp only [cond_false]
     rw [h _ (by omega)]) (fun k o _=>by
    simp only [zbE]
    rw [ltF,Nat.sub_self]; simp) [] (Nat.le_refl 0)
  refine Eq.trans this ?_
  unfold yV
  rw [List.nil_append,Nat.sub_zero,List.range_eq_range']; rfl
def jk (l:List (List Int)) (g:Nat) (who:Int):Int:=(l.getD g []).getD who.toNat 0
def zbI (r:za) (l:List (List Int)) (who i:Int):Bool:=qi (fun g=>!zak (r.1.getD i.toNat zA).2.1 (r.2.2.2.1.getD g zD).1.toNat || jk l g who != 0) 0 r.2.2.2.1.length && decide ((r.1.getD i.toNat zA).1 ≤ (r.2.2.1.getD who.toNat zfi).2.2.1)
theorem zAY {r:za} (hr:zO r) (hb:zG r = true) {l:List (List Int)} (hl:vn r l = true) (who i:Int):zf3 (r,l,who,i,()) = some (qy r who && (qc r i && zbI r l who i),()):=by
 rw [zL]
 have ok:=qj hb
 have hg:=ok.guilds
 simp only [zf3,zmX hr,hb,hl,zon,Option.bind_some,Bool.and_self,cond_true]
 rw [show decide (0 ≤ who ∧ who < (r.2.2.1.length:Int)) = qy r who from rfl,show decide (0 ≤ i ∧ i < (r.1.length:Int)) = qc r i from rfl]
 cases hw:qy r who with
 | false=>rfl
 | true =>
  cases hi:qc r i with
  | false=>rfl
  | true =>
   have hw':=hw
   have hi':=hi
   simp only [qy,qc,decide_eq_true_eq] at hw' hi'
   have hrl:=yT hl
   have hc1:∀ g ∈ yV r i,zbt (g,some l,some who,()) = some (jk l g.toNat who == 0,()):=by
    intro g hg'
    obtain ⟨m,hm,hm2⟩:=List.mem_filterMap.1 hg'
    cases hh:zak (r.1.getD i.toNat zA).2.1 (r.2.2.2.1.getD m zD).1.toNat with
    | false=>rw [hh] at hm2; cases hm2
    | true =>
     rw [hh] at hm2
     cases hm2
     have hm':m < r.2.2.2.1.length:=by simpa using hm
     rw [zL]
     simp only [zbt,Option.bind_some,Int.toNat_natCast]
     rw [zC (by omega),ixR (by rw [hrl.2 m hm']; exact hw')]
     rfl
   rw [ixR hw',ixR hi',zqj hr i hi,hb]
   simp only [Option.bind_some,cond_true,Bool.true_and]
   have hlen:(yV r i).length ≤ Go.maxLen:=by
    have:=List.length_filterMap_le (fun g=>bif zak (r.1.getD i.toNat zA).2.1 (r.2.2.2.1.getD g zD).1.toNat then some (g:Int) else none) (List.range r.2.2.2.1.length)
    rw [List.length_range] at this
    unfold yV Go.maxLen
    omega
   have hcf:qo (yV r i,some fun z=>zbt (z.1,some l,some who,()),()) = some ((yV r i).any fun g=>jk l g.toNat who == 0,()):=zaj (p:=fun g=>jk l g.toNat who == 0) hlen hc1
   rw [hcf,Option.bind_some]
   have key:((yV r i).any fun g=>jk l g.toNat who == 0) = !qi (fun g=>!zak (r.1.getD i.toNat zA).2.1 (r.2.2.2.1.getD g zD).1.toNat || jk l g who != 0) 0 r.2.2.2.1.length:=by
    rw [Bool.eq_iff_iff,List.any_eq_true]
    constructor
    ·rintro ⟨g,hg1,hg2⟩
     obtain ⟨m,hm,hm2⟩:=List.mem_filterMap.1 hg1
     have hm':m < r.2.2.2.1.length:=by simpa using hm
     cases hh:zak (r.1.getD i.toNat zA).2.1 (r.2.2.2.1.getD m zD).1.toNat with
     | false=>rw [hh] at hm2; cases hm2
     | true =>
      rw [hh] at hm2
      cases hm2
      cases ha:qi (fun g=>!zak (r.1.getD i.toNat zA).2.1 (r.2.2.2.1.getD g zD).1.toNat || jk l g who != 0) 0 r.2.2.2.1.length with
      | false=>rfl
      | true =>
       have:=qE.1 ha m (Nat.zero_le _) (by omega)
       rw [hh] at this
       simp at this
       rw [Int.toNat_natCast] at hg2
       exact absurd (eq_of_beq hg2) this
    ·intro ha
     rw [Bool.not_eq_true',← Bool.not_eq_true,qE] at ha
     simp only [Classical.not_forall] at ha
     obtain ⟨m,h1,h2,h3⟩:=ha
     simp only [Bool.or_eq_true,Bool.not_eq_true',bne_iff_ne,ne_eq,not_or,Bool.not_eq_false,Classical.not_not] at h3
     refine ⟨(m:Int),List.mem_filterMap.2 ⟨m,by simp; omega,by rw [h3.1]; rfl⟩,?_⟩
     rw [Int.toNat_natCast,h3.2]; rfl
   rw [key]
   unfold zbI
   rw [show (ix zfi r.2.2.1 who) = r.2.2.1.getD who.toNat zfi from rfl,show ix zA r.1 i = r.1.getD i.toNat zA from rfl]
   generalize qi (fun g=>!zak (r.1.getD i.toNat zA).2.1 (r.2.2.2.1.getD g zD).1.toNat || jk l g who != 0) 0 r.2.2.2.1.length = u
   grind
theorem zL8 {r:za} {s:zd} (h:zS r s = true) {i:Nat} (hi:i < s.2.2.2.2.2.1.length):s.2.2.2.2.2.1.getD i 0 = -1 ∨ qy r (s.2.2.2.2.2.1.getD i 0) = true:=by
 have hp:=(zT h).2.2
 simp only [zb2,Bool.and_eq_true,List.all_eq_true] at hp
 have:=hp.2.2.2.2.2.2 _ (zU (d:=(0:Int)) hi)
 simp only [zqc,Bool.or_eq_true,beq_iff_eq] at this
 exact this
theorem zL9 {r:za} (hb:zG r = true) {i:Nat} (hi:i < r.2.1.length):qc r (r.2.1.getD i 0) = true:=by
 simp only [zG,zkJ,Bool.and_eq_true,List.all_eq_true,decide_eq_true_eq] at hb
 have:=hb.2.1.2 _ (zU (d:=(0:Int)) hi)
 simp only [qc,decide_eq_true_eq]
 exact this
end Go.Proofs.YtkcakhbkoeimdaaGreatDoor
end
section
namespace Go.Proofs.YtkcakhbkoeimdaaGreatDoor
open Go.Ev
abbrev qv (s:zd) (p:Int):List zm:=(ix zg s.2.1 p).2.2.2.1
abbrev zFB (s:zd) (p:Int) (l:List zm):zd:=upd s p (u3 (ix zg s.2.1 p) l)
theorem Ctx.at_ {r:za} {s:zd} {me:pMe} (x:Ctx r s me) {p:Int} (hp:qc r p = true):0 ≤ p ∧ p < (s.2.1.length:Int):=by
 obtain ⟨hb,hz,-⟩:=zT x.rs
 have:=(vO hb hz).shelves
 simp only [qc,decide_eq_true_eq] at hp
 omega
theorem Ctx.lab {r:za} {s:zd} {me:pMe} (x:Ctx r s me):qc r me.2.1 = true:=by
 obtain ⟨hb,hz,-⟩:=zT x.rs
 have h1:=(vO hb hz).shelves
 have:=x.hi
 simp only [qc,decide_eq_true_eq]
 omega
theorem Ctx.mails {r:za} {s:zd} {me:pMe} (x:Ctx r s me) {p:Int} (hp:qc r p = true):(qv s p).length ≤ 12 ∧ (qv s p).all zcJ = true:=by
 obtain ⟨hb,hz,-⟩:=zT x.rs
 have hi:=x.at_ hp
 have h:=(vO hb hz).shelf _ (zkL hi)
 have h':=x.rs
 simp only [zS,Bool.and_eq_true,qE] at h'
 have:=(h'.2.2.2.1 p.toNat (Nat.zero_le _) (by omega)).1.1
 simp only [jB,Bool.and_eq_true] at this
 exact ⟨h.2.2.2.1,this.2.2.2.1⟩
theorem zHs {r:za} (hb:zG r = true) {p:Int} (hp:qc r p = true):qW p = true:=by
 have:=(qj hb).labels
 simp only [qc,qW,decide_eq_true_eq] at hp ⊢
 omega
theorem zm5 {r:za} {s:zd} {me:pMe} (x:Ctx r s me):zdt (s,me,()) = some (qv s me.2.1,()):=by
 simp only [zdt]
 exact ixR x.hi
abbrev zi5 (me:pMe) (who:Int) (text:ByteArray):zm:=(false,me.2.1,me.2.2.1,who,text,())
def zoo (s:zd) (me:pMe) (p:Int) (v:List zm × Int × Int × Unit):zd × Int × Unit:=bif v.2.2.1 == 0 then (zFB s p v.1,0,()) else bif v.2.2.1 == 2 then (zhu,2,()) else bif p == me.2.1 then (zhu,8,()) else (s,0,())
def zlN (r:za) (s:zd) (me:pMe) (p who:Int) (text:ByteArray):zd × Int × Unit :=
 bif zS r s && jD r me then bif qc r p && qy r who then bif zep r me.2.1 p then zoo s me p (bif zaX text then zgs (qv s p) (true,(zi5 me who text).2) else ([],0,2,())) else (zhu,5,()) else (zhu,1,()) else (zhu,1,())
theorem zLr (l:List zm) (m:zm):(zgs l m).2.2.1 = 0 ∨ (zgs l m).2.2.1 = 8:=by
 unfold zgs
 cases decide (zdd l < 0)
 ·exact .inl rfl
 ·exact .inr rfl
theorem zMP {r:za} {p who:Int} {ρ:Type} {x y:ρ} (h:(qc r p && qy r who) = false):(bif decide (p < 0) then x else bif decide (p ≥ (r.1.length:Int)) then x else bif decide (who < 0) then x else bif decide (who ≥ (r.2.2.1.length:Int)) then x else y) = x:=by
 simp only [qc,qy] at h
 grind
theorem zMa {r:za} {p who:Int} {ρ:Type} {x y:ρ} (h:(qc r p && qy r who) = true):(bif decide (p < 0) then x else bif decide (p ≥ (r.1.length:Int)) then x else bif decide (who < 0) then x else bif decide (who ≥ (r.2.2.1.length:Int)) then x else y) = y:=by
 simp only [qc,qy,Bool.and_eq_true,decide_eq_true_eq] at h
 rw [decide_eq_false (by omega),decide_eq_false (by omega),decide_eq_false (by omega),decide_eq_false (by omega)]
 rfl
theorem zKk {r:za} {s:zd} {me:pMe} (x:Ctx r s me) {p who:Int} (hp:qc r p = true) (hw:qy r who = true) (text:ByteArray):zIR (qv s p) (zi5 me who text) = bif zaX text then zgs (qv s p) (true,(zi5 me who text).2) else ([],0,2,()):=by
 have hb:=(zT x.rs).1
 unfold zIR zzu
 rw [(x.mails hp).2]
 show (bif qW me.2.1 && (qW me.2.2.1 && qW who) then _ else _) = _
 rw [zHs hb x.lab,zuG hb x.who,zuG hb hw]
 rfl
theorem zGX {r:za} {s:zd} {me:pMe} (hr:zO r) (hs:qH s) (p who:Int) (text:ByteArray):y5 (r,s,me,p,who,text,()) = some (zlN r s me p who text):=by
 simp only [y5]
 refine (bnd (yj hr hs me)).trans ?_
 unfold zlN
 cases h:zS r s && jD r me with
 | false=>rfl
 | true =>
  simp only [Bool.and_eq_true] at h
  have x:Ctx r s me:=⟨h.1,h.2⟩
  have hb:=(zT x.rs).1
  refine (cT rfl).trans ?_
  cases h4:qc r p && qy r who with
  | false=>exact zMP h4
  | true =>
   refine (zMa h4).trans ?_
   simp only [Bool.and_eq_true] at h4
   refine (bnd (zoZ hr hb _ _)).trans ?_
   show cond (zep r me.2.1 p) _ _ = _
   cases zep r me.2.1 p with
   | false=>rfl
   | true =>
    refine (cT rfl).trans ?_
    refine (ixR (x.at_ h4.1)).trans ?_
    refine (bnd (zIS (l:=qv s p) (Nat.le_trans (x.mails h4.1).1 (by omega)) (zi5 me who text))).trans ?_
    rw [zKk x h4.1 h4.2]
    refine (bnd (zeG (zqg x.rs))).trans ?_
    show _ = some (zoo s me p _)
    unfold zoo
    cases ht:zaX text with
    | false=>rfl
    | true =>
     rw [cond_true]
     show cond ((zgs (qv s p) (true,(zi5 me who text).2)).2.2.1 == 0) _ _ = _
     have he:=zLr (qv s p) (true,(zi5 me who text).2)
     generalize zgs (qv s p) (true,(zi5 me who text).2) = v at he ⊢
     rcases he with he | he
     ·rw [he]
      refine (cT rfl).trans ?_
      exact ixR (x.at_ h4.1)
     ·rw [he]
      refine (cF rfl).trans ?_
      refine (cF rfl).trans ?_
      show cond (p == me.2.1) (some (zhu,8,())) (some (s,0,())) = some (cond (p == me.2.1) (zhu,8,()) (s,0,()))
      cases p == me.2.1 <;> rfl
def zzw (s:zd) (me:pMe) (v:List zm × Int × Unit):zd × Int × Unit:=bif v.2.1 != 0 then (zhu,v.2.1,()) else (zFB s me.2.1 v.1,0,())
def zlO (r:za) (s:zd) (me:pMe) (i:Int):zd × Int × Unit:=bif zS r s && jD r me then zzw s me (zuH (qv s me.2.1) i me.2.2.1) else (zhu,1,())
theorem zGY {r:za} {s:zd} {me:pMe} (hr:zO r) (hs:qH s) (i:Int):za6 (r,s,me,i,()) = some (zlO r s me i):=by
 simp only [za6]
 refine (bnd (yj hr hs me)).trans ?_
 unfold zlO
 cases h:zS r s && jD r me with
 | false=>rfl
 | true =>
  simp only [Bool.and_eq_true] at h
  have x:Ctx r s me:=⟨h.1,h.2⟩
  refine (cT rfl).trans ?_
  refine (bnd (zm5 x)).trans ?_
  refine (bnd (zGV (Nat.le_trans (x.mails x.lab).1 (by omega)) i me.2.2.1)).trans ?_
  show _ = some (zzw s me _)
  unfold zzw
  cases he:(zuH (qv s me.2.1) i me.2.2.1).2.1 != 0 with
  | true=>exact cT rfl
  | false =>
   refine (cF rfl).trans ?_
   refine (bnd (zeG (zqg x.rs))).trans ?_
   exact ixR x.hi
def zjT (r:za) (s:zd) (me:pMe) (i:Int):zm × Int × Unit:=bif zS r s && jD r me then zIT (qv s me.2.1) i me.2.2.1 else (zMN,1,())
theorem zsd {r:za} {s:zd} {me:pMe} (hr:zO r) (hs:qH s) (i:Int):vo (r,s,me,i,()) = some (zjT r s me i):=by
 simp only [vo]
 refine (bnd (yj hr hs me)).trans ?_
 unfold zjT
 cases h:zS r s && jD r me with
 | false=>rfl
 | true =>
  simp only [Bool.and_eq_true] at h
  have x:Ctx r s me:=⟨h.1,h.2⟩
  refine (cT rfl).trans ?_
  refine (bnd (zm5 x)).trans ?_
  exact bnd (zzv (Nat.le_trans (x.mails x.lab).1 (by omega)) i me.2.2.1)
def zIU (s:zd) (me:pMe):List Int:=z9 (toP me.2.2.1) 0 (qv s me.2.1)
theorem zub {r:za} {s:zd} {me:pMe} (hr:zO r) (hs:qH s):vm (r,s,me,()) = some (bif zS r s && jD r me then (zIU s me,0,()) else ([],1,())):=by
 simp only [vm]
 refine (bnd (yj hr hs me)).trans ?_
 cases h:zS r s && jD r me with
 | false=>rfl
 | true =>
  simp only [Bool.and_eq_true] at h
  have x:Ctx r s me:=⟨h.1,h.2⟩
  refine (cT rfl).trans ?_
  refine (bnd (zm5 x)).trans ?_
  exact bnd (zKj (Nat.le_trans (x.mails x.lab).1 (by omega)) me.2.2.1)
end Go.Proofs.YtkcakhbkoeimdaaGreatDoor
end
section
namespace Go.Proofs.YtkcakhbkoeimdaaGreatDoor
open Go.Ev
theorem zFC {a b:zo}:eqI zn a b = true ↔ (a.1:Int) = b.1 ∧ (a.2.1:Int) = b.2.1:=by
 rw [zJ4,Bool.and_eq_true,beq_iff_eq,beq_iff_eq]
theorem zxj {α:Type} {p:α→Bool} (d:α):∀ (l:List α) (i:Int),0 ≤ i→¬ qu p l i < 0→p (l.getD (qu p l i - i).toNat d) = true
 | [],i,h,hn=>absurd (show qu p [] i < 0 from (by decide:(-1:Int) < 0)) hn
 | x :: l,i,h,hn=>by
  simp only [qu] at hn ⊢
  cases hp:p x with
  | true =>
   rw [hp] at hn
   simp only [cond_true]
   rw [show (i - i).toNat = 0 by omega]; exact hp
  | false =>
   rw [hp] at hn
   simp only [cond_false] at hn ⊢
   have h1:=zxj (p:=p) d l (i + 1) (by omega) hn
   have h2:=zqh (p:=p) l (i + 1) (by omega)
   have h3:(qu p l (i + 1) - i).toNat = (qu p l (i + 1) - (i + 1)).toNat + 1:=by
    rcases h2 with h2 | h2 <;> omega
   rw [h3]; exact h1
def zJ (r:za) (i:Int):Int:=qu (fun g:zN=>eqI zn (j4 g.1) (ix zA r.1 i)) r.2.2.2.1 0
theorem zjU {r:za} (hb:zG r = true):zf5 r.1 = true ∧ ∀ g ∈ r.2.2.2.1,jM g.1 = true:=by
 simp only [zG,zjL,Bool.and_eq_true] at hb
 exact ⟨hb.1,zof _ _ hb.2.2.2.1.2.1⟩
theorem zvg {l:List zN} {g:zN × Unit→Option (Bool × Unit)} {p:zN→Bool} (hl:l.length ≤ Go.maxLen) (hp:∀ x ∈ l,g (x,()) = some (p x,())):zaU (l,some g,()) = some (qu p l 0,()):=qx (τ:=jf) (B:=zcX) (fun _ _ _ _ _=>rfl) hl hp
theorem zFD {r:za} {i:Int} (h:qc r i = true):0 ≤ i ∧ i < (r.1.length:Int):=by
 simp only [qc,decide_eq_true_eq] at h; exact h
theorem zFE {r:za} {i:Int} (h:qy r i = true):0 ≤ i ∧ i < (r.2.2.1.length:Int):=by
 simp only [qy,decide_eq_true_eq] at h; exact h
theorem zzx {r:za} (hr:zO r) (hb:zG r = true) {i:Int} (hi:qc r i = true):ze7 (r,i,()) = some (zJ r i,()):=by
 have hg:=(qj hb).guilds
 simp only [ze7]
 refine (bnd (zi3 hr i)).trans ?_
 rw [hb,hi]
 refine (cT rfl).trans ?_
 have e:zaU (r.2.2.2.1,some fun z=>zaH (z.1,some r,some i,()),()) = some (zJ r i,()):=zvg (p:=fun g:zN=>eqI zn (j4 g.1) (ix zA r.1 i)) (by unfold Go.maxLen; omega) fun g hgm=>by
  show zaH (g,some r,some i,()) = some (eqI zn (j4 g.1) (ix zA r.1 i),())
  simp only [zaH]
  refine (bnd (ziW g.1)).trans ?_
  rw [(zjU hb).2 g hgm]
  refine (bnd (a:=r) rfl).trans ?_
  refine (bnd (a:=i) rfl).trans ?_
  refine (ixR (zFD hi)).trans ?_
  show cond (eqI zn (j4 g.1) (ix zA r.1 i)) _ _ = _
  cases eqI zn (j4 g.1) (ix zA r.1 i) <;> rfl
 exact bnd e
theorem zm6 {r:za} {i:Int} (h:¬ zJ r i < 0):0 ≤ zJ r i ∧ zJ r i < (r.2.2.2.1.length:Int):=by
 have:=zqh (p:=fun g:zN=>eqI zn (j4 g.1) (ix zA r.1 i)) r.2.2.2.1 0 (Int.le_refl 0)
 unfold zJ at h ⊢
 omega
def zkf (k now:Int) (f:Bool):Int × Int × Unit :=
 bif k == 1 then bif now != 0 then (0,4,()) else (1,0,()) else bif k == 2 then bif now == 0 then (0,3,()) else bif now == 2 then (0,4,()) else (2,0,()) else bif now == 0 then (0,3,()) else bif f then (0,5,()) else (0,0,())
def zjV (l:List (List Int)) (g who n:Int):List (List Int):=List.set l g.toNat (List.set (l.getD g.toNat []) who.toNat n)
def zgP (r:za) (l:List (List Int)) (k g who:Int):Int × Int × Unit:=zkf k (jk l g.toNat who) (((ix zD r.2.2.2.1 g).2.1:Int) == who)
def zAZ (l:List (List Int)) (g who:Int) (v:Int × Int × Unit):List (List Int) × Int × Unit:=bif v.2.1 != 0 then ([],v.2.1,()) else (zjV l g who v.1,0,())
def zo1 (r:za) (l:List (List Int)) (k place by' who:Int):List (List Int) × Int × Unit :=
 bif vn r l && (qc r place && (qy r by' && qy r who)) then
  bif decide (zJ r place < 0) then ([],17,()) else
  bif zbI r l by' place && jk l (zJ r place).toNat by' == 2 then zAZ l (zJ r place) who (zgP r l k (zJ r place) who) else ([],5,())
 else ([],1,())
theorem zKl {α:Type} {l:List α} {j:Nat} (d:α) (h:j < l.length):l.take j ++ [l.getD j d] = l.take (j + 1):=by
 rw [List.take_add_one,List.getD_eq_getElem?_getD,List.getElem?_eq_getElem h]; rfl
theorem zLs {l:List (List Int)} (h8:l.length ≤ 8) (hrows:∀ x ∈ l,x.length ≤ 8) {g who n:Int} (hg:0 ≤ g ∧ g < (l.length:Int)) (hw:0 ≤ who ∧ who < ((l.getD g.toNat []).length:Int)):ziQ K0 (who,g,n,l,(l.length:Int),0,[],0) = some (zjV l g who n,0,()):=by
 have:=jS (B:=zfD) (α:=List (List Int)) (len:=l.length) (by unfold Go.maxLen; omega) (fun i o=>(who,g,n,l,(l.length:Int),i,o,o.length)) (fun _ _=>some (zjV l g who n,0,())) (fun i o=>o = l.take i) (fun k i o hi hI hk=>by
  have hx:=hrows _ (zU (d:=([]:List Int)) hi)
  have hl:o.length = i:=by rw [hI,List.length_take]; omega
  have hk':=hk _ ((congrArg (· ++ [l.getD i []]) hI).trans (zKl [] hi))
  simp only [zfD]
  rw [ltT hi]
  refine (cT rfl).trans ?_
  refine (zC hi).trans ?_
  rw [Int.toNat_natCast]
  refine (bnd (zvN (zi4 (by omega)))).trans ?_
  refine (cT (zbF (by simp; omega))).trans ?_
  refine (cT (by simp)).trans ?_
  rw [List.length_append] at hk'
  exact hk') (fun k o hI=>by
  have e:o = l:=hI.trans (List.take_length)
  simp only [zfD]
  rw [ltF,e]
  refine (cF rfl).trans ?_
  refine (ixR hg).trans ?_
  refine (geF hg).trans ?_
  exact ixR hw) [] rfl
 exact this
theorem zFF {r:za} (hb:zG r = true) {l:List (List Int)} (h:vn r l = true):l.length ≤ 8 ∧ ∀ x ∈ l,x.length ≤ 8:=by
 obtain ⟨h1,h2⟩:=yT h
 have ok:=qj hb
 have hg:=ok.guilds
 have ha:=ok.accounts
 refine ⟨by omega,fun x hx=>?_⟩
 obtain ⟨i,hi,rfl⟩:=List.mem_iff_getElem.1 hx
 have:=h2 i (by omega)
 rw [List.getD_eq_getElem?_getD,List.getElem?_eq_getElem hi] at this
 have e:(l[i]).length = r.2.2.1.length:=this
 omega
theorem zxk {r:za} {l:List (List Int)} (h:vn r l = true) {g:Int} (hg:0 ≤ g ∧ g < (r.2.2.2.1.length:Int)) {w:Int} (hw:qy r w = true):0 ≤ w ∧ w < ((l.getD g.toNat []).length:Int):=by
 have:=(yT h).2 g.toNat (by omega)
 rw [this]; exact zFE hw
theorem zrn {r:za} (hr:zO r) (hb:zG r = true) (l:List (List Int)) {f:Int × Bool × Unit→Option (Int × Int × Unit)} {k:Int} (hf:∀ now b,f (now,b,()) = some (zkf k now b)) (place by' who:Int):zf4 (r,l,place,by',who,some f,()) = some (zo1 r l k place by' who):=by
 simp only [zf4,zlI]
 refine (bnd (zmX hr l)).trans ?_
 rw [hb]
 unfold zo1
 cases hh:vn r l with
 | false=>rfl
 | true =>
  refine (cT rfl).trans ?_
  refine (bnd (zon place _)).trans ?_
  show cond (qc r place) _ _ = _
  cases hp:qc r place with
  | false=>rfl
  | true =>
   refine (cT rfl).trans ?_
   refine (bnd (zon by' _)).trans ?_
   show cond (qy r by') _ _ = _
   cases hy:qy r by' with
   | false=>rfl
   | true =>
    refine (cT rfl).trans ?_
    refine (bnd (zon who _)).trans ?_
    show cond (qy r who) _ _ = _
    cases hw:qy r who with
    | false=>rfl
    | true =>
     refine (cT rfl).trans ?_
     refine (bnd (zzx hr hb hp)).trans ?_
     show _ = some (bif decide (zJ r place < 0) then ([],17,()) else bif zbI r l by' place && jk l (zJ r place).toNat by' == 2 then zAZ l (zJ r place) who (zgP r l k (zJ r place) who) else ([],5,()))
     by_cases hn:zJ r place < 0
     ·refine (cT (decide_eq_true hn)).trans ?_
      rw [decide_eq_true hn]; rfl
     ·refine (cF (decide_eq_false hn)).trans ?_
      rw [decide_eq_false hn]
      have hg:=zm6 hn
      have hgl:0 ≤ zJ r place ∧ zJ r place < (l.length:Int):=by rw [(yT hh).1]; exact hg
      refine (bnd (zAY hr hb hh by' place)).trans ?_
      rw [hy,hp]
      show cond (zbI r l by' place) _ _ = _
      cases zbI r l by' place with
      | false=>rfl
      | true =>
       refine (cT rfl).trans ?_
       refine (ixR hgl).trans ?_
       refine (ixR (zxk hh hg hy)).trans ?_
       show cond (!(jk l (zJ r place).toNat by' == 2)) _ _ = _
       cases jk l (zJ r place).toNat by' == 2 with
       | false=>rfl
       | true =>
        refine (cF rfl).trans ?_
        refine (ixR hgl).trans ?_
        refine (ixR (zxk hh hg hw)).trans ?_
        refine (ixR hg).trans ?_
        obtain ⟨h8,hrw⟩:=zFF hb hh
        have lp:=fun n=>zLs (n:=n) h8 hrw hgl (zxk hh hg hw)
        show _ = some (zAZ l (zJ r place) who (zgP r l k (zJ r place) who))
        unfold zAZ zgP
        have e:∀ b:Bool,(Option.bind (some f) fun q6=>Option.bind (q6 (jk l (zJ r place).toNat who,b,())) fun q7=>bif q7.2.1 != 0 then some ([],q7.2.1,()) else ziQ K0 (who,zJ r place,q7.1,l,(l.length:Int),0,[],0)) = some (bif (zkf k (jk l (zJ r place).toNat who) b).2.1 != 0 then ([],(zkf k (jk l (zJ r place).toNat who) b).2.1,()) else (zjV l (zJ r place) who (zkf k (jk l (zJ r place).toNat who) b).1,0,())):=fun b=>by
         refine (bnd (a:=f) rfl).trans ?_
         refine (bnd (hf _ b)).trans ?_
         generalize zkf k (jk l (zJ r place).toNat who) b = v
         cases v.2.1 != 0 with
         | true=>rfl
         | false=>exact (cF rfl).trans (lp v.1)
        cases hfo:((ix zD r.2.2.2.1 (zJ r place)).2.1:Int) == who with
        | true=>exact (cT rfl).trans (e true)
        | false=>exact (cF rfl).trans (e false)
theorem zCW {r:za} (hr:zO r) (hb:zG r = true) (l:List (List Int)) (place by' who:Int):zg6 (r,l,place,by',who,()) = some (zo1 r l 1 place by' who):=by
 simp only [zg6]
 exact bnd (zrn (k:=1) hr hb l (fun now b=>by
  show (bif now != 0 then some (0,4,()) else some (1,0,())) = some (bif now != 0 then (0,4,()) else (1,0,()))
  cases now != 0 <;> rfl) place by' who)
theorem zFG {r:za} (hr:zO r) (hb:zG r = true) (l:List (List Int)) (place by' who:Int):ziR (r,l,place,by',who,()) = some (zo1 r l 2 place by' who):=by
 simp only [ziR]
 exact bnd (zrn (k:=2) hr hb l (fun now b=>by
  show (bif now == 0 then some (0,3,()) else bif now == 2 then some (0,4,()) else some (2,0,())) = some (bif now == 0 then (0,3,()) else bif now == 2 then (0,4,()) else (2,0,()))
  cases now == 0 <;> cases now == 2 <;> rfl) place by' who)
theorem zFH {r:za} (hr:zO r) (hb:zG r = true) (l:List (List Int)) (place by' who:Int):ziS (r,l,place,by',who,()) = some (zo1 r l 3 place by' who):=by
 simp only [ziS]
 exact bnd (zrn (k:=3) hr hb l (fun now b=>by
  show (bif now == 0 then some (0,3,()) else bif b then some (0,5,()) else some (0,0,())) = some (bif now == 0 then (0,3,()) else bif b then (0,5,()) else (0,0,()))
  cases now == 0 <;> cases b <;> rfl) place by' who)
theorem zLt {l:List (List Int)} {g who n:Int} (hg:0 ≤ g) (i:Nat) (hi:i < l.length):(zjV l g who n).getD i [] = if g = (i:Int) then List.set (l.getD i []) who.toNat n else l.getD i []:=by
 unfold zjV
 by_cases e:g = (i:Int)
 ·rw [if_pos e,e,Int.toNat_natCast,zeM hi]
 ·rw [if_neg e,getD_set_ne (by omega)]
end Go.Proofs.YtkcakhbkoeimdaaGreatDoor
end
section
namespace Go.Proofs.YtkcakhbkoeimdaaGreatDoor
open Go.Ev
theorem zuc:jP () = some (true,()):=by
 simp only [jP,y5,za6,zdM,zLi]
 kernel_rfl
end Go.Proofs.YtkcakhbkoeimdaaGreatDoor
end
section
namespace Go.Proofs.YtkcakhbkoeimdaaGreatDoor
open Go.Ev
theorem zMb {r:za} {s:zd} {me:pMe} (x:Ctx r s me):(zIU s me).length ≤ 2000000:=Nat.le_trans (zf7 _ _) (Nat.le_trans (x.mails x.lab).1 (by omega))
end Go.Proofs.YtkcakhbkoeimdaaGreatDoor
end
section
namespace Go.Proofs.YtkcakhbkoeimdaaGreatDoor
open Go.Ev
def zfa (p:Nat→Bool) (n:Nat):List Int:=((List.range n).filter p).map Int.ofNat
theorem zFI (p:Nat→Bool) (n:Nat):(zfa p n).length ≤ n:=by
 unfold zfa
 rw [List.length_map]
 exact Nat.le_trans (List.length_filter_le _ _) (by rw [List.length_range]; exact Nat.le_refl n)
theorem zBD {σ:Type} {B:(σ→Option (List Int × Unit))→σ→Option (List Int × Unit)} {n:Nat} (hn:n ≤ 1000) {p:Nat→Bool} (st:Int→List Int→σ)
 (hin:∀ k (i:Nat) o,i < n→o.length ≤ i→B k (st i o) = bif p i then k (st (wI (i + 1)) (o ++ [(i:Int)])) else k (st (wI (i + 1)) o)) (hout:∀ k o,B k (st n o) = some (o,())):zk B K0 (st 0 []) = some (zfa p n,()):=by
 have:=jS (B:=B) (α:=List Int) (len:=n) (by unfold Go.maxLen; omega) st (fun i o=>some (o ++ ((List.range' i (n - i)).filter p).map Int.ofNat,())) (fun i o=>o.length ≤ i) (fun k i o hi hI hk=>by
  rw [hin k i o hi hI,show n - i = (n - (i + 1)) + 1 by omega,List.range'_succ,List.filter_cons]
  cases hp:p i with
  | true =>
   refine (cT rfl).trans ((hk _ (by simp; omega)).trans ?_)
   rw [List.append_assoc]; rfl
  | false=>exact (cF rfl).trans (hk _ (by omega))) (fun k o _=>by rw [hout,Nat.sub_self]; simp) [] (Nat.le_refl 0)
 refine this.trans ?_
 unfold zfa
 rw [List.nil_append,Nat.sub_zero,List.range_eq_range']
abbrev zal (s:zd) (i:Nat):Int:=s.2.2.2.2.2.1.getD i 0
def zzy (r:za) (s:zd) (me:pMe) (also:Nat→Bool) (i:Nat):Bool:=!((i:Int) == me.1) && (!decide (zal s i < 0) && (zep r me.2.1 (zaJ r i) && also i))
def zro (r:za) (s:zd) (me:pMe) (i:Nat):Bool:=eqI zR (zqi s (zaJ r i) (zal s i)) (zFs s me)
def zrp (r:za) (s:zd) (me:pMe) (also:Nat→Bool):List Int:=zfa (zzy r s me also) r.2.1.length
theorem Ctx.placeAt {r:za} {s:zd} {me:pMe} (x:Ctx r s me) {p w:Int} (hp:qc r p = true) (hw:qy r w = true):0 ≤ w ∧ w < ((ix zg s.2.1 p).2.2.2.2.2.2.1.length:Int):=by
 obtain ⟨hb,hz,-⟩:=zT x.rs
 have h:=(vO hb hz).shelf _ (zkL (x.at_ hp))
 rw [h.2.2.2.2.2.2]; exact zFE hw
theorem Ctx.seats {r:za} {s:zd} {me:pMe} (x:Ctx r s me):s.2.2.2.2.2.1.length = r.2.1.length ∧ r.2.1.length ≤ 8:=by
 obtain ⟨hb,hz,-⟩:=zT x.rs
 exact ⟨(vO hb hz).people,(qj hb).lines.2⟩
theorem Ctx.sits {r:za} {s:zd} {me:pMe} (x:Ctx r s me) {i:Nat} (hi:i < r.2.1.length) (h:¬ zal s i < 0):qy r (zal s i) = true:=by
 rcases zL8 x.rs (i:=i) (by rw [x.seats.1]; exact hi) with e | e
 ·have e':zal s i = -1:=e
  omega
 ·exact e
theorem zA0 {r:za} (hb:zG r = true) {i:Nat} (hi:i < r.2.1.length):qc r (zaJ r i) = true:=zL9 hb hi
theorem zvV {r:za} {s:zd} {me:pMe} (hr:zO r) (x:Ctx r s me) {f:pMe × Unit→Option (Bool × Unit)} {also:Nat→Bool} (hf:∀ (i:Nat) (u:Unit),i < r.2.1.length→¬ zal s i < 0→f (((i:Int),zaJ r i,zal s i,u),()) = some (also i,())):zkd (r,s,me,some f,()) = some (zrp r s me also,()):=by
 have hb:=(zT x.rs).1
 obtain ⟨hs,h8⟩:=x.seats
 have := zBD (B:=zeF) (n:=s.2.2.2.2.2.1.length) (by omega) (p:=zzy r s me also) (fun i o=>(some f,s.2.2.2.2.2.1,(s.2.2.2.2.2.1.length:Int),i,r,me,o)) (fun k i o hi hI=>by
  simp only [zeF]
  rw [ltT hi,y9,qe,qe]
  refine (cT rfl).trans ?_
  refine (zC hi).trans ?_
  refine (zC (by omega)).trans ?_
  unfold zzy
  show cond ((i:Int) == me.1) _ _ = _
  cases (i:Int) == me.1 with
  | true=>rfl
  | false =>
   refine (cF rfl).trans ?_
   show cond (decide (zal s i < 0)) _ _ = _
   by_cases h0:zal s i < 0
   ·rw [decide_eq_true h0]; rfl
   ·rw [decide_eq_false h0]
    refine (cF rfl).trans ?_
    refine (bnd (zoZ hr hb _ _)).trans ?_
    show cond (zep r me.2.1 (zaJ r i)) _ _ = _
    cases zep r me.2.1 (zaJ r i) with
    | false=>rfl
    | true =>
     refine (cT rfl).trans ?_
     refine (bnd (a:=f) rfl).trans ?_
     refine (bnd (hf i _ (by omega) h0)).trans ?_
     show cond (also i) _ _ = _
     cases also i with
     | false=>rfl
     | true =>
      refine (cT rfl).trans ?_
      exact cT (zbF (by simp; omega))) (fun k o=>by
  simp only [zeF]
  rw [ltF]; rfl)
 rw [hs] at this
 refine Eq.trans ?_ this
 show zk5 K0 (some f,s.2.2.2.2.2.1,(s.2.2.2.2.2.1.length:Int),0,r,me,[]) = _
 rw [hs]
def zjW (r:za) (s:zd) (me:pMe) (t:ByteArray):List Int × Int × Unit:=bif zS r s && jD r me then bif zaX t then (zrp r s me (zro r s me),0,()) else ([],2,()) else ([],1,())
theorem zzz {r:za} {s:zd} {me:pMe} (hr:zO r) (hs:qH s) (t:ByteArray):zaW (r,s,me,t,()) = some (zjW r s me t):=by
 simp only [zaW]
 refine (bnd (yj hr hs me)).trans ?_
 unfold zjW
 cases h:zS r s && jD r me with
 | false=>rfl
 | true =>
  simp only [Bool.and_eq_true] at h
  have x:Ctx r s me:=⟨h.1,h.2⟩
  have hb:=(zT x.rs).1
  refine (cT rfl).trans ?_
  refine (bnd (zke t)).trans ?_
  cases zaX t with
  | false=>rfl
  | true =>
   refine (cT rfl).trans ?_
   have at1:∀ y:pMe,qc r y.2.1 = true→qy r y.2.2.1 = true→vi (y,some s,()) = some (zqi s y.2.1 y.2.2.1,()):=fun y h1 h2=>by
    simp only [vi]
    refine (bnd (a:=s) rfl).trans ?_
    refine (ixR (x.at_ h1)).trans ?_
    exact ixR (x.placeAt h1 h2)
   exact bnd (zvV hr x (f:=fun z=>zfw (z.1,some (some fun z_1:pMe × Unit=>vi (z_1.1,some s,())),some me,())) (also:=zro r s me) fun i u hi h0=>by
    show zfw (((i:Int),zaJ r i,zal s i,u),some (some fun z_1:pMe × Unit=>vi (z_1.1,some s,())),some me,()) = _
    simp only [zfw]
    refine (bnd (a:=some fun z_1:pMe × Unit=>vi (z_1.1,some s,())) rfl).trans ?_
    refine (bnd (a:=fun z_1:pMe × Unit=>vi (z_1.1,some s,())) rfl).trans ?_
    refine (bnd (at1 _ (zA0 hb hi) (x.sits hi h0))).trans ?_
    refine (bnd (a:=some fun z_1:pMe × Unit=>vi (z_1.1,some s,())) rfl).trans ?_
    refine (bnd (a:=me) rfl).trans ?_
    refine (bnd (a:=fun z_1:pMe × Unit=>vi (z_1.1,some s,())) rfl).trans ?_
    refine (bnd (at1 me x.lab x.who)).trans ?_
    show cond (zro r s me i) _ _ = _
    cases zro r s me i <;> rfl)
def isG (r:za) (g:Int):Bool:=decide (0 ≤ g ∧ g < (r.2.2.2.1.length:Int))
def zes (r:za) (i g:Int):Bool:=zak (r.1.getD i.toNat zA).2.1 (r.2.2.2.1.getD g.toNat zD).1.toNat
theorem zIV {r:za} {i g:Int} (hg:isG r g = true):((yV r i).any fun y=>g == y) = zes r i g:=by
 simp only [isG,decide_eq_true_eq] at hg
 obtain ⟨n,rfl⟩:=Int.eq_ofNat_of_zero_le hg.1
 rw [Bool.eq_iff_iff,List.any_eq_true]
 unfold yV zes
 rw [Int.toNat_natCast]
 constructor
 ·rintro ⟨y,hy,e⟩
  obtain ⟨m,hm,hm2⟩:=List.mem_filterMap.1 hy
  cases hh:zak (r.1.getD i.toNat zA).2.1 (r.2.2.2.1.getD m zD).1.toNat with
  | false=>rw [hh] at hm2; cases hm2
  | true =>
   rw [hh] at hm2
   cases hm2
   have:=Int.ofNat.inj (eq_of_beq e)
   subst this
   exact hh
 ·intro h
  exact ⟨(n:Int),List.mem_filterMap.2 ⟨n,by simp; omega,by rw [h]; rfl⟩,by simp⟩
theorem zBE (r:za) (g:Int):zdu (r,g,()) = some (isG r g,()):=by
 simp only [zdu,isG]
 grind
theorem zqk {r:za} {g:Int} (h:isG r g = true):0 ≤ g ∧ g < (r.2.2.2.1.length:Int):=by
 simp only [isG,decide_eq_true_eq] at h; exact h
theorem zFJ {r:za} (hr:zO r) (hb:zG r = true) {i g:Int} (hi:qc r i = true) (hg:isG r g = true):(Option.bind (yR (r,i,())) fun q2=>jq (q2.1,g,())) = some (zes r i g,()):=by
 refine (bnd (zqj hr i hi)).trans ?_
 rw [hb]
 have hlen:(yV r i).length ≤ Go.maxLen:=by
  have:=List.length_filterMap_le (fun g=>bif zak (r.1.getD i.toNat zA).2.1 (r.2.2.2.1.getD g zD).1.toNat then some (g:Int) else none) (List.range r.2.2.2.1.length)
  rw [List.length_range] at this
  have h8:=(qj hb).guilds
  unfold yV Go.maxLen
  omega
 refine (zjS (l:=yV r i) (a:=g) hlen).trans ?_
 rw [zIV hg]
def zdQ (r:za) (s:zd) (me:pMe) (g:Int) (t:ByteArray):List Int × Int × Unit:=bif zS r s && jD r me then bif isG r g then bif zes r me.2.1 g then bif zaX t then (zrp r s me (fun _=>true),0,()) else ([],2,()) else ([],5,()) else ([],1,()) else ([],1,())
theorem zMc {α β γ:Type} (x:Option α) (f:α→Option β) (g:β→Option γ) {v:β} (h:Option.bind x f = some v):(Option.bind x fun q=>Option.bind (f q) g) = g v:=by
 cases x with
 | none=>cases h
 | some a=>exact bnd (show f a = some v from h)
theorem zud {r:za} {s:zd} {me:pMe} (hr:zO r) (hs:qH s) (g:Int) (t:ByteArray):yh (r,s,me,g,t,()) = some (zdQ r s me g t):=by
 simp only [yh]
 refine (bnd (yj hr hs me)).trans ?_
 unfold zdQ
 cases h:zS r s && jD r me with
 | false=>rfl
 | true =>
  simp only [Bool.and_eq_true] at h
  have x:Ctx r s me:=⟨h.1,h.2⟩
  have hb:=(zT x.rs).1
  refine (cT rfl).trans ?_
  refine (bnd (zBE r g)).trans ?_
  cases hg:isG r g with
  | false=>rfl
  | true =>
   refine (cT rfl).trans ?_
   refine (zMc (yR (r,me.2.1,())) (fun q2=>jq (q2.1,g,())) _ (zFJ hr hb x.lab hg)).trans ?_
   show cond (zes r me.2.1 g) _ _ = _
   cases zes r me.2.1 g with
   | false=>rfl
   | true =>
    refine (cT rfl).trans ?_
    refine (bnd (zke t)).trans ?_
    cases zaX t with
    | false=>rfl
    | true =>
     refine (cT rfl).trans ?_
     exact bnd (zvV hr x (f:=zjF) (also:=fun _=>true) fun i u hi h0=>rfl)
theorem zzA {labels:List zo} {m:Nat}:∀ (l:List zN) (last:Int),zdN labels m last l = true→∀ g ∈ l,(labels.any fun y=>eqI zn (j4 g.1) y) = true
 | [],_,_,g,hg=>by cases hg
 | a :: l,last,h,g,hg=>by
  simp only [zdN,zAL,Bool.and_eq_true] at h
  rcases List.mem_cons.1 hg with rfl | hg
  ·exact h.1.2.2.2
  ·exact zzA l a.1 h.2 g hg
theorem zFK {b:Int} (i:Nat):zak (zrc b) i = decide (b.toNat = i):=by
 unfold zak zrc
 rw [Int.toNat_natCast,Nat.testBit_two_pow]
theorem zBF {b:Int} (hb:jM b = true) {L:zo} (h0:0 ≤ (L.1:Int)):jb (j4 b) L = zak L.2.1 b.toNat:=by
 simp only [jM,Bool.and_eq_true,decide_eq_true_eq] at hb
 rw [Bool.eq_iff_iff]
 unfold jb
 simp only [Bool.and_eq_true,decide_eq_true_eq,List.all_eq_true,Bool.or_eq_true,Bool.not_eq_true']
 have e:∀ i,zak (j4 b).2.1 i = decide (b.toNat = i):=fun i=>zFK i
 constructor
 ·rintro ⟨-,h⟩
  rcases h b.toNat (by rw [List.mem_range'_1]; omega) with h | h
  ·rw [e] at h; simp at h
  ·exact h
 ·intro h
  refine ⟨h0,fun i _=>?_⟩
  rw [e]
  by_cases hi:b.toNat = i
  ·right; rw [← hi]; exact h
  ·left; exact decide_eq_false hi
theorem zzB {a b L:zo} (h:eqI zn a b = true):jb a L = jb b L:=by
 rw [zFC] at h
 unfold jb
 rw [h.1,h.2]
theorem zFL {r:za} (hb:zG r = true) {i:Int} (hi:qc r i = true):0 ≤ ((r.1.getD i.toNat zA).1:Int):=by
 have h:=(zjU hb).1
 have hi':=zFD hi
 simp only [zf5,Bool.and_eq_true,List.all_eq_true] at h
 have:=h.2.2.1 _ (zU (i:=i.toNat) (d:=zA) (by omega))
 simp only [yS,qf,decide_eq_true_eq] at this
 exact this.1
theorem zCX {l:List zo} {a:zo} (hl:l.length ≤ Go.maxLen):zbm (l,a,()) = some (qu (fun y=>eqI zn a y) l 0,()) :=
 zw7 (B:=qX) (l:=l) zA (fun i=>(l,(l.length:Int),i,a)) hl (fun k i x hi hx _=>by
  simp only [qX]
  rw [ltT hi,zC hi,qe,hx]; rfl) (fun k=>by simp only [qX]; rw [ltF]; rfl)
def zm7 (r:za) (g:Int):Int:=qu (fun y=>eqI zn (j4 (ix zD r.2.2.2.1 g).1) y) r.1 0
theorem zKm {r:za} (hb:zG r = true) {g:Int} (hg:isG r g = true):qc r (zm7 r g) = true ∧ eqI zn (j4 (ix zD r.2.2.2.1 g).1) (r.1.getD (zm7 r g).toNat zA) = true:=by
 have hg':=zqk hg
 have hb':=hb
 simp only [zG,zjL,Bool.and_eq_true] at hb'
 have hany:=zzA _ _ hb'.2.2.2.1.2.1 (ix zD r.2.2.2.1 g) (zU (by omega))
 have hn:=zBA (p:=fun y=>eqI zn (j4 (ix zD r.2.2.2.1 g).1) y) r.1 0 (Int.le_refl 0)
 rw [hany] at hn
 have hn':=of_decide_eq_false hn
 have h1:=zxj (p:=fun y=>eqI zn (j4 (ix zD r.2.2.2.1 g).1) y) zA r.1 0 (Int.le_refl 0) hn'
 have h2:=zqh (p:=fun y=>eqI zn (j4 (ix zD r.2.2.2.1 g).1) y) r.1 0 (Int.le_refl 0)
 rw [Int.sub_zero] at h1
 refine ⟨?_,h1⟩
 simp only [qc,decide_eq_true_eq]
 unfold zm7
 omega
theorem zIW {r:za} (hb:zG r = true) {i g:Int} (hi:qc r i = true) (hg:isG r g = true):zep r (zm7 r g) i = zes r i g:=by
 obtain ⟨h1,h2⟩:=zKm hb hg
 have hg':=zqk hg
 unfold zep zes
 rw [h1,hi,Bool.true_and,Bool.true_and,← zzB h2]
 exact zBF ((zjU hb).2 _ (zU (by omega))) (zFL hb hi)
theorem zA1 {r:za} (hr:zO r) (hb:zG r = true) {g:Int} (hg:isG r g = true):zf2 (r,g,()) = some (zm7 r g,()):=by
 have hg':=zqk hg
 have h8:=(qj hb).guilds
 have hl:=(qj hb).labels
 simp only [zf2]
 refine (bnd (yr r hr)).trans ?_
 rw [hb]
 refine (cT rfl).trans ?_
 refine (bnd (zc2 _ _ _)).trans ?_
 have hw:qf g 0 (wI ((r.2.2.2.1.length:Int) - 1)) = true:=by
  rw [zpb (i:=r.2.2.2.1.length) (by omega) (by unfold Go.maxLen; omega)]
  unfold qf
  exact decide_eq_true (by omega)
 refine (cT hw).trans ?_
 refine (ixR hg').trans ?_
 refine (bnd (ziW _)).trans ?_
 rw [(zjU hb).2 (ix zD r.2.2.2.1 g) (zU (by omega))]
 have hp:zg5 (r,j4 (ix zD r.2.2.2.1 g).1,()) = some (zm7 r g,()):=by
  simp only [zg5]
  refine (bnd (yr r hr)).trans ?_
  rw [hb]
  refine (cT rfl).trans ?_
  exact bnd (zCX (by unfold Go.maxLen; omega))
 exact bnd hp
abbrev zIX (s:zd) (g:Int):List Int:=s.2.2.1.getD g.toNat []
def zfH (r:za) (s:zd) (me:pMe) (g:Int):List Int × Int × Unit:=bif zS r s && jD r me then bif isG r g then bif zes r me.2.1 g then (zIX s g,0,()) else ([],5,()) else ([],1,()) else ([],1,())
theorem zhv {r:za} {s:zd} (h:zS r s = true):vn r s.2.2.1 = true:=by
 have hp:=(zT h).2.2
 simp only [zb2,Bool.and_eq_true] at hp; exact hp.1
theorem zql {r:za} {s:zd} {me:pMe} (hr:zO r) (hs:qH s) (g:Int):vN (r,s,me,g,()) = some (zfH r s me g):=by
 simp only [vN]
 refine (bnd (yj hr hs me)).trans ?_
 unfold zfH
 cases h:zS r s && jD r me with
 | false=>rfl
 | true =>
  simp only [Bool.and_eq_true] at h
  have x:Ctx r s me:=⟨h.1,h.2⟩
  have hb:=(zT x.rs).1
  have hh:=zhv x.rs
  refine (cT rfl).trans ?_
  refine (bnd (zBE r g)).trans ?_
  cases hg:isG r g with
  | false=>rfl
  | true =>
   have hg':=zqk hg
   refine (cT rfl).trans ?_
   refine (bnd (zA1 hr hb hg)).trans ?_
   refine (bnd (zoZ hr hb _ _)).trans ?_
   show cond (zep r (zm7 r g) me.2.1) _ _ = _
   rw [zIW hb x.lab hg]
   cases zes r me.2.1 g with
   | false=>rfl
   | true =>
    refine (cT rfl).trans ?_
    refine (ixR (by rw [(yT hh).1]; exact hg')).trans ?_
    exact bnd (zvN (zi4 (Nat.le_trans ((zFF hb hh).2 _ (zU (by rw [(yT hh).1]; omega))) (by omega))))
def zqm (s:zd) (v:List (List Int) × Int × Unit):zd × Int × Unit:=bif v.2.1 != 0 then (zhu,v.2.1,()) else (u2 s v.1,0,())
def zkM (r:za) (s:zd) (me:pMe) (what who:Int):zd × Int × Unit:=bif zS r s && jD r me then bif decide (28 ≤ what ∧ what ≤ 30) then zqm s (zo1 r s.2.2.1 (what - 27) me.2.1 me.2.2.1 who) else (zhu,1,()) else (zhu,1,())
theorem zFM {r:za} {s:zd} {me:pMe} (hr:zO r) (hs:qH s) (what who:Int):zdM (r,s,me,what,who,()) = some (zkM r s me what who):=by
 simp only [zdM]
 refine (bnd (yj hr hs me)).trans ?_
 unfold zkM
 cases h:zS r s && jD r me with
 | false=>rfl
 | true =>
  simp only [Bool.and_eq_true] at h
  have x:Ctx r s me:=⟨h.1,h.2⟩
  have hb:=(zT x.rs).1
  have hc:=zeG (zqg x.rs)
  have fin:∀ v:List (List Int) × Int × Unit,(bif v.2.1 != 0 then some ((0,[],[],[],[],[],()),v.2.1,()) else Option.bind (qR (s,())) fun q2=>some ((q2.1.1,q2.1.2.1,v.1,q2.1.2.2.2.1,q2.1.2.2.2.2.1,q2.1.2.2.2.2.2.1,()),0,())) = some (zqm s v):=fun v=>by
   unfold zqm
   cases v.2.1 != 0 with
   | true=>rfl
   | false=>exact (cF rfl).trans (bnd hc)
  refine (cT rfl).trans ?_
  by_cases h1:what = 28
  ·subst h1
   refine (cT rfl).trans ?_
   refine (bnd (zCW hr hb s.2.2.1 me.2.1 me.2.2.1 who)).trans ?_
   exact fin _
  ·refine (cF (beq_eq_false_iff_ne.2 h1)).trans ?_
   by_cases h2:what = 29
   ·subst h2
    refine (cT rfl).trans ?_
    refine (bnd (zFG hr hb s.2.2.1 me.2.1 me.2.2.1 who)).trans ?_
    exact fin _
   ·refine (cF (beq_eq_false_iff_ne.2 h2)).trans ?_
    by_cases h3:what = 30
    ·subst h3
     refine (cT rfl).trans ?_
     refine (bnd (zFH hr hb s.2.2.1 me.2.1 me.2.2.1 who)).trans ?_
     exact fin _
    ·refine (cF (beq_eq_false_iff_ne.2 h3)).trans ?_
     rw [decide_eq_false (p:=28 ≤ what ∧ what ≤ 30) (by omega)]; rfl
end Go.Proofs.YtkcakhbkoeimdaaGreatDoor
end
section
namespace Go.Proofs.YtkcakhbkoeimdaaGreatDoor
open Go.Ev
theorem zBG (r:za) (s:zd) (me:pMe) (also:Nat→Bool):(zrp r s me also).length ≤ r.2.1.length:=zFI _ _
theorem zA2 {r:za} (s:zd) (me:pMe) (t:ByteArray):(zjW r s me t).1.length ≤ 8:=by
 unfold zjW
 cases h:zS r s && jD r me with
 | false=>exact Nat.zero_le _
 | true =>
  simp only [Bool.and_eq_true] at h
  have x:Ctx r s me:=⟨h.1,h.2⟩
  cases zaX t with
  | false=>exact Nat.zero_le _
  | true=>exact Nat.le_trans (zBG r s me _) x.seats.2
theorem zue {r:za} (s:zd) (me:pMe) (g:Int) (t:ByteArray):(zdQ r s me g t).1.length ≤ 8:=by
 unfold zdQ
 cases h:zS r s && jD r me with
 | false=>exact Nat.zero_le _
 | true =>
  simp only [Bool.and_eq_true] at h
  have x:Ctx r s me:=⟨h.1,h.2⟩
  cases isG r g with
  | false=>exact Nat.zero_le _
  | true =>
   cases zes r me.2.1 g with
   | false=>exact Nat.zero_le _
   | true =>
    cases zaX t with
    | false=>exact Nat.zero_le _
    | true=>exact Nat.le_trans (zBG r s me _) x.seats.2
theorem zGZ {r:za} (s:zd) (me:pMe) (g:Int):(zfH r s me g).1.length ≤ 8:=by
 unfold zfH
 cases h:zS r s && jD r me with
 | false=>exact Nat.zero_le _
 | true =>
  simp only [Bool.and_eq_true] at h
  have x:Ctx r s me:=⟨h.1,h.2⟩
  have hh:=zhv x.rs
  cases hg:isG r g with
  | false=>exact Nat.zero_le _
  | true =>
   have hg':=zqk hg
   cases zes r me.2.1 g with
   | false=>exact Nat.zero_le _
   | true=>exact (zFF (zT x.rs).1 hh).2 _ (zU (by rw [(yT hh).1]; omega))
theorem zop {l:List Int} (h:l.length ≤ 2000000):qF (l,l,()) = some (true,()):=by
 rw [zML (zua h),yU (τ:=tI) rfl]
end Go.Proofs.YtkcakhbkoeimdaaGreatDoor
end
section
namespace Go.Proofs.YtkcakhbkoeimdaaGreatDoor
open Go.Ev
structure zIY (r:za) (s:zd) (i:Int) (x y:zi):Prop where
 rooms:y.1 = x.1
 size:∀ q,zfF r y q = zfF r x q
 slots:jB y = true
 sh:zi1 r s i y = true
 held:∀ c,za7 c y = za7 c x
 made:y.2.2.2.2.2.2.2.1 = x.2.2.2.2.2.2.2.1
 spent:y.2.2.2.2.2.2.2.2.1 = x.2.2.2.2.2.2.2.2.1
section
variable {r:za} {s:zd} {i:Int} {y:zi}
theorem zBH (hi:0 ≤ i ∧ i < (s.2.1.length:Int)) (hy:y.1 = (ix zg s.2.1 i).1):zm0 (upd s i y) = zm0 s:=by
 have e:∀ k,((upd s i y).2.1.getD k zg).1 = (s.2.1.getD k zg).1:=fun k=>by
  rw [zrl hi]
  split
  ·rename_i e; subst e; exact hy
  ·rfl
 funext x
 unfold zm0
 rw [e,zAS]
theorem zuf (hi:0 ≤ i ∧ i < (s.2.1.length:Int)) (hy:y.1 = (ix zg s.2.1 i).1):zgO r (upd s i y) = zgO r s:=by
 funext j x
 unfold zgO
 rw [zBH hi hy]
theorem zIZ (hi:0 ≤ i ∧ i < (s.2.1.length:Int)) (hy:y.1 = (ix zg s.2.1 i).1):zi1 r (upd s i y) = zi1 r s:=by
 funext j x
 have e1:zfG r (upd s i y) = zfG r s:=by funext a b; unfold zfG; rw [zuf hi hy]
 have e2:zdV r (upd s i y) = zdV r s:=by funext a b; unfold zdV; rw [zuf hi hy]
 unfold zi1 zqd
 rw [e1,e2,zuf hi hy]
theorem zA3 (hi:0 ≤ i ∧ i < (s.2.1.length:Int)) (f:zi→Int) (hf:f y = f (ix zg s.2.1 i)):qz ((upd s i y).2.1.map f) = qz (s.2.1.map f):=by
 have:=zFt f zg s.2.1 i.toNat y (by omega)
 refine this.trans ?_
 rw [hf]
 exact Int.sub_add_cancel _ _
theorem zLu (hi:0 ≤ i ∧ i < (s.2.1.length:Int)) (k:zIY r s (i.toNat:Int) (ix zg s.2.1 i) y) (c:Int):zi2 (upd s i y) c = zi2 s c:=by
 have e1:zoj (upd s i y) c = zoj s c:=by
  unfold zoj
  rw [zA3 hi (za7 c) (k.held c)]
 have e3:zok (upd s i y) c = zok s c:=by
  unfold zok zrk
  rw [zA3 hi (fun x=>zoi c x.2.2.2.2.2.2.2.1) (by rw [k.made]),zA3 hi (fun x=>zoi c x.2.2.2.2.2.2.2.2.1) (by rw [k.spent])]
 unfold zi2
 rw [e1,e3]
theorem zKn (h:zS r s = true) (hi:0 ≤ i ∧ i < (s.2.1.length:Int)) (k:zIY r s (i.toNat:Int) (ix zg s.2.1 i) y):zS r (upd s i y) = true:=by
 unfold zS at h ⊢
 simp only [Bool.and_eq_true,qE] at h ⊢
 obtain ⟨h1,h2,h3,h4,h5⟩:=h
 refine ⟨h1,?_,?_,fun j hj hj2=>?_,fun c hc hc2=>?_⟩
 ·unfold ziZ at h2 ⊢
  simp only [Bool.and_eq_true,decide_eq_true_eq,qE] at h2 ⊢
  rw [zAS]
  refine ⟨h2.1,h2.2.1,fun j hj1 hj2=>?_⟩
  have:=h2.2.2 j hj1 hj2
  rw [zrl hi]
  split
  ·rename_i e; subst e
   rw [k.size]; exact this
  ·exact this
 ·unfold zb2 at h3 ⊢
  have e1:zjO r (upd s i y) = zjO r s:=rfl
  have e2:zjP r (upd s i y) = zjP r s:=rfl
  rw [zBH hi k.rooms,e1,e2]
  exact h3
 ·rw [zAS] at hj2
  obtain ⟨⟨g1,g2⟩,g3⟩:=h4 j hj hj2
  rw [zIZ hi k.rooms]
  refine ⟨?_,fun c hc hc2=>?_⟩
  ·rw [zrl hi]
   split
   ·rename_i e; subst e
    exact ⟨k.slots,k.sh⟩
   ·exact ⟨g1,g2⟩
  ·have:=g3 c hc hc2
   unfold zol at this ⊢
   rw [zrl hi]
   split
   ·rename_i e; subst e
    rw [k.made]; exact this
   ·exact this
 ·rw [zLu hi k]
  exact h5 c hc hc2
end
theorem zvW {r:za} {s:zd} (h:zS r s = true) {i:Int} (hi:0 ≤ i ∧ i < (s.2.1.length:Int)):jB (ix zg s.2.1 i) = true ∧ zi1 r s (i.toNat:Int) (ix zg s.2.1 i) = true:=by
 simp only [zS,Bool.and_eq_true,qE] at h
 exact (h.2.2.2.1 i.toNat (Nat.zero_le _) (by omega)).1
theorem zLv {r:za} {s:zd} (h:zS r s = true) {i:Int} (hi:0 ≤ i ∧ i < (s.2.1.length:Int)) {l:List zm} (hl:l.length = (qv s i).length) (h1:l.all zcJ = true) (h2:l.all (zjQ r (i.toNat:Int)) = true):zIY r s (i.toNat:Int) (ix zg s.2.1 i) (u3 (ix zg s.2.1 i) l):=by
 obtain ⟨g1,g2⟩:=zvW h hi
 refine ⟨rfl,fun q=>?_,?_,?_,fun c=>rfl,rfl,rfl⟩
 ·unfold zfF
  have e:(u3 (ix zg s.2.1 i) l).2.2.2.1.length = (ix zg s.2.1 i).2.2.2.1.length:=hl
  rw [e]
 ·simp only [jB,Bool.and_eq_true] at g1 ⊢
  exact ⟨g1.1,g1.2.1,g1.2.2.1,h1,g1.2.2.2.2⟩
 ·simp only [zi1,zdO,Bool.and_eq_true] at g2 ⊢
  exact ⟨g2.1,⟨g2.2.1.1,h2,g2.2.1.2.2⟩,g2.2.2⟩
theorem zKo {r:za} {s:zd} (h:zS r s = true) {i:Int} (hi:0 ≤ i ∧ i < (s.2.1.length:Int)):(qv s i).all zcJ = true ∧ (qv s i).all (zjQ r (i.toNat:Int)) = true:=by
 obtain ⟨g1,g2⟩:=zvW h hi
 simp only [jB,zi1,zdO,Bool.and_eq_true] at g1 g2
 exact ⟨g1.2.2.2.1,g2.2.1.2.1⟩
theorem zMQ {s:zd} (hs:qH s) {i:Int} {h:zi} (hh:zlV h):qH (upd s i h):=by
 refine ⟨fun x hx=>?_,hs.orders,hs.entries⟩
 rcases List.mem_or_eq_of_mem_set hx with hx | rfl
 ·exact hs.shelves x hx
 ·exact hh
theorem zzC {a b c:zo} (h1:jb a b = true) (h2:jb b c = true):jb a c = true:=by
 simp only [jb,Bool.and_eq_true,decide_eq_true_eq,List.all_eq_true,Bool.or_eq_true,Bool.not_eq_true'] at h1 h2 ⊢
 refine ⟨by omega,fun i hi=>?_⟩
 rcases h1.2 i hi with h | h
 ·exact .inl h
 ·rcases h2.2 i hi with h' | h'
  ·rw [h] at h'; cases h'
  ·exact .inr h'
theorem zFN {r:za} {s:zd} {a:zo} {i:Int} {h:zi} (hi:jb (r.1.getD i.toNat zA) a = false):qq r a (upd s i h) = qq r a s:=by
 have e:qh zg (fun i=>jb (r.1.getD i zA) a) (List.set s.2.1 i.toNat h) (zc3 r).2.1 = qh zg (fun i=>jb (r.1.getD i zA) a) s.2.1 (zc3 r).2.1:=zzr hi
 exact congrArg (fun l=>(s.1,l,qh [] (fun i=>jb (zer (r.2.2.2.1.getD i zD).1) a) s.2.2.1 (zc3 r).2.2.1,s.2.2.2.1,s.2.2.2.2.1,qh 0 (fun i=>jb (r.1.getD (zaJ r i).toNat zA) a) s.2.2.2.2.2.1 (zc3 r).2.2.2.2.2.1,())) e
theorem zI0 {r:za} {s:zd} {a:zo} {g:Nat} {x:List Int} (hg:jb (zer (r.2.2.2.1.getD g zD).1) a = false):qq r a (u2 s (List.set s.2.2.1 g x)) = qq r a s:=by
 have e:qh [] (fun i=>jb (zer (r.2.2.2.1.getD i zD).1) a) (List.set s.2.2.1 g x) (zc3 r).2.2.1 = qh [] (fun i=>jb (zer (r.2.2.2.1.getD i zD).1) a) s.2.2.1 (zc3 r).2.2.1:=zzr hg
 exact congrArg (fun l=>(s.1,qh zg (fun i=>jb (r.1.getD i zA) a) s.2.1 (zc3 r).2.1,l,s.2.2.2.1,s.2.2.2.2.1,qh 0 (fun i=>jb (r.1.getD (zaJ r i).toNat zA) a) s.2.2.2.2.2.1 (zc3 r).2.2.2.2.2.1,())) e
theorem zG0 {r:za} {s:zd} (h:zS r s = true) {l:List (List Int)} (hl:vn r l = true):zS r (u2 s l) = true:=by
 simp only [zS,zb2,Bool.and_eq_true] at h ⊢
 exact ⟨h.1,h.2.1,⟨hl,h.2.2.1.2⟩,h.2.2.2⟩
theorem zMd {k now:Int} {f:Bool} (h:((zkf k now f).2.1 != 0) = false):(0 ≤ (zkf k now f).1 ∧ (zkf k now f).1 ≤ 2) ∧ (f = true→now ≠ 2):=by
 unfold zkf at h ⊢
 cases h1:k == 1 with
 | true =>
  rw [h1] at h
  simp only [cond_true] at h ⊢
  cases h0:now != 0 with
  | true=>rw [h0] at h; cases h
  | false =>
   simp only [cond_false]
   refine ⟨⟨by omega,by omega⟩,fun _ e=>?_⟩
   rw [e] at h0; cases h0
 | false =>
  rw [h1] at h
  simp only [cond_false] at h ⊢
  cases h2':k == 2 with
  | true =>
   rw [h2'] at h
   simp only [cond_true] at h ⊢
   cases h0:now == 0 with
   | true=>rw [h0] at h; cases h
   | false =>
    rw [h0] at h
    simp only [cond_false] at h ⊢
    cases h2:now == 2 with
    | true=>rw [h2] at h; cases h
    | false =>
     simp only [cond_false]
     exact ⟨⟨by omega,by omega⟩,fun _ e=>absurd e (beq_eq_false_iff_ne.1 h2)⟩
  | false =>
   rw [h2'] at h
   simp only [cond_false] at h ⊢
   cases h0:now == 0 with
   | true=>rw [h0] at h; cases h
   | false =>
    rw [h0] at h
    simp only [cond_false] at h ⊢
    cases f with
    | true=>cases h
    | false=>exact ⟨⟨by show (0:Int) ≤ 0; omega,by show (0:Int) ≤ 2; omega⟩,fun e=>by cases e⟩
theorem zKp {r:za} {l:List (List Int)} (h:vn r l = true) {g who n:Int} (hg:0 ≤ g ∧ g < (r.2.2.2.1.length:Int)) (hw:qy r who = true) (hn:0 ≤ n ∧ n ≤ 2) (hf:((ix zD r.2.2.2.1 g).2.1:Int) ≠ who) (hfi:0 ≤ ((ix zD r.2.2.2.1 g).2.1:Int)):vn r (zjV l g who n) = true:=by
 have hl:=(yT h).1
 have hw':=zFE hw
 simp only [vn,Bool.and_eq_true,decide_eq_true_eq,qE] at h ⊢
 have el:(zjV l g who n).length = l.length:=List.length_set ..
 rw [el]
 refine ⟨h.1,fun i h1 h2=>?_⟩
 have hi:=h.2 i h1 h2
 rw [zLt hg.1 i (by omega)]
 split
 ·rename_i e
  simp only [zqb,Bool.and_eq_true,decide_eq_true_eq] at hi ⊢
  refine ⟨by rw [List.length_set]; exact hi.1,zAT hi.2.1 (by unfold zAN; exact decide_eq_true hn),?_⟩
  have e2:ix zD r.2.2.2.1 g = r.2.2.2.1.getD i zD:=by rw [e,qe]
  rw [e2] at hf hfi
  rw [getD_set_ne (by omega)]
  exact hi.2.2
 ·exact hi
theorem zLw {r:za} {l:List (List Int)} (hb:zG r = true) (hh:vn r l = true) (k place by' who:Int):(∃ e:Int,(e != 0) = true ∧ zo1 r l k place by' who = ([],e,())) ∨ (∃ n,¬ zJ r place < 0 ∧ qc r place = true ∧ zo1 r l k place by' who = (zjV l (zJ r place) who n,0,()) ∧ vn r (zjV l (zJ r place) who n) = true):=by
 unfold zo1
 rw [hh,Bool.true_and]
 cases h3:qc r place && (qy r by' && qy r who) with
 | false=>exact .inl ⟨1,rfl,rfl⟩
 | true =>
  simp only [Bool.and_eq_true] at h3
  simp only [cond_true]
  by_cases hn:zJ r place < 0
  ·rw [decide_eq_true hn]; exact .inl ⟨17,rfl,rfl⟩
  ·rw [decide_eq_false hn]
   have hg:=zm6 hn
   simp only [cond_false]
   cases zbI r l by' place && jk l (zJ r place).toNat by' == 2 with
   | false=>exact .inl ⟨5,rfl,rfl⟩
   | true =>
    simp only [cond_true]
    unfold zAZ
    cases hv:(zgP r l k (zJ r place) who).2.1 != 0 with
    | true=>exact .inl ⟨_,hv,rfl⟩
    | false =>
     have ok:=zMd hv
     have hfi:=(qj hb).heads (zJ r place).toNat (by omega)
     refine .inr ⟨(zgP r l k (zJ r place) who).1,hn,h3.1,rfl,zKp hh hg h3.2.2 ok.1 (fun e=>?_) hfi.1⟩
     have h2:jk l (zJ r place).toNat who = 2:=by
      have hl:=(yT hh).1
      have hh':=hh
      simp only [vn,Bool.and_eq_true,decide_eq_true_eq,qE] at hh'
      have h1:=hh'.2 (zJ r place).toNat (Nat.zero_le _) (by omega)
      simp only [zqb,Bool.and_eq_true,beq_iff_eq] at h1
      rw [← e]
      exact h1.2.2
     exact ok.2 (beq_iff_eq.2 e) h2
theorem zzD {r:za} {i:Int} (hn:¬ zJ r i < 0):eqI zn (j4 (r.2.2.2.1.getD (zJ r i).toNat zD).1) (r.1.getD i.toNat zA) = true:=by
 have:=zxj (p:=fun g:zN=>eqI zn (j4 g.1) (ix zA r.1 i)) zD r.2.2.2.1 0 (Int.le_refl 0) hn
 rw [Int.sub_zero] at this
 exact this
theorem zKq {r:za} (hb:zG r = true) {g:Nat} (hg:g < r.2.2.2.1.length):zer (r.2.2.2.1.getD g zD).1 = j4 (r.2.2.2.1.getD g zD).1:=by
 unfold zer
 rw [(zjU hb).2 _ (zU hg)]; rfl
end Go.Proofs.YtkcakhbkoeimdaaGreatDoor
end
section
namespace Go.Proofs.YtkcakhbkoeimdaaGreatDoor
open Go.Ev
structure zMR (r:za) (s:zd) (me:pMe) (t:zd):Prop where
 right:zS r t = true
 inn:qH t
 view:∀ a,jb (r.1.getD me.2.1.toNat zA) a = false→qq r a t = qq r a s
def zI1 (r:za) (s:zd) (me:pMe) (v:zd × Int × Unit):Prop:=(∃ e:Int,(e != 0) = true ∧ v = (zhu,e,())) ∨ (v.2.1 = 0 ∧ zMR r s me v.1)
theorem zBI {r:za} {s:zd} {me:pMe} (x:Ctx r s me) (hs:qH s) {p:Int} (hp:qc r p = true) (hv:∀ a,jb (r.1.getD me.2.1.toNat zA) a = false→jb (r.1.getD p.toNat zA) a = false) {k:Nat} {m:zm} (h1:zcJ m = true) (h2:zjQ r p m = true):zMR r s me (zFB s p (List.set (qv s p) k m)):=by
 have hi:=x.at_ hp
 have e:(p.toNat:Int) = p:=by omega
 obtain ⟨o1,o2⟩:=zKo x.rs hi
 have a:=hs.shelves _ (zkL hi)
 exact ⟨zKn x.rs hi (zLv x.rs hi (List.length_set ..) (zAT o1 h1) (zAT o2 (by rw [e]; exact h2))),zMQ hs ⟨a.trades,a.purses,a.made,a.spent⟩,fun l hl=>zFN (hv l hl)⟩
theorem zKr {r:za} {s:zd} {me:pMe} (x:Ctx r s me) (hs:qH s) (p who:Int) (text:ByteArray):zI1 r s me (zlN r s me p who text):=by
 have hb:=(zT x.rs).1
 unfold zlN
 rw [x.rs,x.im]
 simp only [Bool.and_true,cond_true]
 cases h4:qc r p && qy r who with
 | false=>exact .inl ⟨1,rfl,rfl⟩
 | true =>
  simp only [Bool.and_eq_true] at h4
  simp only [cond_true]
  cases hle:zep r me.2.1 p with
  | false=>exact .inl ⟨5,rfl,rfl⟩
  | true =>
   simp only [cond_true]
   have hle':jb (r.1.getD me.2.1.toNat zA) (r.1.getD p.toNat zA) = true:=by
    have:=hle
    simp only [zep,Bool.and_eq_true] at this
    exact this.2.2
   cases ht:zaX text with
   | false=>exact .inl ⟨2,rfl,rfl⟩
   | true =>
    simp only [cond_true]
    unfold zoo zgs
    cases decide (zdd (qv s p) < 0) with
    | true =>
     simp only [cond_true]
     cases p == me.2.1 with
     | true=>exact .inl ⟨8,rfl,rfl⟩
     | false=>exact .inr ⟨rfl,x.rs,hs,fun _ _=>rfl⟩
    | false =>
     refine .inr ⟨rfl,zBI x hs h4.1 (fun a h=>?_) ?_ ?_⟩
     ·cases h':jb (r.1.getD p.toNat zA) a with
      | false=>rfl
      | true=>rw [zzC hle' h'] at h; cases h
     ·show ((qW me.2.1 && (qW me.2.2.1 && qW who)) && zaX text) = true
      rw [zHs hb x.lab,zuG hb x.who,zuG hb h4.2,ht]; rfl
     ·show (zep r me.2.1 p && (qy r me.2.2.1 && qy r who)) = true
      rw [hle,x.who,h4.2]; rfl
theorem zKs {r:za} {s:zd} {me:pMe} (x:Ctx r s me) (hs:qH s) (i:Int):zI1 r s me (zlO r s me i):=by
 unfold zlO
 rw [x.rs,x.im]
 simp only [Bool.and_true,cond_true]
 unfold zzw zuH
 rw [(x.mails x.lab).2]
 simp only [cond_true]
 cases isM (qv s me.2.1) i me.2.2.1 with
 | false=>exact .inl ⟨3,rfl,rfl⟩
 | true=>exact .inr ⟨rfl,zBI x hs x.lab (fun _ h=>h) (zhb (τ:=zu) rfl (ze zu)) rfl⟩
theorem zI2 {r:za} {s:zd} {me:pMe} (x:Ctx r s me) (hs:qH s) (what who:Int):zI1 r s me (zkM r s me what who):=by
 have hb:=(zT x.rs).1
 unfold zkM
 rw [x.rs,x.im]
 simp only [Bool.and_true,cond_true]
 cases decide (28 ≤ what ∧ what ≤ 30) with
 | false=>exact .inl ⟨1,rfl,rfl⟩
 | true =>
  simp only [cond_true]
  rcases zLw hb (zhv x.rs) (what - 27) me.2.1 me.2.2.1 who with ⟨e,he,hv⟩ | ⟨n,hn,hl,hv,hr⟩
  ·rw [hv]
   unfold zqm
   simp only [he,cond_true]
   exact .inl ⟨e,he,rfl⟩
  ·rw [hv]
   refine .inr ⟨rfl,zG0 x.rs hr,⟨hs.shelves,hs.orders,hs.entries⟩,fun a ha=>zI0 ?_⟩
   have hg:=zm6 hn
   rw [zKq hb (by omega),zzB (zzD hn)]
   exact ha
def doV (r:za) (s:zd) (me:pMe) (x:vq):zd × Int × Unit:=bif decide (28 ≤ x.2.2.2.1 ∧ x.2.2.2.1 ≤ 30) then zkM r s me x.2.2.2.1 x.2.1 else bif (x.2.2.2.1:Int) == 1 then zlO r s me x.2.2.1 else zlN r s me x.1 x.2.1 x.2.2.2.2.1
theorem zKt {r:za} {s:zd} {me:pMe} (hr:zO r) (hs:qH s) (x:vq):ziT (r,s,me,x,()) = some (doV r s me x):=by
 simp only [ziT]
 unfold doV
 have two:(bif (x.2.2.2.1:Int) == 1 then Option.bind (za6 (r,s,me,x.2.2.1,())) fun q1=>some (q1.1,q1.2.1,()) else Option.bind (y5 (r,s,me,x.1,x.2.1,x.2.2.2.2.1,())) fun q2=>some (q2.1,q2.2.1,())) = some (bif (x.2.2.2.1:Int) == 1 then zlO r s me x.2.2.1 else zlN r s me x.1 x.2.1 x.2.2.2.2.1):=by
  cases (x.2.2.2.1:Int) == 1 with
  | true=>exact bnd (zGY hr hs _)
  | false=>exact bnd (zGX hr hs _ _ _)
 by_cases h1:x.2.2.2.1 ≥ (28:Int)
 ·refine (cT (decide_eq_true h1)).trans ?_
  by_cases h2:x.2.2.2.1 ≤ (30:Int)
  ·refine (cT (decide_eq_true h2)).trans ?_
   rw [decide_eq_true (p:=28 ≤ x.2.2.2.1 ∧ x.2.2.2.1 ≤ 30) ⟨h1,h2⟩]
   exact bnd (zFM hr hs _ _)
  ·refine (cF (decide_eq_false h2)).trans ?_
   rw [decide_eq_false (p:=28 ≤ x.2.2.2.1 ∧ x.2.2.2.1 ≤ 30) (fun h=>h2 h.2)]
   exact two
 ·refine (cF (decide_eq_false h1)).trans ?_
  rw [decide_eq_false (p:=28 ≤ x.2.2.2.1 ∧ x.2.2.2.1 ≤ 30) (fun h=>h1 h.1)]
  exact two
theorem zHt {r:za} {s:zd} {me:pMe} (c:Ctx r s me) (hs:qH s) (x:vq):zI1 r s me (doV r s me x):=by
 unfold doV
 cases decide (28 ≤ x.2.2.2.1 ∧ x.2.2.2.1 ≤ 30) with
 | true=>exact zI2 c hs _ _
 | false =>
  cases (x.2.2.2.1:Int) == 1 with
  | true=>exact zKs c hs _
  | false=>exact zKr c hs _ _ _
abbrev zi6 (r:za) (a:zo) (i:Nat):Bool:=jb (r.1.getD (zaJ r i).toNat zA) a
def zFO (r:za) (a:zo):List Int:=zfa (zi6 r a) r.2.1.length
theorem zFP {r:za} {a:zo} (hr:zO r) (hb:zG r = true) (ha:zbH a) (la:yS a = true):ziP (r,a,()) = some (zFO r a,()):=by
 have h8:=(qj hb).lines
 simp only [ziP]
 refine (bnd (yr r hr)).trans ?_
 refine (cT hb).trans ?_
 refine (bnd (zg7 a)).trans ?_
 refine (cT la).trans ?_
 exact zBD (B:=zdL) (n:=r.2.1.length) (by omega) (p:=zi6 r a) (fun i o=>(r.2.1,(r.2.1.length:Int),i,r,a,o)) (fun k i o hi hI=>by
  have hl:=zHr hb hi
  simp only [zdL]
  rw [ltT hi,y9,qe]
  refine (cT rfl).trans ?_
  refine (zC hi).trans ?_
  refine (ixR hl).trans ?_
  refine (bnd (zeL (zm1 hr _ (zA0 hb hi)) ha)).trans ?_
  show cond (zi6 r a i) _ _ = _
  cases zi6 r a i with
  | false=>rfl
  | true =>
   refine (cT rfl).trans ?_
   exact cT (zbF (by simp; omega))) (fun k o=>by
  simp only [zdL]
  rw [ltF]; rfl)
def zaZ (r:za) (a:zo) (z:Int):Bool:=(zFO r a).any fun y=>z == y
theorem zG1 {r:za} {a:zo} (hr:zO r) (hb:zG r = true) (ha:zbH a) (la:yS a = true) (z:Int):zkc (r,z,a,()) = some (zaZ r a z,()):=by
 have h8:=(qj hb).lines
 rw [zL]
 simp only [zkc]
 refine (bnd (zFP hr hb ha la)).trans ?_
 refine (bnd (zjS (l:=zFO r a) (a:=z) (zua (Nat.le_trans (zFI _ _) (by omega))))).trans ?_
 rfl
theorem zFQ {p:Nat→Bool} {n:Nat} {z:Int}:z ∈ zfa p n ↔ ∃ i:Nat,z = (i:Int) ∧ i < n ∧ p i = true:=by
 unfold zfa
 rw [List.mem_map]
 constructor
 ·rintro ⟨i,hi,rfl⟩
  rw [List.mem_filter,List.mem_range] at hi
  exact ⟨i,rfl,hi.1,hi.2⟩
 ·rintro ⟨i,rfl,h1,h2⟩
  exact ⟨i,by rw [List.mem_filter,List.mem_range]; exact ⟨h1,h2⟩,rfl⟩
theorem zMe {r:za} {a:zo} {i:Nat} (hi:i < r.2.1.length):zaZ r a (i:Int) = zi6 r a i:=by
 unfold zaZ
 rw [Bool.eq_iff_iff,List.any_eq_true]
 constructor
 ·rintro ⟨y,hy,e⟩
  obtain ⟨j,rfl,h1,h2⟩:=zFQ.1 hy
  have:=Int.ofNat.inj (eq_of_beq e)
  subst this
  exact h2
 ·intro h
  exact ⟨(i:Int),zFQ.2 ⟨i,rfl,hi,h⟩,by simp⟩
theorem zuI {r:za} {a:zo} (hr:zO r) (hb:zG r = true) (ha:zbH a) (la:yS a = true) {l:List Int} (hl:l.length ≤ 8):jh (r,l,a,()) = some (l.filter (zaZ r a),()):=by
 have:=jS (B:=zcI) (α:=List Int) (len:=l.length) (by unfold Go.maxLen; omega) (fun i o=>(l,i,r,a,o)) (fun i o=>some (o ++ (l.drop i).filter (zaZ r a),())) (fun i o=>o.length ≤ i) (fun k i o hi hI hk=>by
  simp only [zcI]
  rw [ltT hi,qe,y9,zab 0 hi,List.filter_cons]
  refine (cT rfl).trans ?_
  refine (zC hi).trans ?_
  refine (bnd (zG1 hr hb ha la _)).trans ?_
  show cond (zaZ r a (l.getD i 0)) _ _ = _
  cases zaZ r a (l.getD i 0) with
  | false=>exact (cF rfl).trans (hk o (by omega))
  | true =>
   refine (cT rfl).trans ?_
   refine (zC hi).trans ?_
   refine (cT (zbF (by simp; omega))).trans ?_
   refine (hk _ (by simp; omega)).trans ?_
   rw [List.append_assoc]; rfl) (fun k o _=>by
  simp only [zcI]
  rw [ltF,List.drop_of_length_le (Nat.le_refl _)]
  simp) [] (Nat.le_refl _)
 refine (show jh (r,l,a,()) = _ from this).trans ?_
 rw [List.drop_zero,List.nil_append]
theorem zBJ {r:za} {s:zd} {a:zo} (h:zS r s = true):zt9 (qq r a s):=by
 obtain ⟨hb,hz,hp⟩:=zT h
 have ok:=qj hb
 have sz:=vO hb hz
 have hf:=zqg h
 have hn:=zFy hb
 have h1:=sz.shelves
 have h2:s.2.2.1.length = r.2.2.2.1.length:=(yT (zhv h)).1
 have hq:=ok.quotas
 have f1:(zc3 r).2.1.length = r.1.length:=by show (List.set _ _ _).length = _; rw [List.length_set,List.length_map]; exact hq
 have f2:(zc3 r).2.2.1.length = r.2.2.2.1.length:=List.length_map ..
 refine ⟨?_,?_,hf.orders,hf.entries,?_,fun x hx=>?_,fun l hl=>?_⟩
 ·show (qh _ _ _ _).length * _ ≤ _; rw [zcK]; exact hf.shelves
 ·show (qh _ _ _ _).length * _ ≤ _; rw [zcK]; exact hf.ranks
 ·show (qh _ _ _ _).length * _ ≤ _; rw [zcK]; exact hf.seats
 ·rcases zlL (by omega) hx with hx | hx
  ·exact hf.shelf x hx
  ·exact hn.shelf x hx
 ·rcases zlL (by omega) hl with hl | hl
  ·exact hf.rank l hl
  ·exact hn.rank l hl
theorem zkN:(Option.bind (jP ()) fun q4=>bif q4.1 then some (true,()) else some (false,())) = some (true,()):=bnd zuc
end Go.Proofs.YtkcakhbkoeimdaaGreatDoor
end
section
namespace Go.Proofs.YtkcakhbkoeimdaaGreatDoor
open Go.Ev
theorem zHu {α:Type} {p:α→α→Bool} {a b:List α} (d:α):eqW p a b = true ↔ a.length = b.length ∧ ∀ i,i < a.length→p (a.getD i d) (b.getD i d) = true:=by
 unfold eqW
 simp only [Bool.and_eq_true,decide_eq_true_eq,List.all_eq_true]
 constructor
 ·rintro ⟨h1,h2⟩
  refine ⟨h1,fun i hi=>?_⟩
  have hz:(List.zip a b).getD i (d,d) = (a.getD i d,b.getD i d):=zqO a b i hi (by omega)
  have:=h2 ((List.zip a b).getD i (d,d)) (zU (by rw [List.length_zip]; omega))
  rw [hz] at this; exact this
 ·rintro ⟨h1,h2⟩
  refine ⟨h1,fun q hq=>?_⟩
  obtain ⟨i,hi,rfl⟩:=List.mem_iff_getElem.1 hq
  rw [List.length_zip] at hi
  have:=h2 i (by omega)
  rw [List.getElem_zip]
  rw [List.getD_eq_getElem?_getD,List.getElem?_eq_getElem (by omega),List.getD_eq_getElem?_getD,List.getElem?_eq_getElem (by omega)] at this
  exact this
theorem zdR {α:Type} {p:α→α→Bool} {d:α} (q:Nat→Bool) (hp:∀ x,p x x = true) {l1 l2 f:List α}:eqW p (qh d q l1 f) (qh d q l2 f) = true ↔ l1.length = l2.length ∧ ∀ i,i < l1.length→q i = true→p (l1.getD i d) (l2.getD i d) = true:=by
 have e:∀ (l:List α) (i:Nat),i < l.length→(qh d q l f).getD i d = zg8 d q l f i:=fun l i hi=>by
  unfold qh
  rw [List.getD_eq_getElem?_getD,List.getElem?_map,List.getElem?_range hi]; rfl
 rw [zHu d,zcK,zcK]
 constructor
 ·rintro ⟨hl,h⟩
  refine ⟨hl,fun i hi hq=>?_⟩
  have:=h i hi
  rw [e l1 i hi,e l2 i (by omega)] at this
  unfold zg8 at this
  rw [hq] at this; exact this
 ·rintro ⟨hl,h⟩
  refine ⟨hl,fun i hi=>?_⟩
  rw [e l1 i hi,e l2 i (by omega)]
  unfold zg8
  cases hq:q i with
  | true=>exact h i hi hq
  | false=>exact hp _
abbrev za0 (r:za) (a:zo) (i:Nat):Bool:=jb (r.1.getD i zA) a
abbrev zzE (r:za) (a:zo) (g:Nat):Bool:=jb (zer (r.2.2.2.1.getD g zD).1) a
def eqS:Ty→Bool
 | .unit | .bool | .int _ | .str=>true
 | .pair a b=>eqS a && eqS b
 | .st a=>eqS a
 | _=>false
theorem zxK:∀ {τ:Ty},eqS τ = true→∀ x y:τ.I,eqI τ x y = true→x = y:=by
 intro τ
 induction τ with
 | unit=>intro _ _ _ _; rfl
 | bool=>intro _ x y h; exact beq_iff_eq.1 h
 | int k=>intro _ x y h; exact beq_iff_eq.1 (show ((x:Int) == y) = true from h)
 | str =>
  intro _ x y h
  have h':(x:ByteArray).toList = (y:ByteArray).toList:=beq_iff_eq.1 h
  rw [Go.ByteArray.toList_eq,Go.ByteArray.toList_eq] at h'
  exact Go.WideShapes.bytes_inj h'
 | pair a b iha ihb =>
  intro h x y e
  simp only [eqS,Bool.and_eq_true] at h
  obtain ⟨x1,x2⟩:=x
  obtain ⟨y1,y2⟩:=y
  have e':cond (eqI a x1 y1) (eqI b x2 y2) false = true:=e
  cases h1:eqI a x1 y1 with
  | false=>rw [h1] at e'; cases e'
  | true =>
   rw [h1] at e'
   rw [iha h.1 _ _ h1,ihb h.2 _ _ e']
 | st a ih=>intro h x y e; exact ih h x y e
 | _=>intro h; cases h
theorem zA4 {τ:Ty} (hs:eqS τ = true) {a b:List τ.I} (h:eqL τ a b = true):a = b:=by
 obtain ⟨h1,h2⟩:=(zHu (ze τ)).1 h
 refine List.ext_getElem h1 fun i hi hi'=>?_
 have:=h2 i hi
 rw [List.getD_eq_getElem?_getD,List.getElem?_eq_getElem hi,List.getD_eq_getElem?_getD,List.getElem?_eq_getElem hi'] at this
 exact zxK hs _ _ this
structure Al (r:za) (a:zo) (s t:zd):Prop where
 count:s.2.1.length = t.2.1.length
 shelf:∀ i,i < s.2.1.length→za0 r a i = true→yn (s.2.1.getD i zg) (t.2.1.getD i zg) = true
 rank:∀ g,g < s.2.2.1.length→zzE r a g = true→s.2.2.1.getD g [] = t.2.2.1.getD g []
 seat:∀ i,i < s.2.2.2.2.2.1.length→zi6 r a i = true→zal s i = zal t i
theorem zhS {r:za} {a:zo} {s t:zd} (h:y6 (qq r a s) (qq r a t) = true):Al r a s t:=by
 simp only [y6,Bool.and_eq_true] at h
 obtain ⟨-,h2,h3,-,-,h6⟩:=h
 have a2:=(zdR (za0 r a) zt8).1 h2
 have a3:=(zdR (p:=eqL tI) (zzE r a) (yU (τ:=tI) rfl)).1 h3
 have a6:=(zdR (p:=eqI tI) (zi6 r a) (zhb (τ:=tI) rfl)).1 h6
 exact ⟨a2.1,a2.2,fun g hg hq=>zA4 (τ:=tI) rfl (a3.2 g hg hq),fun i hi hq=>beq_iff_eq.1 (show (zal s i == zal t i) = true from a6.2 i hi hq)⟩
theorem zBK {r:za} {a:zo} {s t:zd} {i:Int} {x y:zi} (h:y6 (qq r a s) (qq r a t) = true) (hxy:za0 r a i.toNat = true→yn x y = true):y6 (qq r a (upd s i x)) (qq r a (upd t i y)) = true:=by
 have h':=h
 simp only [y6,Bool.and_eq_true] at h' ⊢
 obtain ⟨h1,h2,h3⟩:=h'
 have al:=zhS h
 refine ⟨h1,(zdR (l1:=List.set s.2.1 i.toNat x) (l2:=List.set t.2.1 i.toNat y) (za0 r a) zt8).2 ⟨by rw [List.length_set,List.length_set]; exact al.count,fun j hj hq=>?_⟩,h3⟩
 rw [List.length_set] at hj
 by_cases e:i.toNat = j
 ·subst e
  rw [zeM hj,zeM (by have:=al.count; omega)]
  exact hxy hq
 ·rw [getD_set_ne e,getD_set_ne e]
  exact al.shelf j hj hq
theorem zG2 {r:za} {a:zo} {s t:zd} {g:Nat} {x y:List Int} (h:y6 (qq r a s) (qq r a t) = true) (hxy:x = y):y6 (qq r a (u2 s (List.set s.2.2.1 g x))) (qq r a (u2 t (List.set t.2.2.1 g y))) = true:=by
 have h':=h
 simp only [y6,Bool.and_eq_true] at h' ⊢
 obtain ⟨h1,h2,h3,h4⟩:=h'
 obtain ⟨g1,g2⟩:=(zdR (p:=eqL tI) (zzE r a) (yU (τ:=tI) rfl)).1 h3
 refine ⟨h1,h2,(zdR (p:=eqL tI) (l1:=List.set s.2.2.1 g x) (l2:=List.set t.2.2.1 g y) (zzE r a) (yU (τ:=tI) rfl)).2 ⟨by rw [List.length_set,List.length_set]; exact g1,fun j hj hq=>?_⟩,h4⟩
 rw [List.length_set] at hj
 by_cases e:g = j
 ·subst e
  rw [zeM hj,zeM (by omega),hxy]
  exact yU (τ:=tI) rfl y
 ·rw [getD_set_ne e,getD_set_ne e]
  exact g2 j hj hq
theorem zFR {x y:zi} (h:yn x y = true):x.2.2.2.1 = y.2.2.2.1 ∧ x.2.2.2.2.2.2.1 = y.2.2.2.2.2.2.1:=by
 simp only [yn,Bool.and_eq_true] at h
 obtain ⟨-,-,-,h4,-,-,h7,-,-⟩:=h
 exact ⟨zA4 (τ:=zu) rfl h4,zA4 (τ:=zR) rfl h7⟩
theorem zKu {x y:zi} (h:yn x y = true) (l:List zm):yn (u3 x l) (u3 y l) = true:=by
 simp only [yn,Bool.and_eq_true] at h ⊢
 obtain ⟨h1,h2,h3,h4,h5,h6,h7,h8,h9⟩:=h
 exact ⟨h1,h2,h3,yU (τ:=zu) rfl _,h5,h6,h7,h8,h9⟩
def zI3 (r:za) (a:zo) (v w:zd × Int × Unit):Prop:=(∃ e:Int,(e != 0) = true ∧ v = (zhu,e,()) ∧ w = (zhu,e,())) ∨ (v.2.1 = 0 ∧ w.2.1 = 0 ∧ y6 (qq r a v.1) (qq r a w.1) = true)
section
variable {r:za} {a:zo} {s t:zd} {me:pMe}
theorem zxl (al:Al r a s t) (c:Ctx r s me) {p:Int} (hp:qc r p = true) (sv:za0 r a p.toNat = true):qv s p = qv t p:=by
 have:=c.at_ hp
 exact (zFR (al.shelf p.toNat (by omega) sv)).1
theorem zFS (al:Al r a s t) (c:Ctx r s me) {p:Int} (hp:qc r p = true) (sv:za0 r a p.toNat = true) (w:Int):zqi s p w = zqi t p w:=by
 have:=c.at_ hp
 exact congrArg (fun l=>List.getD l (Int.toNat w) (ze zR)) (zFR (al.shelf p.toNat (by omega) sv)).2
theorem zKv (hv:y6 (qq r a s) (qq r a t) = true) (c:Ctx r s me) (d:Ctx r t me) (sv:za0 r a me.2.1.toNat = true) (p who:Int) (text:ByteArray):zI3 r a (zlN r s me p who text) (zlN r t me p who text):=by
 have al:=zhS hv
 unfold zlN
 rw [c.rs,d.rs,c.im]
 simp only [Bool.and_self,cond_true]
 cases h4:qc r p && qy r who with
 | false=>exact .inl ⟨1,rfl,rfl,rfl⟩
 | true =>
  simp only [Bool.and_eq_true] at h4
  simp only [cond_true]
  cases hle:zep r me.2.1 p with
  | false=>exact .inl ⟨5,rfl,rfl,rfl⟩
  | true =>
   simp only [cond_true]
   cases ht:zaX text with
   | false=>exact .inl ⟨2,rfl,rfl,rfl⟩
   | true =>
    simp only [cond_true]
    have hi:=c.at_ h4.1
    cases sp:za0 r a p.toNat with
    | true =>
     have em:=zxl al c h4.1 sp
     have hsh:=al.shelf p.toNat (by omega) sp
     rw [em]
     unfold zoo
     cases (zgs (qv t p) (true,(zi5 me who text).2)).2.2.1 == 0 with
     | true=>exact .inr ⟨rfl,rfl,zBK hv fun _=>zKu hsh _⟩
     | false =>
      simp only [cond_false]
      cases (zgs (qv t p) (true,(zi5 me who text).2)).2.2.1 == 2 with
      | true=>exact .inl ⟨2,rfl,rfl,rfl⟩
      | false =>
       simp only [cond_false]
       cases p == me.2.1 with
       | true=>exact .inl ⟨8,rfl,rfl,rfl⟩
       | false=>exact .inr ⟨rfl,rfl,hv⟩
    | false =>
     have hne:(p == me.2.1) = false:=by
      rw [beq_eq_false_iff_ne]
      intro e
      rw [e] at sp
      exact absurd (show (true = false) from sv.symm.trans sp) (by decide)
     have one:∀ {u:zd},∃ l,zoo u me p (zgs (qv u p) (true,(zi5 me who text).2)) = (u,0,()) ∨ zoo u me p (zgs (qv u p) (true,(zi5 me who text).2)) = (zFB u p l,0,()):=fun {u}=>by
      unfold zoo zgs
      cases decide (zdd (qv u p) < 0) with
      | true=>simp only [cond_true,hne]; exact ⟨[],.inl rfl⟩
      | false=>exact ⟨_,.inr rfl⟩
     have same:∀ {u:zd} {l},qq r a (zFB u p l) = qq r a u:=fun {u l}=>zFN sp
     obtain ⟨l1,h1⟩:=one (u:=s)
     obtain ⟨l2,h2⟩:=one (u:=t)
     refine .inr ?_
     rcases h1 with h1 | h1 <;> rcases h2 with h2 | h2 <;> (rw [h1,h2]; refine ⟨rfl,rfl,?_⟩)
     ·exact hv
     ·rw [same]; exact hv
     ·rw [same]; exact hv
     ·rw [same,same]; exact hv
theorem zKw (hv:y6 (qq r a s) (qq r a t) = true) (c:Ctx r s me) (d:Ctx r t me) (sv:za0 r a me.2.1.toNat = true) (i:Int):zI3 r a (zlO r s me i) (zlO r t me i):=by
 have al:=zhS hv
 have hi:=c.hi
 have em:=zxl al c c.lab sv
 have hsh:=al.shelf me.2.1.toNat (by omega) sv
 unfold zlO
 rw [c.rs,d.rs,c.im,em]
 simp only [Bool.and_self,cond_true]
 unfold zzw
 cases he:(zuH (qv t me.2.1) i me.2.2.1).2.1 != 0 with
 | true=>exact .inl ⟨_,he,rfl,rfl⟩
 | false=>exact .inr ⟨rfl,rfl,zBK hv fun _=>zKu hsh _⟩
theorem zLx (hb:zG r = true) (sv:za0 r a me.2.1.toNat = true) (hl:qc r me.2.1 = true) {g:Nat} (hg:g < r.2.2.2.1.length) (h:zes r me.2.1 (g:Int) = true):zzE r a g = true:=by
 have hg':isG r (g:Int) = true:=by unfold isG; exact decide_eq_true (by omega)
 have e:zer (r.2.2.2.1.getD g zD).1 = j4 (r.2.2.2.1.getD g zD).1:=zKq hb hg
 show jb (zer (r.2.2.2.1.getD g zD).1) a = true
 rw [e]
 refine zzC ?_ sv
 rw [zBF ((zjU hb).2 _ (zU hg)) (zFL hb hl)]
 exact h
theorem zFT (al:Al r a s t) (c:Ctx r s me) (sv:za0 r a me.2.1.toNat = true) {g:Nat} (hg:g < r.2.2.2.1.length) (h:zes r me.2.1 (g:Int) = true):s.2.2.1.getD g [] = t.2.2.1.getD g []:=al.rank g (by rw [(yT (zhv c.rs)).1]; exact hg) (zLx (zT c.rs).1 sv c.lab hg h)
theorem zI4 {p q:Nat→Bool}:∀ (n i:Nat),(∀ j,i ≤ j→j < i + n→p j = q j)→qi p i n = qi q i n:=fun n i h=>by
 rw [Bool.eq_iff_iff,qE,qE]
 constructor
 ·intro hp j h1 h2; rw [← h j h1 h2]; exact hp j h1 h2
 ·intro hp j h1 h2; rw [h j h1 h2]; exact hp j h1 h2
theorem zI5 (al:Al r a s t) (c:Ctx r s me) (sv:za0 r a me.2.1.toNat = true) (w:Int):zbI r s.2.2.1 w me.2.1 = zbI r t.2.2.1 w me.2.1:=by
 unfold zbI
 rw [zI4 r.2.2.2.1.length 0 fun g h1 h2=>?_]
 cases hh:zak (r.1.getD me.2.1.toNat zA).2.1 (r.2.2.2.1.getD g zD).1.toNat with
 | false=>rfl
 | true =>
  have:=zFT al c sv (g:=g) (by omega) (by unfold zes; rw [Int.toNat_natCast]; exact hh)
  unfold jk
  rw [this]
theorem zMf (hb:zG r = true) {i:Int} (hl:qc r i = true) (hn:¬ zJ r i < 0):zes r i ((zJ r i).toNat:Int) = true:=by
 have hg:=zm6 hn
 have h1:=zzD hn
 rw [zFC] at h1
 unfold zes
 rw [Int.toNat_natCast,← h1.2]
 exact (zFK _).trans (decide_eq_true rfl)
theorem zI6 (hv:y6 (qq r a s) (qq r a t) = true) (c:Ctx r s me) (d:Ctx r t me) (sv:za0 r a me.2.1.toNat = true) (what who:Int):zI3 r a (zkM r s me what who) (zkM r t me what who):=by
 have hb:=(zT c.rs).1
 have al:=zhS hv
 unfold zkM
 rw [c.rs,d.rs,c.im]
 simp only [Bool.and_self,cond_true]
 cases decide (28 ≤ what ∧ what ≤ 30) with
 | false=>exact .inl ⟨1,rfl,rfl,rfl⟩
 | true =>
  simp only [cond_true]
  unfold zo1
  rw [zhv c.rs,zhv d.rs,c.lab,c.who]
  simp only [Bool.true_and]
  cases qy r who with
  | false=>exact .inl ⟨1,rfl,rfl,rfl⟩
  | true =>
   simp only [cond_true]
   by_cases hn:zJ r me.2.1 < 0
   ·rw [decide_eq_true hn]; exact .inl ⟨17,rfl,rfl,rfl⟩
   ·rw [decide_eq_false hn]
    have hg:=zm6 hn
    have row:=zFT al c sv (g:=(zJ r me.2.1).toNat) (by omega) (zMf hb c.lab hn)
    have hr:∀ w,jk s.2.2.1 (zJ r me.2.1).toNat w = jk t.2.2.1 (zJ r me.2.1).toNat w:=fun w=>by unfold jk; rw [row]
    simp only [cond_false]
    rw [zI5 al c sv,hr]
    cases zbI r t.2.2.1 me.2.2.1 me.2.1 && jk t.2.2.1 (zJ r me.2.1).toNat me.2.2.1 == 2 with
    | false=>exact .inl ⟨5,rfl,rfl,rfl⟩
    | true =>
     simp only [cond_true]
     have e:zgP r s.2.2.1 (what - 27) (zJ r me.2.1) who = zgP r t.2.2.1 (what - 27) (zJ r me.2.1) who:=by unfold zgP; rw [hr]
     rw [e]
     unfold zAZ
     cases he:(zgP r t.2.2.1 (what - 27) (zJ r me.2.1) who).2.1 != 0 with
     | true=>exact .inl ⟨_,he,by unfold zqm; simp only [cond_true,he],by unfold zqm; simp only [cond_true,he]⟩
     | false =>
      refine .inr ⟨rfl,rfl,?_⟩
      show y6 (qq r a (u2 s (zjV s.2.2.1 _ _ _))) (qq r a (u2 t (zjV t.2.2.1 _ _ _))) = true
      unfold zjV
      exact zG2 hv (by rw [row])
theorem zMg (hv:y6 (qq r a s) (qq r a t) = true) (c:Ctx r s me) (d:Ctx r t me) (sv:za0 r a me.2.1.toNat = true) (x:vq):zI3 r a (doV r s me x) (doV r t me x):=by
 unfold doV
 cases decide (28 ≤ x.2.2.2.1 ∧ x.2.2.2.1 ≤ 30) with
 | true=>exact zI6 hv c d sv _ _
 | false =>
  cases (x.2.2.2.1:Int) == 1 with
  | true=>exact zKw hv c d sv _
  | false=>exact zKv hv c d sv _ _ _
theorem zI7 {p q:Nat→Bool} {n:Nat} (h:∀ i,i < n→p i = q i):zfa p n = zfa q n:=by
 unfold zfa
 refine congrArg (List.map Int.ofNat) (List.filter_congr fun i hi=>h i (List.mem_range.1 hi))
theorem zvX (p:Nat→Bool):(zfa p r.2.1.length).filter (zaZ r a) = zfa (fun i=>p i && zi6 r a i) r.2.1.length:=by
 unfold zfa
 rw [List.filter_map,List.filter_filter]
 refine congrArg (List.map Int.ofNat) (List.filter_congr fun i hi=>?_)
 show (zaZ r a (i:Int) && p i) = _
 rw [zMe (List.mem_range.1 hi),Bool.and_comm]
theorem zzF (al:Al r a s t) (c:Ctx r s me) (d:Ctx r t me) (sv:za0 r a me.2.1.toNat = true) {f g:Nat→Bool} (hfg:∀ i,i < r.2.1.length→¬ zal s i < 0→zi6 r a i = true→f i = g i):(zrp r s me f).filter (zaZ r a) = (zrp r t me g).filter (zaZ r a):=by
 unfold zrp
 rw [zvX,zvX]
 refine zI7 fun i hi=>?_
 cases hq:zi6 r a i with
 | false=>rw [Bool.and_false,Bool.and_false]
 | true =>
  have e:=al.seat i (by rw [c.seats.1]; exact hi) hq
  rw [Bool.and_true,Bool.and_true]
  unfold zzy
  rw [← e]
  by_cases h0:zal s i < 0
  ·rw [decide_eq_true h0]; rfl
  ·rw [hfg i hi h0 hq]
theorem zI8 (al:Al r a s t) (c:Ctx r s me) (d:Ctx r t me) (sv:za0 r a me.2.1.toNat = true) {i:Nat} (hi:i < r.2.1.length) (h0:¬ zal s i < 0) (hq:zi6 r a i = true):zro r s me i = zro r t me i:=by
 have e:=al.seat i (by rw [c.seats.1]; exact hi) hq
 have hb:=(zT c.rs).1
 unfold zro
 rw [← e,zFS al c (zA0 hb hi) hq]
 have e2:zFs s me = zFs t me:=zFS al c c.lab sv me.2.2.1
 rw [e2]
theorem zKx (hv:y6 (qq r a s) (qq r a t) = true) (c:Ctx r s me) (d:Ctx r t me) (sv:za0 r a me.2.1.toNat = true) (x:ByteArray):(zjW r s me x).1.filter (zaZ r a) = (zjW r t me x).1.filter (zaZ r a) ∧ (zjW r s me x).2.1 = (zjW r t me x).2.1:=by
 have al:=zhS hv
 unfold zjW
 rw [c.rs,d.rs,c.im]
 cases zaX x with
 | false=>exact ⟨rfl,rfl⟩
 | true=>exact ⟨zzF al c d sv fun i hi h0 hq=>zI8 al c d sv hi h0 hq,rfl⟩
theorem zG3 (hv:y6 (qq r a s) (qq r a t) = true) (c:Ctx r s me) (d:Ctx r t me) (sv:za0 r a me.2.1.toNat = true) (g:Int) (x:ByteArray):(zdQ r s me g x).1.filter (zaZ r a) = (zdQ r t me g x).1.filter (zaZ r a) ∧ (zdQ r s me g x).2.1 = (zdQ r t me g x).2.1:=by
 have al:=zhS hv
 unfold zdQ
 rw [c.rs,d.rs,c.im]
 cases isG r g with
 | false=>exact ⟨rfl,rfl⟩
 | true =>
  cases zes r me.2.1 g with
  | false=>exact ⟨rfl,rfl⟩
  | true =>
   cases zaX x with
   | false=>exact ⟨rfl,rfl⟩
   | true=>exact ⟨zzF al c d sv fun i hi h0 hq=>rfl,rfl⟩
theorem zCY (hv:y6 (qq r a s) (qq r a t) = true) (c:Ctx r s me) (d:Ctx r t me) (sv:za0 r a me.2.1.toNat = true) (g:Int):zfH r s me g = zfH r t me g:=by
 have al:=zhS hv
 unfold zfH
 rw [c.rs,d.rs,c.im]
 cases hg:isG r g with
 | false=>rfl
 | true =>
  have hg':=zqk hg
  cases hh:zes r me.2.1 g with
  | false=>rfl
  | true =>
   have:=zFT al c sv (g:=g.toNat) (by omega) (by rw [show ((g.toNat:Nat):Int) = g by omega]; exact hh)
   show (zIX s g,(0:Int),()) = (zIX t g,0,())
   unfold zIX
   rw [this]
end
theorem zug {r:za} {s:zd} {a:zo} (hr:zO r) (rb:zG r = true) (la:yS a = false):zc0 (r,s,a,()) = some ((0,[],[],[],[],[],()),1,()):=by
 simp only [zc0]
 refine (bnd (zvS hr)).trans ?_
 rw [rb]
 refine (cF rfl).trans ?_
 refine (bnd (zg7 a)).trans ?_
 exact cF la
theorem zFU {r:za} {s t:zd} {a:zo} (hr:zO r) (rb:zG r = true) (la:yS a = false):zc1 (r,s,t,a,()) = some (false,()):=by
 simp only [zc1]
 refine (bnd (zug hr rb la)).trans ?_
 refine (bnd (zug hr rb la)).trans ?_
 exact cF rfl
theorem zo2 {a b:Int} (h:a = b):(a != b) = false:=by rw [h]; simp
theorem x_TalkAlike {r:za} {s t:zd} {a:zo} (hr:zO r) (hs:qH s) (ht:qH t) (ha:zbH a) {me:pMe} {x:vq}:P_law31_TalkAlike (r,s,t,me,x,a,()) = some (true,()):=by
 simp only [P_law31_TalkAlike]
 refine (bnd (yj hr hs _)).trans ?_
 cases hme:zS r s && jD r me with
 | false=>exact zkN
 | true =>
  simp only [Bool.and_eq_true] at hme
  obtain ⟨rs,im⟩:=hme
  have c:Ctx r s me:=⟨rs,im⟩
  have hb:=(zT rs).1
  refine (cT rfl).trans ?_
  refine (bnd (zsc hr ht)).trans ?_
  cases rt:zS r t with
  | false=>exact zkN
  | true =>
   have d:Ctx r t me:=⟨rt,im⟩
   refine (cT rfl).trans ?_
   refine (ixR (zFD c.lab)).trans ?_
   refine (bnd (zeL (zm1 hr _ c.lab) ha)).trans ?_
   cases sv:jb (r.1.getD me.2.1.toNat zA) a with
   | false=>exact zkN
   | true =>
    refine (cT rfl).trans ?_
    cases la:yS a with
    | false =>
     refine (bnd (zFU hr hb la)).trans ?_
     exact zkN
    | true =>
     refine (bnd (zvU hr rs rt ha la (zBJ rs))).trans ?_
     cases hv:y6 (qq r a s) (qq r a t) with
     | false=>exact zkN
     | true =>
      refine (cT rfl).trans ?_
      refine (bnd (zKt hr hs x)).trans ?_
      refine (bnd (zKt hr ht x)).trans ?_
      have em:=zxl (zhS hv) c c.lab sv
      have m1:vm (r,s,me,()) = some (zIU t me,0,()):=by
       rw [zub hr hs,rs,im]
       show some (z9 (toP me.2.2.1) 0 (qv s me.2.1),(0:Int),()) = _
       rw [em]; rfl
      have m2:vm (r,t,me,()) = some (zIU t me,0,()):=by
       rw [zub hr ht,rt,im]; rfl
      have l1:vo (r,s,me,x.2.2.1,()) = some (zjT r t me x.2.2.1):=by
       rw [zsd hr hs]
       unfold zjT
       rw [rs,rt,em]
      have l2:=zsd hr ht (me:=me) x.2.2.1
      have s1:=zzz hr hs (me:=me) x.2.2.2.2.1
      have s2:=zzz hr ht (me:=me) x.2.2.2.2.1
      have h1:=zud hr hs (me:=me) x.2.2.1 x.2.2.2.2.1
      have h2:=zud hr ht (me:=me) x.2.2.1 x.2.2.2.2.1
      have y1:=zql hr hs (me:=me) x.2.2.1
      have y2:=zql hr ht (me:=me) x.2.2.1
      have ym:=zCY hv c d sv x.2.2.1
      obtain ⟨sa,se⟩:=zKx hv c d sv x.2.2.2.2.1
      obtain ⟨ha1,he1⟩:=zG3 hv c d sv x.2.2.1 x.2.2.2.2.1
      have b1:=zuI hr hb ha la (zA2 (r:=r) s me x.2.2.2.2.1)
      have b2:=zuI hr hb ha la (zA2 (r:=r) t me x.2.2.2.2.1)
      have b3:=zuI hr hb ha la (zue (r:=r) s me x.2.2.1 x.2.2.2.2.1)
      have b4:=zuI hr hb ha la (zue (r:=r) t me x.2.2.1 x.2.2.2.2.1)
      have i1:=zop (zMb d)
      have i2:=zop (Nat.le_trans (zGZ (r:=r) t me x.2.2.1) (by omega))
      have i3:qF ((zjW r s me x.2.2.2.2.1).1.filter (zaZ r a),(zjW r t me x.2.2.2.2.1).1.filter (zaZ r a),()) = some (true,()):=by
       rw [sa]
       exact zop (Nat.le_trans (List.length_filter_le _ _) (Nat.le_trans (zA2 t me _) (by omega)))
      have i4:qF ((zdQ r s me x.2.2.1 x.2.2.2.2.1).1.filter (zaZ r a),(zdQ r t me x.2.2.1 x.2.2.2.2.1).1.filter (zaZ r a),()) = some (true,()):=by
       rw [ha1]
       exact zop (Nat.le_trans (List.length_filter_le _ _) (Nat.le_trans (zue t me _ _) (by omega)))
      rw [ym] at y1
      have me1:(!eqI zu (zjT r t me x.2.2.1).1 (zjT r t me x.2.2.1).1) = false:=by rw [zhb (τ:=zu) rfl]; rfl
      generalize zjW r s me x.2.2.2.2.1 = p1 at *
      generalize zjW r t me x.2.2.2.2.1 = p2 at *
      generalize zdQ r s me x.2.2.1 x.2.2.2.2.1 = p3 at *
      generalize zdQ r t me x.2.2.1 x.2.2.2.2.1 = p4 at *
      generalize zjT r t me x.2.2.1 = p5 at *
      generalize zfH r t me x.2.2.1 = p6 at *
      have w1:=zHt c hs x
      have w2:=zHt d ht x
      rcases zMg hv c d sv x with ⟨e,hne,v1,v2⟩ | ⟨v1,v2,hsim⟩
      ·rw [v1,v2]
       refine (cF (zo2 rfl)).trans ?_
       have he0:((e:Int) == 0) = false:=by
        cases h:(e:Int) == 0 with
        | false=>rfl
        | true=>have:e = 0:=eq_of_beq h; rw [this] at hne; cases hne
       refine (cF he0).trans ?_
       refine (bnd m1).trans ?_
       refine (bnd m2).trans ?_
       refine (bnd l1).trans ?_
       refine (bnd l2).trans ?_
       refine (bnd s1).trans ?_
       refine (bnd s2).trans ?_
       refine (bnd h1).trans ?_
       refine (bnd h2).trans ?_
       refine (bnd y1).trans ?_
       refine (bnd y2).trans ?_
       refine (cF rfl).trans ?_
       refine (cF (zo2 rfl)).trans ?_
       refine (cF (zo2 se)).trans ?_
       refine (cF (zo2 he1)).trans ?_
       refine (cF (zo2 rfl)).trans ?_
       refine (cF me1).trans ?_
       refine (bnd i1).trans ?_
       refine (cT rfl).trans ?_
       refine (bnd i2).trans ?_
       refine (cT rfl).trans ?_
       refine (bnd zuc).trans ?_
       refine (cT rfl).trans ?_
       refine (bnd b1).trans ?_
       refine (bnd b2).trans ?_
       refine (bnd i3).trans ?_
       refine (cT rfl).trans ?_
       refine (bnd b3).trans ?_
       refine (bnd b4).trans ?_
       refine (bnd i4).trans ?_
       rfl
      ·generalize doV r s me x = v at *
       generalize doV r t me x = w at *
       have r1:zS r v.1 = true:=by
        rcases w1 with ⟨e,hne,h⟩ | h
        ·rw [h] at v1
         have v0:e = 0:=v1
         rw [v0] at hne; cases hne
        ·exact h.2.right
       have r2:zS r w.1 = true:=by
        rcases w2 with ⟨e,hne,h⟩ | h
        ·rw [h] at v2
         have v0:e = 0:=v2
         rw [v0] at hne; cases hne
        ·exact h.2.right
       refine (cF (zo2 (v1.trans v2.symm))).trans ?_
       refine (cT (beq_iff_eq.2 v1)).trans ?_
       refine (bnd (zvU hr r1 r2 ha la (zBJ r1))).trans ?_
       refine (cT hsim).trans ?_
       refine (bnd m1).trans ?_
       refine (bnd m2).trans ?_
       refine (bnd l1).trans ?_
       refine (bnd l2).trans ?_
       refine (bnd s1).trans ?_
       refine (bnd s2).trans ?_
       refine (bnd h1).trans ?_
       refine (bnd h2).trans ?_
       refine (bnd y1).trans ?_
       refine (bnd y2).trans ?_
       refine (cF rfl).trans ?_
       refine (cF (zo2 rfl)).trans ?_
       refine (cF (zo2 se)).trans ?_
       refine (cF (zo2 he1)).trans ?_
       refine (cF (zo2 rfl)).trans ?_
       refine (cF me1).trans ?_
       refine (bnd i1).trans ?_
       refine (cT rfl).trans ?_
       refine (bnd i2).trans ?_
       refine (cT rfl).trans ?_
       refine (bnd zuc).trans ?_
       refine (cT rfl).trans ?_
       refine (bnd b1).trans ?_
       refine (bnd b2).trans ?_
       refine (bnd i3).trans ?_
       refine (cT rfl).trans ?_
       refine (bnd b3).trans ?_
       refine (bnd b4).trans ?_
       refine (bnd i4).trans ?_
       rfl
end Go.Proofs.YtkcakhbkoeimdaaGreatDoor
end
section
namespace Go.Proofs.YtkcakhbkoeimdaaGreatDoor.fnTalkAlike
open Go.ChangeShapes Go.WideShapes Go.ChangeAt Go.RowKit Go.Ev
abbrev tab:List Int:=[0,1,56,2,57,49,28,3,61,58,42,50,38,29,17,4,62,47,59,36,45,43,51,22,53,39,33,30,24,18,12,5,63,55,48,27,60,41,37,16,46,35,44,21,52,32,23,11,54,26,40,15,34,20,31,10,25,14,19,9,13,8,7,6]
theorem own:ownKnob Tryz.prog.godebug = none:=by kernel_rfl
theorem gTab:Tryz.prog.globalNamed "math/bits.deBruijn64tab" = some 0:=by kernel_rfl
theorem gTabType:(Tryz.prog.globals[0]?).map (·.type) = some 309:=by kernel_rfl
theorem cellsA:Tryz.prog.cellsOf 309 = 64:=by kernel_rfl
theorem cellsE:Tryz.prog.cellsOf 5 = 1:=by kernel_rfl
theorem undA:Tryz.prog.underlying 309 = some (.array 64 5):=by kernel_rfl
theorem undE:Tryz.prog.underlying 5 = some (.int .u8):=by kernel_rfl
theorem table {W:World} (h:laidMetH Tryz.prog Rows.talkAlikeRow.laid W):Lib.TabIs Tryz.prog W "math/bits.deBruijn64tab" .u8 tab :=
 Lib.tabIs_of_head gTab gTabType undA undE cellsE cellsA h
theorem cell_FH {W:World} {j:Nat} {v:Value} (h:W.cell? ⟨0,j,none⟩ = some v):∃ c,FH.of W 0 = some c ∧ c[j]? = some v:=by
 unfold World.cell? at h
 simp only at h
 split at h
 ·rename_i c el fz hk
  exact ⟨c,by simp [FH.of,hk],by simpa using h⟩
 ·cases h
def cellsL:List Int→List Value:=List.map (Value.int .u8)
theorem repL (P:Program) (F:FH):∀ l:List Int,RepL (Rep P F (.int .u8)) l (cellsL l)
 | []=>rfl
 | x :: l=>⟨[.int .u8 x],cellsL l,rfl,rfl,repL P F l⟩
theorem extOk:∀ f add,Ev.look ext f = some add→ExtOk Tryz.prog f add:=by
 intro f add h
 have h':(Nat.beq 350 f = true ∧ add = false) ∨ (Nat.beq 368 f = true ∧ add = true):=by
  simp only [ext,Ev.look] at h
  cases h1:Nat.beq 350 f with
  | true=>rw [h1] at h; exact .inl ⟨rfl,(Option.some.inj h).symm⟩
  | false =>
   rw [h1] at h
   cases h2:Nat.beq 368 f with
   | true=>rw [h2] at h; exact .inr ⟨rfl,(Option.some.inj h).symm⟩
   | false=>rw [h2] at h; cases h
 rcases h' with ⟨h1,rfl⟩ | ⟨h1,rfl⟩
 ·obtain rfl:=Nat.eq_of_beq_eq_true h1
  intro x y w hx hy hy2
  obtain ⟨m,rfl⟩:=Int.eq_ofNat_of_zero_le hx
  obtain ⟨n,rfl⟩:=Int.eq_ofNat_of_zero_le hy
  rw [run_callFunc_extern (P:=Tryz.prog) (f:=350) Tryz.func350 (by kernel_rfl) (by kernel_rfl) (by kernel_rfl) (e:=sub64Entry) (by kernel_rfl)]
  have h0:(sub64Entry #[.int .u64 (m:Int),.int .u64 (n:Int),.int .u64 0]).run Tryz.prog w = .ok (.tuple #[.int .u64 (((m + 18446744073709551616 - n - 0) % 18446744073709551616:Nat):Int),.int .u64 ((if m < n + 0 then 1 else 0:Nat):Int)]) w:=run_sub64 m n 0 (by omega) w
  have e1:extA false (m:Int) (n:Int) = (((m + 18446744073709551616 - n - 0) % 18446744073709551616:Nat):Int):=by
   show ((m:Int) - (n:Int)) % 18446744073709551616 = _
   omega
  have e2:extB false (m:Int) (n:Int) = ((if m < n + 0 then 1 else 0:Nat):Int):=by
   show cond (decide ((m:Int) < (n:Int))) 1 0 = _
   by_cases h:m < n
   ·rw [decide_eq_true (by omega),if_pos (by omega)]; rfl
   ·rw [decide_eq_false (by omega),if_neg (by omega)]; rfl
  rw [h0,e1,e2]
  rfl
 ·obtain rfl:=Nat.eq_of_beq_eq_true h1
  intro x y w hx hy hy2
  rw [run_callFunc_extern (P:=Tryz.prog) (f:=368) Tryz.func368 (by kernel_rfl) (by kernel_rfl) (by kernel_rfl) (e:=add64Entry) (by kernel_rfl),run_add64 x y 0 hx hy (by omega) (by omega),Int.add_zero]
  rfl
theorem env {W:World} (hL:laidMetH Tryz.prog Rows.talkAlikeRow.laid W):EnvOk Tryz.prog (FH.of W) E0:=by
 refine EnvOk.nil (by kernel_rfl) (fun g v hv=>?_) extOk
 have ht:=table hL
 obtain ⟨c,hc,-⟩:=cell_FH (ht.cell gTab 0 (by decide))
 have hg:g = 0:=by
  have hv2:Ev.look glob g = some v:=hv
  simp only [glob,Ev.look] at hv2
  cases hb:Nat.beq 0 g with
  | true=>exact (Nat.eq_of_beq_eq_true hb).symm
  | false=>rw [hb] at hv2; cases hv2
 subst hg
 have hv':some (AV.dat (.ptr (.arr 64 (.int .u8))) (some tab)) = some v:=hv
 cases hv'
 refine ⟨.arr 64 (.int .u8),tab,cellsL tab,rfl,⟨rfl,c,hc,fun j v hj=>?_⟩,⟨rfl,repL _ _ tab⟩⟩
 have hj':j < tab.length:=by
  have:=List.getElem?_eq_some_iff.1 hj
  obtain ⟨h,-⟩:=this
  simpa [cellsL] using h
 obtain ⟨c',hc',h0⟩:=cell_FH (ht.cell gTab j hj')
 rw [hc] at hc'
 obtain rfl:=Option.some.inj hc'
 have:(cellsL tab)[j]? = some (.int .u8 (tab.getD j 0)):=by
  unfold cellsL
  rw [List.getElem?_map,List.getD_eq_getElem?_getD,List.getElem?_eq_getElem hj']; rfl
 rw [this] at hj
 rw [← hj]
 show c[0 + j]? = _
 rw [Nat.zero_add]; exact h0
set_option maxRecDepth 100000 in
theorem contract (H:Type) (enc:TypeId × Value→H) (W:World) (base:Nat) (args:Array Value) (ds gs:List (DataW H)) (before:List MemPlace)
 (hval:∀ (j:Nat) t v,Tryz.f6.params[j]? = some t→args[j]? = some v→Value.okWide Tryz.prog W .any base t v)
 (hW:DataW.Whole enc Tryz.prog Tryz.f6.params.toList Rows.talkAlikeSpec.vars false W args.toList ds gs before) (hL:laidMetH Tryz.prog Rows.talkAlikeRow.laid W) :
 Calls Tryz.prog 6 args W fun e W'=>∃ v,e = .returned v ∧ Rows.talkAlikeSpec.post enc Tryz.prog Tryz.f6 false true false false W args v W':=by
 refine law_contract (a:=A_law31_TalkAlike) (tb:=4) (by kernel_rfl) (by decide +kernel) (by kernel_rfl) (by kernel_rfl) (by kernel_rfl) rfl (fun ds hd=>?_) hval hW fun x hx hbk hr=>?_
 ·have:Tryz.f6.params.size = 6:=by kernel_rfl
  rw [this] at hd
  match ds,hd with
  | [d1,d2,d3,d4,d5,d6],_=>rfl
 ·have hs:=s_law31_TalkAlike (FH.of W) (env hL)
  have he:P_law31_TalkAlike x = some (true,()):=by
   obtain ⟨r,s,t,m,x,a,⟨⟩⟩:=x
   exact x_TalkAlike (realmIn hx.1) (stateIn hx.2.1) (stateIn hx.2.2.1) (wf_u64 hx.2.2.2.2.2.1.2.1)
  have hc:=hs.2 x (true,()) he (FH.of W) W args.toList (FH.le.refl _) (FH.of_ok W) hr
  refine hc.mono fun e W' he=>?_
  obtain ⟨us,F',h1,h2,_,_,h3⟩:=he
  refine ⟨?_,h2⟩
  obtain ⟨v,r,hus,hv,hva,hnil⟩:=(show RepA Tryz.prog F' (.pair .bool .unit) (true,()) us from h3)
  have hr0:r = []:=hnil
  subst hr0
  have hv':v.cells.toList = [.bool true]:=hv
  rw [h1,hus]
  have hva':isAggV v = false:=hva
  have:v = .bool true:=by
   cases v <;> first | (simp [isAggV] at hva'; done) | (simp [Value.cells] at hv'; exact congrArg _ hv') | (simp [Value.cells] at hv')
  rw [this]
  rfl
def putC (l:List Value):Obj→Obj
 | .cells _ t frozen=>.cells l.toArray t frozen
 | o=>o
noncomputable def laidWorld (os:Os):World :=
 { World.holding Tryz.prog os ⟨#[],#[],[]⟩ with heap:=(((World.holding Tryz.prog os ⟨#[],#[],[]⟩).heap.modify 0 (putC (cellsL tab))).modify 1 (putC (cellsL (Pinned.utf8FirstZ.map fun n:Nat=>(n:Int))))).modify 2 (putC (cellsL [128,191,160,191,128,159,144,191,128,143,0,0,0,0,0,0,0,0,0,0,0,0,0,0,0,0,0,0,0,0,0,0])) }
def arg0:Value:=.agg #[.slice none 0 0,.slice none 0 0,.slice none 0 0,.slice none 0 0,.slice none 0 0,.int .i64 0,.int .i64 0,.int .i64 0,.int .i64 0]
def arg1:Value:=.agg #[.int .u64 0,.slice none 0 0,.slice none 0 0,.slice none 0 0,.slice none 0 0,.slice none 0 0]
def arg2:Value:=.agg #[.int .u64 0,.slice none 0 0,.slice none 0 0,.slice none 0 0,.slice none 0 0,.slice none 0 0]
def arg3:Value:=.agg #[.int .i64 0,.int .i64 0,.int .i64 0]
def zI9:Value:=.agg #[.int .i64 0,.int .i64 0,.int .i64 0,.int .i64 0,.string ⟨#[]⟩]
def zJa:Value:=.agg #[.int .i64 0,.int .u64 0]
theorem laid_met (os:Os):laidMet Tryz.prog Rows.talkAlikeRow.laid ((laidWorld os).forCall (fun _ _=>0) ⟨#[],#[arg0,arg1,arg2,arg3,zI9,zJa],[]⟩).memory :=
 laidMet_of_run' 8 (by kernel_rfl) (by kernel_rfl)
theorem reads (os:Os) {H:Type} (enc:TypeId × Value→H):∃ places,DataW.whole enc Tryz.prog ((laidWorld os).forCall (fun _ _=>0) ⟨#[],#[arg0,arg1,arg2,arg3,zI9,zJa],[]⟩).memory Tryz.f6.params.toList Rows.talkAlikeSpec.vars false #[arg0,arg1,arg2,arg3,zI9,zJa].toList 8 = some ([.agg [.nil,.nil,.nil,.nil,.nil,.lit (.int .i64 0),.lit (.int .i64 0),.lit (.int .i64 0),.lit (.int .i64 0)],.agg [.lit (.int .u64 0),.nil,.nil,.nil,.nil,.nil],.agg [.lit (.int .u64 0),.nil,.nil,.nil,.nil,.nil],.agg [.lit (.int .i64 0),.lit (.int .i64 0),.lit (.int .i64 0)],.agg [.lit (.int .i64 0),.lit (.int .i64 0),.lit (.int .i64 0),.lit (.int .i64 0),.lit (.string [])],.agg [.lit (.int .i64 0),.lit (.int .u64 0)]],[],places) :=
 ⟨[],by kernel_rfl⟩
set_option maxRecDepth 100000 in
theorem lifted (os:Os) (started:os.Started) (H:Type) (enc:TypeId × Value→H) (F:Stop.Interp) :
 ReturnsInHanded {} Tryz.checked os 6 .any ((OpenSpec.ofChange Rows.talkAlikeSpec).preRow enc Tryz.prog Tryz.f6 Rows.talkAlikeRow.domain false Rows.talkAlikeRow.laid) (((OpenSpec.ofChange Rows.talkAlikeSpec).at F).post enc Tryz.prog Tryz.f6 false true false false):=by
 obtain ⟨places,hx⟩:=reads os enc
 refine returnsInHanded_of_row (C:=Tryz.checked) (s:=OpenSpec.ofChange Rows.talkAlikeSpec) own started (by kernel_rfl) Tryz.func6
  (witness_row_at (enc:=enc) (C:=Tryz.checked) false (laidWorld os) #[arg0,arg1,arg2,arg3,zI9,zJa] rfl (by kernel_rfl) (by kernel_rfl) (by kernel_rfl)
   (OpenSpec.preRow_of_cond 8 hx (by kernel_rfl) (fun k hk=>by cases hk) (by kernel_rfl) (laid_met os))) ?_
 intro W base args ds gs before hval hW _ _ _ hL _ _
 exact contract H enc W base args ds gs before hval hW hL
end Go.Proofs.YtkcakhbkoeimdaaGreatDoor.fnTalkAlike
end
section
namespace Go.Proofs.YtkcakhbkoeimdaaGreatDoor.fnTalkAlike
open Go.ChangeShapes Go.WideShapes Go.ChangeAt Go.RowKit Go.Ev
theorem k2:laidOutB Tryz.prog = true:=by kernel_rfl
theorem k3:mapsRowed Tryz.prog = true:=by kernel_rfl
theorem k10:(Rows.talkAlikeRow.inPlace == Tryz.prog.inPlace 6) = true:=by kernel_rfl
theorem k11:(Rows.talkAlikeRow.unfollowed == Tryz.prog.unfollowed 6) = true:=by kernel_rfl
theorem k12:(Rows.talkAlikeRow.recurses == Tryz.prog.recurses 6) = true:=by kernel_rfl
theorem k13:(Rows.talkAlikeRow.named == Tryz.prog.varsNamed 6) = true:=by kernel_rfl
theorem k23:(Rows.talkAlikeRow.plainKeys == Tryz.prog.plainKeys) = true:=by kernel_rfl
theorem k24:Tryz.prog.stopsHeard = true:=by kernel_rfl
theorem k25:Tryz.prog.mayEnter = true:=by kernel_rfl
theorem k26:(Rows.talkAlikeRow.lifted == Tryz.prog.liftsFinal) = true:=by kernel_rfl
theorem k27:(Tryz.prog.make == some Rows.talkAlikeRow.make) = true:=by kernel_rfl
theorem closed0:joinedFacts Tryz.prog 6 Tryz.f6 (OpenSpec.ofChange Rows.talkAlikeSpec).bare Rows.talkAlikeRow = true:=by
 unfold joinedFacts
 rw [k2,k3,k10,k11,k12,k13,k23,k24,k25,k26,k27]
 kernel_rfl
theorem peq:Tryz.pinned.checked.prog = Tryz.prog:=by kernel_rfl
theorem closed:joinedFacts Tryz.pinned.checked.prog 6 Tryz.f6 (OpenSpec.ofChange Rows.talkAlikeSpec).bare Rows.talkAlikeRow = true:=by
 rw [peq]; exact closed0
end Go.Proofs.YtkcakhbkoeimdaaGreatDoor.fnTalkAlike
end
