import Derived.Test.YtkcakhbkoeimdaaGreatDoorMce
import Derived.Shelf.Spec.BitsCarry
import Derived.Test.YtkcakhbkoeimdaaGreatDoorCards
import Derived.Test.YtkcakhbkoeimdaaGreatDoorTie
import Derived.ProofKit
import Derived.OpenShut
import Derived.Deep.DeepHandedRow
import Derived.Lib.LaidTab
set_option linter.unusedVariables false
set_option linter.unusedSimpArgs false
section
namespace Go.Proofs.YtkcakhbkoeimdaaGreatDoor
open Go.Ev
theorem ziz {r:za} (hr:zU r) (i:Int):vY (r,i,()) = some (zL r && qp r i,()):=by
 rw [zM]
 simp only [vY,zbG r hr,Option.bind_some]
 cases hb:zL r with
 | false=>rfl
 | true =>
  have hl:=(qt hb).labels
  have hw:wI ((r.1.length:Int) - 1) = (r.1.length:Int) - 1:=by
   have:=ztU (i:=r.1.length) (by omega) (by unfold Go.maxLen; omega)
   rw [this]; omega
  rw [hw,zd2]
  simp only [Option.bind_some,cond_true,Bool.true_and,ql,qp]
  grind
theorem zvg {r:za} (hr:zU r) (hb:zL r = true) (a b:Int):zen (r,a,b,()) = some (zf4 r a b,()):=by
 rw [zM]
 simp only [zen,ziz hr,hb,Bool.true_and,Option.bind_some,zf4,ix]
 cases ha:qp r a with
 | false=>rfl
 | true =>
  cases hbb:qp r b with
  | false=>rfl
  | true =>
   have h1:=zmv hr a ha
   have h2:=zmv hr b hbb
   simp only [qp,decide_eq_true_eq] at ha hbb
   rw [ixR ha,ixR hbb,zeo h1 h2]
   simp only [Option.bind_some]
   generalize jg (r.1.getD a.toNat zC) (r.1.getD b.toNat zC) = u
   cases u <;> rfl
def eqW {α:Type} (p:α→α→Bool) (a b:List α):Bool:=decide (a.length = b.length) && (List.zip a b).all fun q=>p q.1 q.2
theorem zEF {α σ:Type} {B:(σ→Option (Bool × Unit))→σ→Option (Bool × Unit)} {a b:List α} (d:α) (p:α→α→Bool) (st:Int→σ) (hl:a.length ≤ Go.maxLen) (hab:a.length = b.length)
 (hin:∀ k (i:Nat),i < a.length→B k (st i) = bif p (a.getD i d) (b.getD i d) then k (st (wI (i + 1))) else some (false,())) {fin:Bool} (hout:∀ k,B k (st a.length) = some (fin,())) :
 zl B K0 (st 0) = some (eqW p a b && fin,()):=by
 have hz:(List.zip a b).length = a.length:=by rw [List.length_zip]; omega
 have hx:∀ i,i < a.length→(List.zip a b).getD i (d,d) = (a.getD i d,b.getD i d):=fun i hi=>zvE a b i hi (by omega)
 have:=zvD (B:=B) (l:=List.zip a b) (d,d) (p:=fun q=>p q.1 q.2) (fin:=some (fin,())) (bad:=some (false,())) st (by rw [hz]; exact hl) (fun k i x hi hx' _=>?_) (fun k=>?_)
 ·rw [this]
  unfold eqW
  rw [decide_eq_true hab]
  cases (List.zip a b).all fun q=>p q.1 q.2 <;> rfl
 ·rw [hz] at hi
  rw [hx i hi] at hx'
  subst hx'
  exact hin k i hi
 ·rw [hz]; exact hout k
theorem zLN {α ρ:Type} (a b:List α) (p:α→α→Bool) (x:Option ρ) (y:Option ρ):(bif ((List.length a:Int) != (List.length b:Int)) then y else x) = bif decide (a.length = b.length) then x else y:=by
 rw [zmZ]; cases decide (a.length = b.length) <;> rfl
theorem zLO {α:Type} {p:α→α→Bool} {a b:List α} (h:¬ a.length = b.length):eqW p a b = false:=by unfold eqW; rw [decide_eq_false h]; rfl
theorem zAR {α:Type} {p:α→α→Bool} {a b:List α} {x:Option (Bool × Unit)} (h:a.length = b.length→x = some (eqW p a b,())):(bif ((List.length a:Int) != (List.length b:Int)) then some (false,()) else x) = some (eqW p a b,()):=by
 rw [zLN a b p]
 by_cases hl:a.length = b.length
 ·rw [decide_eq_true hl,h hl]; rfl
 ·rw [decide_eq_false hl,zLO hl]; rfl
structure zyK (x:zi):Prop where
 rooms:x.1.length ≤ Go.maxLen
 exits:x.2.1.length ≤ Go.maxLen
 items:x.2.2.1.length ≤ Go.maxLen
 mails:x.2.2.2.1.length ≤ Go.maxLen
 trades:x.2.2.2.2.1.length ≤ Go.maxLen
 purses:x.2.2.2.2.2.1.length ≤ Go.maxLen
 places:x.2.2.2.2.2.2.1.length ≤ Go.maxLen
structure zLP (s:zd):Prop where
 shelves:s.2.1.length ≤ Go.maxLen
 ranks:s.2.2.1.length ≤ Go.maxLen
 orders:s.2.2.2.1.length ≤ Go.maxLen
 entries:s.2.2.2.2.1.length ≤ Go.maxLen
 seats:s.2.2.2.2.2.1.length ≤ Go.maxLen
 shelf:∀ x ∈ s.2.1,zyK x
 rank:∀ l ∈ s.2.2.1,l.length ≤ Go.maxLen
def zfJ (a b:zi):Bool:=eqL qk a.1 b.1 && (eqL z3 a.2.1 b.2.1 && (eqL zX a.2.2.1 b.2.2.1 && (eqL zy a.2.2.2.1 b.2.2.2.1 && (eqL zA a.2.2.2.2.1 b.2.2.2.2.1 && (eqL (.arr 4 tU) a.2.2.2.2.2.1 b.2.2.2.2.2.1 && (eqL zR a.2.2.2.2.2.2.1 b.2.2.2.2.2.2.1 && (eqI (.arr 4 tU) a.2.2.2.2.2.2.2.1 b.2.2.2.2.2.2.2.1 && eqI (.arr 4 tU) a.2.2.2.2.2.2.2.2.1 b.2.2.2.2.2.2.2.2.1)))))))
def zyL (a b:zd):Bool:=(a.1:Int) == b.1 && (eqW zfJ a.2.1 b.2.1 && (eqW (eqL tI) a.2.2.1 b.2.2.1 && (eqL zo a.2.2.2.1 b.2.2.2.1 && (eqL zx a.2.2.2.2.1 b.2.2.2.2.1 && eqL tI a.2.2.2.2.2.1 b.2.2.2.2.2.1))))
theorem zd4 {r:za} {l:List (List Int)} (h:vi r l = true):l.length = r.2.2.2.1.length ∧ ∀ g,g < r.2.2.2.1.length→(l.getD g []).length = r.2.2.1.length:=by
 simp only [vi,Bool.and_eq_true,decide_eq_true_eq,qL] at h
 refine ⟨h.1,fun g hg=>?_⟩
 have:=h.2 g (by omega) (by omega)
 simp only [zpD,Bool.and_eq_true,decide_eq_true_eq] at this
 exact this.1
theorem qb {r:za} {s:zd} (h:zY r s = true):zL r = true ∧ ziv r s = true ∧ zbH r s = true:=by
 simp only [zY,Bool.and_eq_true] at h
 exact ⟨h.1,h.2.1,h.2.2.1⟩
theorem zlq:∀ {τ:Ty},τ.eqIn = true→∀ x:τ.I,eqI τ x x = true:=by
 intro τ
 induction τ with
 | unit=>intro _ _; rfl
 | bool=>intro _ x; exact beq_self_eq_true x
 | int k=>intro _ x; exact beq_self_eq_true (α:=Int) x
 | str=>intro _ x; exact beq_self_eq_true _
 | pair a b iha ihb =>
  intro h x
  simp only [Ty.eqIn,Bool.and_eq_true] at h
  simp only [eqI,iha h.1,ihb h.2,cond_true]
 | st a ih=>intro h x; exact ih h x
 | arr n a ih =>
  intro h x
  simp only [eqI,List.all_eq_true]
  intro p hp
  have:p.1 = p.2:=by
   obtain ⟨i,hi,rfl⟩:=List.mem_iff_getElem.1 hp
   rw [List.getElem_zip]
  rw [this]
  exact ih h _
 | _=>intro h; cases h
theorem zwD {α:Type} {p:α→α→Bool} (h:∀ x,p x x = true) (l:List α):eqW p l l = true:=by
 simp only [eqW,decide_true,Bool.true_and,List.all_eq_true]
 intro q hq
 have:q.1 = q.2:=by
  obtain ⟨i,hi,rfl⟩:=List.mem_iff_getElem.1 hq
  rw [List.getElem_zip]
 rw [this]; exact h _
theorem zbm {τ:Ty} (h:τ.eqIn = true) (l:List τ.I):eqL τ l l = true:=zwD (zlq h) l
theorem zEG (x:zi):zfJ x x = true:=by
 simp only [zfJ,Bool.and_eq_true]
 exact ⟨zbm (τ:=qk) rfl _,zbm (τ:=z3) rfl _,zbm (τ:=zX) rfl _,zbm (τ:=zy) rfl _,zbm (τ:=zA) rfl _,zbm (τ:=.arr 4 tU) rfl _,zbm (τ:=zR) rfl _,zlq (τ:=.arr 4 tU) rfl _,zlq (τ:=.arr 4 tU) rfl _⟩
theorem zHU (s:zd):zyL s s = true:=by
 simp only [zyL,Bool.and_eq_true]
 exact ⟨beq_self_eq_true (α:=Int) _,zwD zEG _,zwD (zbm (τ:=tI) rfl) _,zbm (τ:=zo) rfl _,zbm (τ:=zx) rfl _,zbm (τ:=tI) rfl _⟩
end Go.Proofs.YtkcakhbkoeimdaaGreatDoor
end
section
namespace Go.Proofs.YtkcakhbkoeimdaaGreatDoor
open Go.Ev
structure zyM (x:zi):Prop where
 rooms:x.1.length * 24 ≤ 140737488355328
 exits:x.2.1.length * 48 ≤ 140737488355328
 items:x.2.2.1.length * 56 ≤ 140737488355328
 mails:x.2.2.2.1.length * 48 ≤ 140737488355328
 trades:x.2.2.2.2.1.length * 72 ≤ 140737488355328
 purses:x.2.2.2.2.2.1.length * 32 ≤ 140737488355328
 places:x.2.2.2.2.2.2.1.length * 16 ≤ 140737488355328
structure ztC (s:zd):Prop where
 shelves:s.2.1.length * 232 ≤ 140737488355328
 ranks:s.2.2.1.length * 24 ≤ 140737488355328
 orders:s.2.2.2.1.length * 80 ≤ 140737488355328
 entries:s.2.2.2.2.1.length * 80 ≤ 140737488355328
 seats:s.2.2.2.2.2.1.length * 8 ≤ 140737488355328
 shelf:∀ x ∈ s.2.1,zyM x
 rank:∀ l ∈ s.2.2.1,l.length * 8 ≤ 140737488355328
theorem zEH {α:Type} {l:List α} {i:Nat} {d:α} (h:i < l.length):List.set l i (l.getD i d) = l:=by
 rw [List.getD_eq_getElem?_getD,List.getElem?_eq_getElem h]
 exact List.set_getElem_self h
theorem zej {s:zd} (h:ztC s):qQ (s,()) = some (s,()):=by
 have hmm:140737488355328 ≤ Go.maxLen:=by unfold Go.maxLen; omega
 have h1:=h.shelves
 have h2:=h.ranks
 have h3:=h.orders
 have h4:=h.entries
 have h5:=h.seats
 have l1:zb3 K0 ((s.2.1.length:Int),0,s.1,0,s.2.1,0,s.2.2.1,s.2.2.1.length,s.2.2.2.1,s.2.2.2.2.1,s.2.2.2.2.2.1,[],0,[],0,[],[],[]) = some (s,()) :=
  jU (α:=Unit) (B:=zb2) (len:=s.2.1.length) (by omega) (fun i _=>((s.2.1.length:Int),i,s.1,0,s.2.1,i.toNat,s.2.2.1,s.2.2.1.length,s.2.2.2.1,s.2.2.2.2.1,s.2.2.2.2.2.1,[],0,[],0,[],[],[])) (fun _ _=>some (s,())) (fun _ _=>True) (fun k i _ hi _ hk=>by
   have hx:=h.shelf _ (qa (d:=zg) hi)
   have e1:=hx.rooms
   have e2:=hx.exits
   have e3:=hx.items
   have e4:=hx.mails
   have e5:=hx.trades
   have e6:=hx.purses
   have e7:=hx.places
   have hk':=hk () trivial
   have hw:wI ((i:Int) + 1) = (i:Int) + 1:=zxo hi (by omega)
   simp only [zb2]
   rw [ltT hi,zD hi,qj]
   simp only [Int.toNat_natCast,Nat.le_refl,decide_true,cond_true]
   rw [zD9 (by omega),zEa (by omega),zEb (by omega),ztz (by omega),zrz (by omega),zHA (by omega),zFR (by omega)]
   simp only [Option.bind_some]
   rw [zD hi]
   refine Eq.trans ?_ hk'
   have hs:List.set s.2.1 i (s.2.1.getD i zg) = s.2.1:=zEH hi
   have ht:(wI ((i:Int) + 1)).toNat = i + 1:=by rw [hw]; omega
   rw [ht]
   exact congrArg (fun l=>k ((s.2.1.length:Int),wI ((i:Int) + 1),s.1,0,l,i + 1,s.2.2.1,s.2.2.1.length,s.2.2.2.1,s.2.2.2.2.1,s.2.2.2.2.2.1,[],0,[],0,[],[],[])) hs) (fun k _ _=>by
   simp only [zb2]
   rw [ltF]
   simp only [Int.toNat_natCast,decide_true,cond_true,cond_false]) () trivial
 have l0:zh7 K0 ((s.2.2.1.length:Int),0,s.1,s.2.1,0,s.2.2.1,0,s.2.2.2.1,s.2.2.2.2.1,s.2.2.2.2.2.1,[],0,[],0,[],[],[]) = some (s,()) :=
  jU (α:=Unit) (B:=fun k0=>y6 (zb3 K0) k0) (len:=s.2.2.1.length) (by omega) (fun i _=>((s.2.2.1.length:Int),i,s.1,s.2.1,0,s.2.2.1,i.toNat,s.2.2.2.1,s.2.2.2.2.1,s.2.2.2.2.2.1,[],0,[],0,[],[],[])) (fun _ _=>some (s,())) (fun _ _=>True) (fun k i _ hi _ hk=>by
   have hx:=h.rank _ (qa (d:=([]:List Int)) hi)
   have hk':=hk () trivial
   have hw:wI ((i:Int) + 1) = (i:Int) + 1:=zxo hi (by omega)
   simp only [y6]
   rw [ltT hi,zD hi]
   simp only [Int.toNat_natCast,Nat.le_refl,decide_true,cond_true]
   rw [zoo (by omega)]
   simp only [Option.bind_some]
   rw [zD hi]
   refine Eq.trans ?_ hk'
   have hs:List.set s.2.2.1 i (s.2.2.1.getD i []) = s.2.2.1:=zEH hi
   have ht:(wI ((i:Int) + 1)).toNat = i + 1:=by rw [hw]; omega
   rw [ht,hs]) (fun k _ _=>by
   simp only [y6]
   rw [ltF,zBR (by omega)]
   simp only [Int.toNat_natCast,Option.bind_some,cond_false]
   exact l1) () trivial
 simp only [qQ,zgB]
 rw [zry (by omega),zBQ (by omega),zoo (by omega),zD8 (by omega)]
 simp only [Option.bind_some]
 exact l0
end Go.Proofs.YtkcakhbkoeimdaaGreatDoor
end
section
namespace Go.Proofs.YtkcakhbkoeimdaaGreatDoor
open Go.Ev
structure At (s:zd) (i w:Int):Prop where
 hi:0 ≤ i ∧ i < (s.2.1.length:Int)
 hw:0 ≤ w ∧ w < (((ix zg s.2.1 i).2.2.2.2.2.1.length:Nat):Int)
theorem zka {s:zd} {i:Int} (hi:0 ≤ i ∧ i < (s.2.1.length:Int)):ix zg s.2.1 i ∈ s.2.1:=qa (by omega)
theorem zL6 {r:za} {s:zd} (h:zY r s = true) {i w:Int} (hi:qp r i = true) (hw:qC r w = true):At s i w:=by
 obtain ⟨hb,hz,-⟩:=qb h
 have sz:=yf hb hz
 have hsl:=sz.shelves
 simp only [qp,qC,decide_eq_true_eq] at hi hw
 have h1:0 ≤ i ∧ i < (s.2.1.length:Int):=by omega
 have h2:=(sz.shelf _ (zka h1)).2.2.2.2.2.1
 exact ⟨h1,by omega⟩
theorem zLQ {r:za} (hb:zL r = true) {x:pMe} (hm:vk r x = true):qp r x.2.1 = true:=by
 simp only [zL,zj8,Bool.and_eq_true,decide_eq_true_eq,List.all_eq_true] at hb
 simp only [vk,Bool.and_eq_true,decide_eq_true_eq,beq_iff_eq] at hm
 have:=hb.2.1.2 _ (qa (d:=(0:Int)) (i:=x.1.toNat) (by omega))
 rw [← hm.2.1] at this
 simp only [qp,decide_eq_true_eq]
 exact this
theorem zL7 {r:za} {s:zd} (h:zY r s = true) {x:pMe} (hm:vk r x = true):At s x.2.1 x.2.2.1:=by
 have hw:qC r x.2.2.1 = true:=by
  simp only [vk,Bool.and_eq_true] at hm; exact hm.2.2
 exact zL6 h (zLQ (qb h).1 hm) hw
end Go.Proofs.YtkcakhbkoeimdaaGreatDoor
end
section
namespace Go.Proofs.YtkcakhbkoeimdaaGreatDoor
open Go.Ev
theorem bnd {α β:Type} {x:Option α} {a:α} {f:α→Option β} (h:x = some a):Option.bind x f = f a:=by rw [h]; rfl
theorem cT {α:Type} {b:Bool} {x y:α} (h:b = true):cond b x y = x:=by rw [h]; rfl
theorem cF {α:Type} {b:Bool} {x y:α} (h:b = false):cond b x y = y:=by rw [h]; rfl
theorem geF {n:Nat} {i:Int} {ρ:Type} {x y:ρ} (h:0 ≤ i ∧ i < (n:Int)):cond (decide (n ≤ Int.toNat i)) x y = y:=cF (decide_eq_false (by omega))
abbrev upd (s:zd) (i:Int) (h:zi):zd:=u1 s (List.set s.2.1 (Int.toNat i) h)
theorem zvh {α:Type} {l:List α} {i:Nat} {x d:α} (h:i < l.length):(List.set l i x).getD i d = x:=by
 rw [List.getD_eq_getElem?_getD,List.getElem?_set_self h]; rfl
theorem getD_set_ne {α:Type} {l:List α} {i j:Nat} {x d:α} (h:i ≠ j):(List.set l i x).getD j d = l.getD j d:=by
 rw [List.getD_eq_getElem?_getD,List.getElem?_set_ne h,List.getD_eq_getElem?_getD]
def zGx (x:zi):Bool:=decide (x.1.length * 24 ≤ 140737488355328) && (decide (x.2.1.length * 48 ≤ 140737488355328) && (decide (x.2.2.1.length * 56 ≤ 140737488355328) && (decide (x.2.2.2.1.length * 48 ≤ 140737488355328) && (decide (x.2.2.2.2.1.length * 72 ≤ 140737488355328) && (decide (x.2.2.2.2.2.1.length * 32 ≤ 140737488355328) && decide (x.2.2.2.2.2.2.1.length * 16 ≤ 140737488355328))))))
def zCk (s:zd):Bool:=decide (s.2.1.length * 232 ≤ 140737488355328) && (decide (s.2.2.1.length * 24 ≤ 140737488355328) && (decide (s.2.2.2.1.length * 80 ≤ 140737488355328) && (decide (s.2.2.2.2.1.length * 80 ≤ 140737488355328) && (decide (s.2.2.2.2.2.1.length * 8 ≤ 140737488355328) && (s.2.1.all zGx && s.2.2.1.all fun l=>decide (l.length * 8 ≤ 140737488355328))))))
theorem zKi {s:zd} (h:zCk s = true):ztC s:=by
 simp only [zCk,Bool.and_eq_true,decide_eq_true_eq,List.all_eq_true] at h
 obtain ⟨h1,h2,h3,h4,h5,h6,h7⟩:=h
 refine ⟨h1,h2,h3,h4,h5,fun x hx=>?_,h7⟩
 have:=h6 x hx
 simp only [zGx,Bool.and_eq_true,decide_eq_true_eq] at this
 obtain ⟨a,b,c,d,e,f,g⟩:=this
 exact ⟨a,b,c,d,e,f,g⟩
noncomputable def zJj (x:zd × Unit):Option (zd × Unit):=bif zCk x.1 then some x else qQ x
theorem zKj:qQ = zJj:=by
 funext ⟨s,u⟩
 cases u
 unfold zJj
 cases h:zCk s with
 | true=>exact zej (zKi h)
 | false=>rfl
theorem zF3 {x:zi} (h:zyM x):zyK x:=by
 have hm:140737488355328 ≤ Go.maxLen:=by unfold Go.maxLen; omega
 obtain ⟨e1,e2,e3,e4,e5,e6,e7⟩:=h
 exact ⟨by omega,by omega,by omega,by omega,by omega,by omega,by omega⟩
theorem zJk {s:zd} (h:ztC s):zLP s:=by
 have hm:140737488355328 ≤ Go.maxLen:=by unfold Go.maxLen; omega
 obtain ⟨e1,e2,e3,e4,e5,e6,e7⟩:=h
 exact ⟨by omega,by omega,by omega,by omega,by omega,fun x hx=>zF3 (e6 x hx),fun l hl=>by have:=e7 l hl; omega⟩
theorem wf_u64 {x:Int} (h:(Lit.int .u64 x).wf = true):zeL x:=by
 unfold Lit.wf at h
 simp only [Bool.and_eq_true,decide_eq_true_eq] at h
 have e1:IntKind.min .u64 = 0:=by decide
 have e2:IntKind.max .u64 = 18446744073709551615:=by decide
 rw [e1,e2] at h
 exact ⟨h.1,Int.lt_of_le_of_lt h.2 (by decide)⟩
theorem realmIn {r:za} (h:InR zm r):zU r:=by
 obtain ⟨hl,h2⟩:=h
 refine ⟨fun a ha=>?_,h2.2.2.1.1,h2.2.2.2.1.1⟩
 have h3:(Lit.int .u64 a.2.1).wf = true:=(hl.2 a ha).2.1
 exact wf_u64 h3
theorem zEI {a:List Int} (h:InR (.arr 4 tU) a):zqE a:=fun x hx=>wf_u64 (h.2 x hx)
theorem zGy {x:zkW} (h:InR zdE x):zeL x.2.1:=wf_u64 (show (Lit.int .u64 x.2.1).wf = true from h.2.1)
theorem zK8 {x:zi} (h:InR zn x):zll x:=by
 obtain ⟨-,-,-,-,h5,h6,-,h8,h9,-⟩:=h
 refine ⟨fun t ht=>?_,fun a ha=>zEI (h6.2 a ha),zEI h8,zEI h9⟩
 obtain ⟨-,-,-,g1,g2,-⟩:=h5.2 t ht
 exact ⟨zGy g1,zGy g2⟩
theorem zK9 {x:zq} (h:InR zo x):zlj x:=by
 obtain ⟨-,-,-,-,-,-,h7,h8,h9,-⟩:=h
 exact ⟨wf_u64 h7,wf_u64 h8,wf_u64 h9⟩
theorem zLa {x:zG} (h:InR zx x):zt4 x:=by
 obtain ⟨-,-,-,-,-,-,-,h8,h9,-⟩:=h
 exact ⟨wf_u64 h8,wf_u64 h9⟩
theorem stateIn {s:zd} (h:InR zz s):qY s:=by
 obtain ⟨-,h2,-,h4,h5,-⟩:=h
 exact ⟨fun x hx=>zK8 (h2.2 x hx),fun x hx=>zK9 (h4.2 x hx),fun x hx=>zLa (h5.2 x hx)⟩
def zjj:zd:=(0,[],[],[],[],[],())
theorem zpI {n:Nat} (h:n ≤ 2000000):n ≤ lim:=by unfold lim; omega
theorem zyN {n:Nat} (h:n ≤ 2000000):n ≤ Go.maxLen:=by unfold Go.maxLen; omega
theorem zpJ {r:za} {s:zd} (h:zY r s = true):ztC s:=by
 obtain ⟨hb,hz,hp⟩:=qb h
 have ok:=qt hb
 have sz:=yf hb hz
 have h1:=ok.labels
 have h2:=ok.lines
 have h3:=ok.accounts
 have h4:=sz.shelves
 have h5:=sz.orders
 have h6:=sz.entries
 have h7:=sz.people
 have h8:=ok.guilds
 have hh:vi r s.2.2.1 = true:=by simp only [zbH,Bool.and_eq_true] at hp; exact hp.1
 have hr:=zd4 hh
 refine ⟨by omega,by omega,by omega,by omega,by omega,fun x hx=>?_,fun l hl=>?_⟩
 ·have:=sz.shelf x hx
  exact ⟨by omega,by omega,by omega,by omega,by omega,by omega,by omega⟩
 ·obtain ⟨i,hi,rfl⟩:=List.mem_iff_getElem.1 hl
  have:=hr.2 i (by omega)
  rw [List.getD_eq_getElem?_getD,List.getElem?_eq_getElem hi] at this
  have this:(s.2.2.1[i]).length = _:=this
  omega
end Go.Proofs.YtkcakhbkoeimdaaGreatDoor
end
section
namespace Go.Proofs.YtkcakhbkoeimdaaGreatDoor
open Go.Ev
theorem zt5 {α:Type} {p:α→Bool}:∀ (l:List α) (i:Int),0 ≤ i→qB p l i = -1 ∨ (i ≤ qB p l i ∧ qB p l i < i + l.length)
 | [],_,_=>.inl rfl
 | x :: l,i,h=>by
  simp only [qB]
  cases p x with
  | true=>right; simp only [cond_true,List.length_cons]; omega
  | false =>
   simp only [cond_false,List.length_cons]
   rcases zt5 (p:=p) l (i + 1) (by omega) with e | e
   ·exact .inl e
   ·right; omega
def toV (x:qc) (h:ztX):qc:=(x.1,x.2.1,h.1,h.2.1,h.2.2.1,())
end Go.Proofs.YtkcakhbkoeimdaaGreatDoor
end
section
namespace Go.Proofs.YtkcakhbkoeimdaaGreatDoor
open Go.Ev
abbrev zGz (s:zd) (me:pMe):List qc:=(ix zg s.2.1 me.2.1).2.2.1
abbrev zAb (s:zd) (i w:Int):j3:=List.getD (ix zg s.2.1 i).2.2.2.2.2.2.1 (Int.toNat w) (ze zR)
abbrev zLR (s:zd) (me:pMe):j3:=zAb s me.2.1 me.2.2.1
structure Ctx (r:za) (s:zd) (me:pMe):Prop where
 rs:zY r s = true
 im:vk r me = true
theorem Ctx.hi {r:za} {s:zd} {me:pMe} (x:Ctx r s me):0 ≤ me.2.1 ∧ me.2.1 < (s.2.1.length:Int):=(zL7 x.rs x.im).hi
theorem Ctx.shelf {r:za} {s:zd} {me:pMe} (x:Ctx r s me):(ix zg s.2.1 me.2.1).2.2.1.length ≤ 12 ∧ (ix zg s.2.1 me.2.1).2.2.2.2.2.2.1.length = r.2.2.1.length:=by
 obtain ⟨hb,hz,-⟩:=qb x.rs
 have h:=(yf hb hz).shelf _ (zka x.hi)
 exact ⟨h.2.2.1,h.2.2.2.2.2.2⟩
theorem Ctx.small {r:za} {s:zd} {me:pMe} (x:Ctx r s me):(zGz s me).length ≤ 2000000:=Nat.le_trans x.shelf.1 (by omega)
theorem Ctx.who {r:za} {s:zd} {me:pMe} (x:Ctx r s me):qC r me.2.2.1 = true:=by
 have:=x.im
 simp only [vk,Bool.and_eq_true] at this; exact this.2.2
theorem Ctx.slots {r:za} {s:zd} {me:pMe} (x:Ctx r s me):(zGz s me).all ziu = true:=by
 have h:=x.rs
 have hi:=x.hi
 simp only [zY,Bool.and_eq_true,qL] at h
 have:=(h.2.2.2.1 me.2.1.toNat (Nat.zero_le _) (by omega)).1.1
 simp only [jy,Bool.and_eq_true] at this
 exact this.2.2.1
theorem zt6 {r:za} (hb:zL r = true) {w:Int} (hw:qC r w = true):qV w = true:=by
 have:=(qt hb).accounts
 simp only [qC,qV,decide_eq_true_eq] at hw ⊢
 omega
end Go.Proofs.YtkcakhbkoeimdaaGreatDoor
end
section
namespace Go.Proofs.YtkcakhbkoeimdaaGreatDoor
open Go.Ev
theorem Ctx.items {r:za} {s:zd} {me:pMe} (x:Ctx r s me) {i:Nat} (hi:i < s.2.1.length):(s.2.1.getD i zg).2.2.1.length ≤ 12 ∧ (s.2.1.getD i zg).2.2.1.all ziu = true:=by
 obtain ⟨hb,hz,-⟩:=qb x.rs
 have h:=(yf hb hz).shelf _ (qa (d:=zg) hi)
 have h':=x.rs
 simp only [zY,Bool.and_eq_true,qL] at h'
 have:=(h'.2.2.2.1 i (Nat.zero_le _) (by omega)).1.1
 simp only [jy,Bool.and_eq_true] at this
 exact ⟨h.2.2.1,this.2.2.1⟩
end Go.Proofs.YtkcakhbkoeimdaaGreatDoor
end
section
namespace Go.Proofs.YtkcakhbkoeimdaaGreatDoor
open Go.Ev
theorem zqJ {s:zd} {i:Int} {h:zi} (hi:0 ≤ i ∧ i < (s.2.1.length:Int)) (k:Nat):(upd s i h).2.1.getD k zg = if i.toNat = k then h else s.2.1.getD k zg:=by
 by_cases hk:i.toNat = k
 ·rw [if_pos hk,← hk]; exact zvh (by omega)
 ·rw [if_neg hk]; exact getD_set_ne hk
theorem zAc (s:zd) (i:Int) (h:zi):(upd s i h).2.1.length = s.2.1.length:=List.length_set ..
structure zMl (r:za) (s:zd) (i:Int) (x:zi) (l:List qc):Prop where
 len:l.length = x.2.2.1.length
 ok:l.all ziu = true
 below:l.all (zdx r s i) = true
 who:l.all (zpG r) = true
 deals:zmw (u2 x l) = true
theorem zEJ {α:Type} (f:α→Int) (d:α):∀ (l:List α) (i:Nat) (x:α),i < l.length→qx ((List.set l i x).map f) = qx (l.map f) - f (l.getD i d) + f x
 | [],_,_,h=>by cases h
 | y :: l,0,x,_=>by
  show f x + qx (l.map f) = f y + qx (l.map f) - f y + f x
  omega
 | y :: l,i + 1,x,h=>by
  have:=zEJ f d l i x (by simpa using h)
  show f y + qx ((List.set l i x).map f) = f y + qx (l.map f) - f (l.getD i d) + f x
  omega
theorem zAd {α:Type} {p:α→Bool} {l:List α} {k:Nat} {y:α} (h:l.all p = true) (hy:p y = true):(List.set l k y).all p = true:=by
 rw [List.all_eq_true] at h ⊢
 intro z hz
 rcases List.mem_or_eq_of_mem_set hz with hz | rfl
 ·exact h z hz
 ·exact hy
end Go.Proofs.YtkcakhbkoeimdaaGreatDoor
end
section
namespace Go.Proofs.YtkcakhbkoeimdaaGreatDoor
open Go.Ev
theorem zKk {β:Type} {d:β} {n i:Nat} (h:i < n) (o:List β):(o ++ [d]) ++ List.replicate (n - (i + 1)) d = o ++ List.replicate (n - i) d:=by
 rw [List.append_assoc,show n - i = (n - (i + 1)) + 1 by omega,List.replicate_succ]; rfl
theorem zKl {σ β ρ:Type} {B:(σ→Option ρ)→σ→Option ρ} {n:Nat} (hn:n ≤ Go.maxLen) (d:β) (st:Int→List β→σ) (fin:List β→Option ρ) (o0:List β)
 (hin:∀ k (i:Nat) o,i < n→o.length = o0.length + i→B k (st i o) = k (st (wI (i + 1)) (o ++ [d]))) (hout:∀ k o,B k (st n o) = fin o):zl B K0 (st 0 o0) = fin (o0 ++ List.replicate n d):=by
 have:=jU (B:=B) hn st (fun i o=>fin (o ++ List.replicate (n - i) d)) (fun i o=>o.length = o0.length + i) (fun k i o hi hI h=>?_) (fun k o hI=>?_) o0 rfl
 ·simpa using this
 ·rw [hin k i o hi hI,h _ (by rw [List.length_append,hI]; simp; omega),zKk hi]
 ·rw [hout]; simp
abbrev zL8:ByteArray:=ByteArray.mk #[112,108,97,122,97]
def zaq (r:za) (q:zbQ):zi:=(List.replicate q.1.toNat ztV,List.replicate q.2.1.toNat vN,List.replicate q.2.2.1.toNat zdD,List.replicate q.2.2.2.1.toNat zcL,List.replicate q.2.2.2.2.1.toNat qS,List.replicate r.2.2.1.length [0,0,0,0],List.replicate r.2.2.1.length zMe,[0,0,0,0],[0,0,0,0],())
def zAe (x:zi):zi:=(x.1.set 0 (true,zL8,()),x.2)
def znP (r:za) (g:zN):List Int:=(List.replicate r.2.2.1.length 0).set g.2.1.toNat 2
def zKm (r:za):List zi:=(r.2.2.2.2.1.map (zaq r)).set 0 (zAe ((r.2.2.2.2.1.map (zaq r)).getD 0 zg))
def zcG (r:za):zd:=(0,zKm r,r.2.2.2.1.map (znP r),List.replicate r.2.2.2.2.2.1.toNat qs,[],List.replicate r.2.1.length (-1),())
theorem zEK {q:zbQ} (h:zho q = true):(0 ≤ q.1 ∧ q.1 ≤ 12) ∧ (0 ≤ q.2.1 ∧ q.2.1 ≤ 12) ∧ (0 ≤ q.2.2.1 ∧ q.2.2.1 ≤ 12) ∧ (0 ≤ q.2.2.2.1 ∧ q.2.2.2.1 ≤ 12) ∧ (0 ≤ q.2.2.2.2.1 ∧ q.2.2.2.2.1 ≤ 12):=by
 simp only [zho,ql,Bool.and_eq_true,decide_eq_true_eq] at h
 omega
theorem zB6 {r:za} {q:zbQ} (hq:zho q = true) (ha:r.2.2.1.length ≤ 8):zgz (r,q,()) = some (zaq r q,()):=by
 simp only [zgz]
 have h:=zEK hq
 have hl:((lim:Nat):Int) = 4294967296:=rfl
 rw [hl]
 have t:∀ {p:Prop} [Decidable p],p→decide p = true:=fun h=>decide_eq_true h
 rw [t (p:=0 ≤ q.1) (by omega),t (p:=q.1 ≤ q.1) (by omega),t (p:=q.1 ≤ 4294967296) (by omega),
  t (p:=0 ≤ q.2.1) (by omega),t (p:=q.2.1 ≤ q.2.1) (by omega),t (p:=q.2.1 ≤ 4294967296) (by omega),
  t (p:=0 ≤ q.2.2.1) (by omega),t (p:=q.2.2.1 ≤ q.2.2.1) (by omega),t (p:=q.2.2.1 ≤ 4294967296) (by omega),
  t (p:=0 ≤ q.2.2.2.1) (by omega),t (p:=q.2.2.2.1 ≤ q.2.2.2.1) (by omega),t (p:=q.2.2.2.1 ≤ 4294967296) (by omega),
  t (p:=0 ≤ q.2.2.2.2.1) (by omega),t (p:=q.2.2.2.2.1 ≤ q.2.2.2.2.1) (by omega),t (p:=q.2.2.2.2.1 ≤ 4294967296) (by omega),
  t (p:=(r.2.2.1.length:Int) ≤ (r.2.2.1.length:Int)) (by omega),t (p:=(r.2.2.1.length:Int) ≤ 4294967296) (by omega),Int.toNat_natCast]
 rfl
theorem zyO {r:za} (hb:zL r = true):∀ q ∈ r.2.2.2.2.1,zho q = true:=by
 simp only [zL,zjd,Bool.and_eq_true] at hb
 exact zwA _ _ hb.2.2.2.2.1.2.2.2
theorem zL9 {r:za} (hb:zL r = true):1 ≤ (r.2.2.2.2.1.getD 0 j4).1:=by
 simp only [zL,zjd,Bool.and_eq_true,decide_eq_true_eq] at hb
 exact hb.2.2.2.2.1.2.2.1
theorem zHV {r:za} (hr:zU r) (hb:zL r = true):zk5 (r,()) = some (r.2.2.2.1.map (znP r),()):=by
 have ok:=qt hb
 have ha:=ok.accounts
 have hg:=ok.guilds
 have hl:((lim:Nat):Int) = 4294967296:=rfl
 simp only [zk5,zk4,zbG r hr,Option.bind_some,hb,cond_true]
 exact zaE (B:=zfd) (l:=r.2.2.2.1) (α:=List (List Int)) zJ (fun i o=>o.length = i) (fun i o=>(r.2.2.2.1,(r.2.2.2.1.length:Int),i,r,o,o.length)) (fun rest o=>some (o ++ rest.map (znP r),())) (by unfold Go.maxLen; omega) (fun k i x rest o hi hI hx hm hr' hk=>by
  have hh:=ok.heads i hi
  rw [show r.2.2.2.1.getD i zJ = x from hx] at hh
  have hx':List.getD r.2.2.2.1 i (ze jc) = x:=hx
  simp only [zfd]
  rw [ltT hi,zD hi,qj,hx,hl,decide_eq_true (Int.le_refl _),decide_eq_true (p:=(r.2.2.1.length:Int) ≤ 4294967296) (by omega),Int.toNat_natCast]
  simp only [cond_true]
  rw [ixR (by rw [List.length_replicate]; exact hh),zbj (by simp; omega)]
  simp only [cond_true,decide_true]
  have:=hk (o ++ [znP r x]) (by rw [List.length_append,hI]; rfl)
  rw [List.length_append] at this
  refine Eq.trans this ?_
  simp) (fun k o hI=>by
  simp only [zfd]
  rw [ltF]
  simp) [] rfl
theorem zMa {r:za} (ok:zhp r) (o:List zi) (l:List (List Int)) (w:List zq):zef K0 ((r.2.1.length:Int),0,0,0,[],0,[],0,[],[],[],o,o.length,l,l.length,w,[],[]) = some ((0,o,l,w,[],List.replicate r.2.1.length (-1),()),0,()):=by
 have hl:=ok.lines
 have:=zKl (B:=zee) (n:=r.2.1.length) (by unfold Go.maxLen; omega) (-1:Int) (fun i (e:List Int)=>((r.2.1.length:Int),i,0,0,[],0,[],0,[],[],[],o,o.length,l,l.length,w,[],e)) (fun e=>some ((0,o,l,w,[],e,()),0,())) [] (fun k i e hi hI=>by
  simp only [zee]
  rw [ltT hi,zai,zbj (by simp at hI ⊢; omega)]
  rfl) (fun k e=>by
  simp only [zee]
  rw [ltF]
  simp only [decide_true]
  rfl)
 exact this
theorem zJl (q:zi):(q.1,q.2.1,q.2.2.1,q.2.2.2.1,q.2.2.2.2.1,q.2.2.2.2.2.1,q.2.2.2.2.2.2.1,q.2.2.2.2.2.2.2.1,q.2.2.2.2.2.2.2.2.1,()) = q:=rfl
theorem zF4 {r:za} (hr:zU r):zgp (r,()) = some (bif zL r then (zcG r,0,()) else ((0,[],[],[],[],[],()),1,())):=by
 simp only [zgp,zjz,zbG r hr,Option.bind_some]
 cases hb:zL r with
 | false=>rfl
 | true =>
  have ok:=qt hb
  have ha:=ok.accounts
  have hl:=ok.labels
  have hq:=ok.quotas
  have h24:0 ≤ r.2.2.2.2.2.1 ∧ r.2.2.2.2.2.1 ≤ 24:=by
   simp only [zL,zt0,ql,Bool.and_eq_true,decide_eq_true_eq] at hb
   omega
  have hlim:((lim:Nat):Int) = 4294967296:=rfl
  rw [zHV hr hb]
  simp only [Option.bind_some,cond_true]
  rw [hlim,decide_eq_true h24.1,decide_eq_true (Int.le_refl _),decide_eq_true (p:=r.2.2.2.2.2.1 ≤ 4294967296) (by omega)]
  simp only [cond_true]
  have hall:=zyO hb
  have hloop:=zaE (B:=fun k0=>zbE (zef K0) k0) (l:=r.2.2.2.2.1) (α:=List zi) j4 (fun i o=>o.length = i)
   (fun i o=>(r.2.2.2.2.1,(r.2.2.2.2.1.length:Int),i,r,0,0,[],0,[],0,[],[],[],o,o.length,r.2.2.2.1.map (znP r),(r.2.2.2.1.map (znP r)).length,List.replicate r.2.2.2.2.2.1.toNat qs,[],[]))
   (fun rest o=>bif decide (0 < (o ++ rest.map (zaq r)).length) && decide (0 < ((o ++ rest.map (zaq r)).getD 0 zg).1.length) then some ((0,(o ++ rest.map (zaq r)).set 0 (zAe ((o ++ rest.map (zaq r)).getD 0 zg)),r.2.2.2.1.map (znP r),List.replicate r.2.2.2.2.2.1.toNat qs,[],List.replicate r.2.1.length (-1),()),0,()) else none)
   (by unfold Go.maxLen; omega) (fun k i x rest o hi hI hx hm hr' hk=>by
    have hx':List.getD r.2.2.2.2.1 i (ze zcX) = x:=hx
    simp only [zbE]
    rw [ltT hi,zD hi,qj,hx,zB6 (hall x hm) ha.2]
    simp only [Option.bind_some,cond_true]
    rw [zJl,zbj (by simp; omega)]
    simp only [cond_true,decide_true]
    have:=hk (o ++ [zaq r x]) (by rw [List.length_append,hI]; rfl)
    rw [List.length_append] at this
    refine Eq.trans this ?_
    rw [List.append_assoc]; rfl) (fun k o hI=>by
    have e0:o ++ List.map (zaq r) [] = o:=by simp
    rw [e0]
    simp only [zbE]
    rw [ltF,cond_false]
    by_cases h0:0 < o.length
    ·have e1:decide (0 < ((List.length o:Nat):Int)) = true:=decide_eq_true (by omega)
     have e2:decide (o.length ≤ Int.toNat 0) = false:=decide_eq_false (by show ¬ o.length ≤ 0; omega)
     rw [e1,e2,decide_eq_true h0,zJ9]
     simp only [cond_true,cond_false,Bool.true_and]
     by_cases h1:0 < (o.getD 0 zg).1.length
     ·have e3:decide (0 < ((List.length (o.getD 0 zg).1:Nat):Int)) = true:=decide_eq_true (by omega)
      rw [e3,decide_eq_true h1]
      simp only [cond_true]
      have:=zMa (r:=r) ok (o.set 0 (zAe (o.getD 0 zg))) (r.2.2.2.1.map (znP r)) (List.replicate r.2.2.2.2.2.1.toNat qs)
      rw [List.length_set] at this
      exact this
     ·have e3:decide (0 < ((List.length (o.getD 0 zg).1:Nat):Int)) = false:=decide_eq_false (by omega)
      rw [e3,decide_eq_false h1]; rfl
    ·have e1:decide (0 < ((List.length o:Nat):Int)) = false:=decide_eq_false (by omega)
     rw [e1,decide_eq_false h0]; rfl) [] rfl
  refine Eq.trans hloop ?_
  have hrm:=zL9 hb
  have hpos:0 < r.2.2.2.2.1.length:=by omega
  have hget:(r.2.2.2.2.1.map (zaq r)).getD 0 zg = zaq r (r.2.2.2.2.1.getD 0 j4):=by
   cases hl:r.2.2.2.2.1 with
   | nil=>rw [hl] at hpos; simp at hpos
   | cons q l=>rfl
  rw [List.nil_append,decide_eq_true (by rw [List.length_map]; exact hpos),decide_eq_true (p:=0 < ((r.2.2.2.2.1.map (zaq r)).getD 0 zg).1.length) (by rw [hget]; show 0 < (List.replicate _ ztV).length; rw [List.length_replicate]; omega)]
  rfl
end Go.Proofs.YtkcakhbkoeimdaaGreatDoor
end
section
namespace Go.Proofs.YtkcakhbkoeimdaaGreatDoor
open Go.Ev
theorem zF5 {a b:zi} (h:zyK a):yb (a,b,()) = some (zfJ a b,()):=by
 rw [zM]
 simp only [yb]
 rw [zD4 h.rooms,zD5 h.exits,zD6 h.items,zD7 h.mails,zBO h.trades,zHz h.purses,zFP h.places]
 simp only [Option.bind_some,zfJ]
 grind
theorem zuD {a b:List zi} (hl:a.length ≤ Go.maxLen) (h:∀ x ∈ a,zyK x):zdT (a,b,some yb,()) = some (eqW zfJ a b,()):=zAR (p:=zfJ) fun hab=>by
 have:=zEF (B:=ve) zg zfJ (fun i=>(b,some yb,a,(a.length:Int),i)) hl hab (fun k i hi=>by
  simp only [ve]
  rw [ltT hi,zD hi,zD (by omega),qj,qj]
  simp only [cond_true,Option.bind_some]
  rw [zF5 (h _ (qa hi))]; rfl) (fin:=true) (fun k=>by simp only [ve]; rw [ltF]; rfl)
 rw [Bool.and_true] at this; exact this
theorem zwE {a b:List (List Int)} (hl:a.length ≤ Go.maxLen) (h:∀ x ∈ a,x.length ≤ Go.maxLen):zey (a,b,some zaP,()) = some (eqW (eqL tI) a b,()):=zAR (p:=eqL tI) fun hab=>by
 have:=zEF (B:=vD) ([]:List Int) (eqL tI) (fun i=>(b,some zaP,a,(a.length:Int),i)) hl hab (fun k i hi=>by
  simp only [vD]
  rw [ltT hi,zD hi,zD (by omega),Int.toNat_natCast]
  simp only [cond_true,Option.bind_some]
  rw [zvb (h _ (qa hi))]; rfl) (fin:=true) (fun k=>by simp only [vD]; rw [ltF]; rfl)
 rw [Bool.and_true] at this; exact this
theorem zEL {a b:zd} (h:zLP a):zia (a,b,()) = some (zyL a b,()):=by
 rw [zM]
 simp only [zia]
 rw [zuD h.shelves h.shelf,zwE h.ranks h.rank,zBM h.orders,zBN h.entries,zvb h.seats]
 simp only [Option.bind_some,zyL]
 generalize eqW zfJ a.2.1 b.2.1 = c1
 generalize eqW (eqL tI) a.2.2.1 b.2.2.1 = c2
 generalize eqL zo a.2.2.2.1 b.2.2.2.1 = c3
 generalize eqL zx a.2.2.2.2.1 b.2.2.2.2.1 = c4
 generalize eqL tI a.2.2.2.2.2.1 b.2.2.2.2.2.1 = c5
 generalize (a.1 == b.1) = c6
 grind
def zlb {α:Type} (d:α) (p:Nat→Bool) (now fresh:List α) (i:Nat):α:=bif p i then now.getD i d else fresh.getD i d
def qq {α:Type} (d:α) (p:Nat→Bool) (now fresh:List α):List α:=(List.range now.length).map (zlb d p now fresh)
theorem zqK {α:Type} {f:Nat→α} {i:Nat} {o:List α} (h:o = (List.range i).map f):o ++ [f i] = (List.range (i + 1)).map f:=by
 rw [List.range_succ,List.map_append,h]; rfl
theorem zAf {now fresh:List zi} {g:Int × Unit→Option (Bool × Unit)} {p:Nat→Bool} (hl:now.length ≤ 1000) (hf:now.length ≤ fresh.length) (hg:∀ i:Nat,i < now.length→g ((i:Int),()) = some (p i,())):zew (now,fresh,some g,()) = some (qq zg p now fresh,()) :=
 jU (α:=List zi) (B:=vB) (len:=now.length) (by unfold Go.maxLen; omega) (fun i o=>(now,fresh,some g,(now.length:Int),i,o,0)) (fun _ _=>some (qq zg p now fresh,())) (fun i o=>o = (List.range i).map (zlb zg p now fresh)) (fun k i o hi hI hk=>by
  have hx:=zqK hI
  have hlen:o.length = i:=by rw [hI]; simp
  have hk':=hk _ hx
  simp only [vB]
  rw [ltT hi]
  simp only [cond_true,Option.bind_some]
  rw [hg i hi]
  simp only [Option.bind_some]
  unfold zlb at hk'
  cases hp:p i with
  | true =>
   rw [hp] at hk'
   simp only [cond_true] at hk' ⊢
   rw [zD hi,zai,zbj (by simp; omega),qj]
   exact hk'
  | false =>
   rw [hp] at hk'
   simp only [cond_false] at hk' ⊢
   rw [zD (by omega),zai,zbj (by simp; omega),qj]
   exact hk') (fun k o hI=>by
  simp only [vB]
  rw [ltF]
  simp only [cond_false]
  rw [hI]; rfl) [] rfl
theorem zB7 {now fresh:List (List Int)} {g:Int × Unit→Option (Bool × Unit)} {p:Nat→Bool} (hl:now.length ≤ 1000) (hf:now.length ≤ fresh.length) (hg:∀ i:Nat,i < now.length→g ((i:Int),()) = some (p i,())):ze5 (now,fresh,some g,()) = some (qq [] p now fresh,()) :=
 jU (α:=List (List Int)) (B:=vT) (len:=now.length) (by unfold Go.maxLen; omega) (fun i o=>(now,fresh,some g,(now.length:Int),i,o,0)) (fun _ _=>some (qq [] p now fresh,())) (fun i o=>o = (List.range i).map (zlb [] p now fresh)) (fun k i o hi hI hk=>by
  have hx:=zqK hI
  have hlen:o.length = i:=by rw [hI]; simp
  have hk':=hk _ hx
  simp only [vT]
  rw [ltT hi]
  simp only [cond_true,Option.bind_some]
  rw [hg i hi]
  simp only [Option.bind_some]
  unfold zlb at hk'
  cases hp:p i with
  | true =>
   rw [hp] at hk'
   simp only [cond_true] at hk' ⊢
   rw [zD hi,zai,zbj (by simp; omega),Int.toNat_natCast]
   exact hk'
  | false =>
   rw [hp] at hk'
   simp only [cond_false] at hk' ⊢
   rw [zD (by omega),zai,zbj (by simp; omega),Int.toNat_natCast]
   exact hk') (fun k o hI=>by
  simp only [vT]
  rw [ltF]
  simp only [cond_false]
  rw [hI]; rfl) [] rfl
theorem zEM {now fresh:List Int} {g:Int × Unit→Option (Bool × Unit)} {p:Nat→Bool} (hl:now.length ≤ 1000) (hf:now.length ≤ fresh.length) (hg:∀ i:Nat,i < now.length→g ((i:Int),()) = some (p i,())):zfU (now,fresh,some g,()) = some (qq 0 p now fresh,()) :=
 jU (α:=List Int) (B:=yp) (len:=now.length) (by unfold Go.maxLen; omega) (fun i o=>(now,fresh,some g,(now.length:Int),i,o)) (fun _ _=>some (qq 0 p now fresh,())) (fun i o=>o = (List.range i).map (zlb 0 p now fresh)) (fun k i o hi hI hk=>by
  have hx:=zqK hI
  have hlen:o.length = i:=by rw [hI]; simp
  have hk':=hk _ hx
  simp only [yp]
  rw [ltT hi]
  simp only [cond_true,Option.bind_some]
  rw [hg i hi]
  simp only [Option.bind_some]
  unfold zlb at hk'
  cases hp:p i with
  | true =>
   rw [hp] at hk'
   simp only [cond_true] at hk' ⊢
   rw [zD hi,zai,zbj (by simp; omega),qj]
   exact hk'
  | false =>
   rw [hp] at hk'
   simp only [cond_false] at hk' ⊢
   rw [zD (by omega),zai,zbj (by simp; omega),qj]
   exact hk') (fun k o hI=>by
  simp only [yp]
  rw [ltF]
  simp only [cond_false]
  rw [hI]; rfl) [] rfl
theorem zyP {α:Type} {d:α} {p:Nat→Bool} {now fresh:List α} {i:Nat} {x:α} (h:p i = false):qq d p (List.set now i x) fresh = qq d p now fresh:=by
 unfold qq
 rw [List.length_set]
 refine List.map_congr_left fun j hj=>?_
 unfold zlb
 by_cases e:i = j
 ·subst e; rw [h]; rfl
 ·rw [getD_set_ne e]
theorem zfK {α:Type} {d:α} {p:Nat→Bool} {now fresh:List α}:(qq d p now fresh).length = now.length:=by
 unfold qq; simp
end Go.Proofs.YtkcakhbkoeimdaaGreatDoor
end
section
namespace Go.Proofs.YtkcakhbkoeimdaaGreatDoor
open Go.Ev
theorem zKn {b:Int} (h:vh b = true):zbl (zcR b):=by
 simp only [vh,Bool.and_eq_true,decide_eq_true_eq] at h
 have h1:b.toNat < 64:=by omega
 have h2:2 ^ b.toNat < 2 ^ 64:=Nat.pow_lt_pow_right (by omega) h1
 have h3:(2:Nat) ^ 64 = 18446744073709551616:=by decide
 show 0 ≤ ((2 ^ b.toNat:Nat):Int) ∧ ((2 ^ b.toNat:Nat):Int) < ((18446744073709551616:Nat):Int)
 rw [h3] at h2
 exact ⟨Int.natCast_nonneg _,Int.ofNat_lt.2 h2⟩
def zgK (b:Int):zr:=bif vh b then zcR b else (0,0,())
theorem zHW (b:Int):zbl (zgK b):=by
 unfold zgK
 cases h:vh b with
 | true=>exact zKn h
 | false=>exact ⟨Int.le_refl 0,show (0:Int) < U64 by unfold U64; decide⟩
theorem zEN {r:za} {a:zr} (hr:zU r) (ha:zbl a) {i:Nat} (hi:i < r.1.length):zbB ((i:Int),some r,some a,()) = some (jg (r.1.getD i zC) a,()):=by
 rw [zM]
 simp only [zbB,Option.bind_some]
 rw [zD hi,qj,zeo (hr.labels _ (qa hi)) ha]
 rfl
theorem zKo {r:za} {a:zr} (ha:zbl a) {i:Nat} (hi:i < r.2.2.2.1.length):zgC ((i:Int),some r,some a,()) = some (jg (zgK (r.2.2.2.1.getD i zJ).1) a,()):=by
 rw [zM]
 simp only [zgC,Option.bind_some]
 rw [zD hi,qj,zmo]
 simp only [Option.bind_some]
 have e:(bif vh (r.2.2.2.1.getD i zJ).1 then (zcR (r.2.2.2.1.getD i zJ).1,(0:Int),()) else ((0,0,()),1,())).1 = zgK (r.2.2.2.1.getD i zJ).1:=by
  unfold zgK
  cases vh (r.2.2.2.1.getD i zJ).1 <;> rfl
 rw [e,zeo (zHW _) ha]
 rfl
def zar (r:za) (i:Nat):Int:=r.2.1.getD i 0
theorem zGA {r:za} (hb:zL r = true) {i:Nat} (hi:i < r.2.1.length):0 ≤ zar r i ∧ zar r i < (r.1.length:Int):=by
 simp only [zL,zj8,Bool.and_eq_true,decide_eq_true_eq,List.all_eq_true] at hb
 exact hb.2.1.2 _ (qa (d:=(0:Int)) hi)
theorem zKp {r:za} {a:zr} (hr:zU r) (hb:zL r = true) (ha:zbl a) {i:Nat} (hi:i < r.2.1.length):zgA ((i:Int),some (some fun z=>zbB (z.1,some r,some a,())),some r,()) = some (jg (r.1.getD (zar r i).toNat zC) a,()):=by
 have hl:=zGA hb hi
 rw [zM]
 simp only [zgA,Option.bind_some]
 rw [zD hi,qj]
 have e:r.2.1.getD i 0 = (((zar r i).toNat:Nat):Int):=by
  show zar r i = _
  omega
 rw [e,zEN hr ha (by omega)]
 rfl
def zeM (r:za) (a:zr) (s:zd):zd:=(s.1,qq zg (fun i=>jg (r.1.getD i zC) a) s.2.1 (zcG r).2.1,qq [] (fun i=>jg (zgK (r.2.2.2.1.getD i zJ).1) a) s.2.2.1 (zcG r).2.2.1,s.2.2.2.1,s.2.2.2.2.1,qq 0 (fun i=>jg (r.1.getD (zar r i).toNat zC) a) s.2.2.2.2.2.1 (zcG r).2.2.2.2.2.1,())
theorem zlc {α:Type} {d:α} {p:Nat→Bool} {now fresh:List α} (hf:now.length ≤ fresh.length) {x:α} (h:x ∈ qq d p now fresh):x ∈ now ∨ x ∈ fresh:=by
 unfold qq at h
 obtain ⟨i,hi,rfl⟩:=List.mem_map.1 h
 have hi':=List.mem_range.1 hi
 unfold zlb
 cases p i with
 | true=>exact .inl (qa hi')
 | false=>exact .inr (qa (by omega))
theorem zEO {r:za} (hb:zL r = true):ztC (zcG r):=by
 have ok:=qt hb
 have ha:=ok.accounts
 have hg:=ok.guilds
 have hl:=ok.lines
 have ho:=ok.labels
 have hq:=ok.quotas
 have h24:0 ≤ r.2.2.2.2.2.1 ∧ r.2.2.2.2.2.1 ≤ 24:=by
  simp only [zL,zt0,ql,Bool.and_eq_true,decide_eq_true_eq] at hb
  omega
 have hsh:∀ q ∈ r.2.2.2.2.1,zyM (zaq r q):=fun q hq=>by
  have h:=zEK (zyO hb q hq)
  refine ⟨?_,?_,?_,?_,?_,?_,?_⟩ <;> (show (List.replicate _ _).length * _ ≤ _; rw [List.length_replicate]; omega)
 refine ⟨by show (List.set _ _ _).length * _ ≤ _; rw [List.length_set,List.length_map]; omega,by show (List.map _ _).length * _ ≤ _; rw [List.length_map]; omega,by show (List.replicate _ _).length * _ ≤ _; rw [List.length_replicate]; omega,Nat.zero_le _,by show (List.replicate _ _).length * _ ≤ _; rw [List.length_replicate]; omega,fun x hx=>?_,fun l hl=>?_⟩
 ·rcases List.mem_or_eq_of_mem_set hx with hx | rfl
  ·obtain ⟨q,hq,rfl⟩:=List.mem_map.1 hx
   exact hsh q hq
  ·have h0:zyM ((r.2.2.2.2.1.map (zaq r)).getD 0 zg):=by
    have hm:(r.2.2.2.2.1.map (zaq r)).getD 0 zg ∈ r.2.2.2.2.1.map (zaq r):=qa (by rw [List.length_map]; omega)
    obtain ⟨q,hq,e⟩:=List.mem_map.1 hm
    rw [← e]; exact hsh q hq
   exact ⟨by show (List.set _ _ _).length * _ ≤ _; rw [List.length_set]; exact h0.rooms,h0.exits,h0.items,h0.mails,h0.trades,h0.purses,h0.places⟩
 ·obtain ⟨g,hg,rfl⟩:=List.mem_map.1 hl
  show (List.set _ _ _).length * _ ≤ _
  rw [List.length_set,List.length_replicate]; omega
theorem zvi {r:za} {s:zd} {a:zr} (hr:zU r) (h:zY r s = true) (ha:zbl a) (la:zbF a = true):zgq (r,s,a,()) = some (zeM r a s,0,()):=by
 obtain ⟨hb,hz,hp⟩:=qb h
 have ok:=qt hb
 have sz:=yf hb hz
 have hf:=zpJ h
 have hn:=zEO hb
 have h1:=sz.shelves
 have h2:s.2.2.1.length = r.2.2.2.1.length:=by
  have hh:vi r s.2.2.1 = true:=by simp only [zbH,Bool.and_eq_true] at hp; exact hp.1
  exact (zd4 hh).1
 have h3:=sz.people
 have hlab:=ok.labels
 have hgui:=ok.guilds
 have hlin:=ok.lines
 have hq:=ok.quotas
 have f1:(zcG r).2.1.length = r.1.length:=by show (List.set _ _ _).length = _; rw [List.length_set,List.length_map]; exact hq
 have f2:(zcG r).2.2.1.length = r.2.2.2.1.length:=List.length_map ..
 have f3:(zcG r).2.2.2.2.2.1.length = r.2.1.length:=List.length_replicate ..
 have hfit:zjr (r,s,()) = some (true,()):=by
  simp only [zjr]
  rw [h1,h2,h3]
  simp
 have hv:ztC (zeM r a s):=by
  refine ⟨?_,?_,hf.orders,hf.entries,?_,fun x hx=>?_,fun l hl=>?_⟩
  ·show (qq _ _ _ _).length * _ ≤ _; rw [zfK]; exact hf.shelves
  ·show (qq _ _ _ _).length * _ ≤ _; rw [zfK]; exact hf.ranks
  ·show (qq _ _ _ _).length * _ ≤ _; rw [zfK]; exact hf.seats
  ·rcases zlc (by omega) hx with hx | hx
   ·exact hf.shelf x hx
   ·exact hn.shelf x hx
  ·rcases zlc (by omega) hl with hl | hl
   ·exact hf.rank l hl
   ·exact hn.rank l hl
 simp only [zgq]
 refine (bnd (zF4 hr)).trans ?_
 rw [hb]
 refine (cF rfl).trans ?_
 refine (bnd (zgJ a)).trans ?_
 refine (cT la).trans ?_
 refine (bnd hfit).trans ?_
 refine (cT rfl).trans ?_
 refine (bnd (zAf (by omega) (by show s.2.1.length ≤ (zcG r).2.1.length; omega) fun i hi=>zEN hr ha (by omega))).trans ?_
 refine (bnd (zB7 (by omega) (by show s.2.2.1.length ≤ (zcG r).2.2.1.length; omega) fun i hi=>zKo ha (by omega))).trans ?_
 refine (bnd (zEM (by omega) (by show s.2.2.2.2.2.1.length ≤ (zcG r).2.2.2.2.2.1.length; omega) fun i hi=>zKp hr hb ha (by omega))).trans ?_
 refine (bnd (zej hv)).trans ?_
 rfl
theorem zF6 {r:za} {s t:zd} {a:zr} (hr:zU r) (h:zY r s = true) (h':zY r t = true) (ha:zbl a) (la:zbF a = true) (hf:ztC (zeM r a s)):qu (r,s,t,a,()) = some (zyL (zeM r a s) (zeM r a t),()):=by
 rw [zM]
 simp only [qu]
 refine (bnd (zvi hr h ha la)).trans ?_
 refine (bnd (zvi hr h' ha la)).trans ?_
 refine (cT rfl).trans ?_
 refine (cT rfl).trans ?_
 refine (bnd (zEL (zJk hf))).trans ?_
 rfl
end Go.Proofs.YtkcakhbkoeimdaaGreatDoor
end
section
namespace Go.Proofs.YtkcakhbkoeimdaaGreatDoor
open Go.Ev
abbrev zAg (l:List zw):Option yd:=some (l,some qU,())
theorem zqL {l:List zw} (hl:l.length ≤ lim):zdZ (l,()) = some (zAg l,()):=by
 simp only [zdZ,zh8]
 rw [ztA hl]; rfl
theorem zEP (x:zw):qU (x,()) = some (x.1,()):=(zM x.1).symm
theorem zor (l:List zw):y5 (zAg l,()) = some (true,()):=rfl
def zwF (l:List zw) (i:Int):Bool:=decide (0 ≤ i ∧ i < (l.length:Int)) && (ix zcL l i).1
theorem zLb {l:List zw} {i:Int} (h:zwF l i = true):0 ≤ i ∧ i < (l.length:Int):=by
 simp only [zwF,Bool.and_eq_true,decide_eq_true_eq] at h; exact h.1
theorem zHX (l:List zw) (i:Int):zda (zAg l,i,()) = some (zwF l i,()):=by
 rw [zM]
 simp only [zda]
 refine (bnd (zor l)).trans ?_
 refine (cT rfl).trans ?_
 unfold zwF
 by_cases h:0 ≤ i ∧ i < (l.length:Int)
 ·rw [decide_eq_true h,Bool.true_and]
  refine (cT (decide_eq_true (show i ≥ 0 from h.1))).trans ?_
  refine (bnd (a:=(l,some qU,())) rfl).trans ?_
  refine (cT (decide_eq_true (show i < (l.length:Int) from h.2))).trans ?_
  refine (bnd (a:=(l,some qU,())) rfl).trans ?_
  refine (bnd (a:=(l,some qU,())) rfl).trans ?_
  refine (ixR h).trans ?_
  refine (bnd (a:=qU) rfl).trans ?_
  refine (bnd (zEP _)).trans ?_
  cases (ix zcL l i).1 <;> rfl
 ·rw [decide_eq_false h,Bool.false_and]
  by_cases h0:i ≥ 0
  ·refine (cT (decide_eq_true h0)).trans ?_
   refine (bnd (a:=(l,some qU,())) rfl).trans ?_
   exact cF (decide_eq_false (show ¬ i < (l.length:Int) by omega))
  ·exact cF (decide_eq_false h0)
theorem zyQ {l:List zw} (hl:l.length ≤ lim) {i:Int} (hi:0 ≤ i ∧ i < (l.length:Int)) (x:zw):zdb (zAg l,i,x,()) = some (List.set l i.toNat x,0,()):=by
 simp only [zdb]
 refine (bnd (zor l)).trans ?_
 refine (cT rfl).trans ?_
 refine (cF (decide_eq_false (by omega))).trans ?_
 refine (bnd (a:=(l,some qU,())) rfl).trans ?_
 refine (cF (decide_eq_false (show ¬ i ≥ (l.length:Int) by omega))).trans ?_
 refine (bnd (a:=(l,some qU,())) rfl).trans ?_
 refine (bnd (ztA hl)).trans ?_
 exact ixR hi
def zd5 (l:List zw):Int:=qB (fun x=>!x.1) l 0
theorem zEQ {l:List zw} (hl:l.length ≤ Go.maxLen):zdX (zAg l,()) = some (bif decide (zd5 l < 0) then (0,8,()) else (zd5 l,0,())):=by
 simp only [zdX]
 refine (bnd (zor l)).trans ?_
 refine (cT rfl).trans ?_
 refine (bnd (a:=(l,some qU,())) rfl).trans ?_
 refine (bnd (zmj (p:=fun x=>!x.1) hl fun x _=>?_)).trans ?_
 ·show Option.bind (qU (x,())) (fun q3=>bif q3.1 then some (false,()) else some (true,())) = some (!x.1,())
  refine (bnd (zEP x)).trans ?_
  cases x.1 <;> rfl
 ·show (bif decide (zd5 l < 0) then some (0,8,()) else some (zd5 l,0,())) = _
  cases decide (zd5 l < 0) <;> rfl
def zmz (l:List zw) (x:zw):List zw × Int × Int × Unit:=bif decide (zd5 l < 0) then ([],0,8,()) else (List.set l (zd5 l).toNat x,zd5 l,0,())
theorem zKq {l:List zw} (h:¬ zd5 l < 0):0 ≤ zd5 l ∧ zd5 l < (l.length:Int):=by
 have hr:=zt5 (p:=fun x:zw=>!x.1) l 0 (Int.le_refl 0)
 unfold zd5 at h ⊢
 omega
theorem zHY {l:List zw} (hl:l.length ≤ 2000000) (x:zw):zfA (zAg l,x,()) = some (zmz l x):=by
 simp only [zfA]
 refine (bnd (zEQ (zyN hl))).trans ?_
 unfold zmz
 by_cases h:zd5 l < 0
 ·rw [decide_eq_true h]; rfl
 ·rw [decide_eq_false h]
  refine (cF rfl).trans ?_
  exact bnd (zyQ (zpI hl) (zKq h) x)
def zyR (m:zw):Bool:=qV m.2.1 && (qV m.2.2.1 && qV m.2.2.2.1)
theorem zAh (m:zw):zaQ (m,()) = some (zyR m,()):=by
 rw [zM]
 simp only [zaQ,zAP,Option.bind_some,zyR]
 grind
def zHZ (l:List zw) (m:zw):List zw × Int × Int × Unit:=bif l.all zco then bif zyR m then bif zab m.2.2.2.2.1 then zmz l (true,m.2) else ([],0,2,()) else ([],0,1,()) else ([],0,1,())
theorem zH0 {l:List zw} (hl:l.length ≤ 2000000) (m:zw):zk3 (l,m,()) = some (zHZ l m):=by
 simp only [zk3]
 refine (bnd (zmp (zyN hl))).trans ?_
 unfold zHZ
 cases l.all zco with
 | false=>rfl
 | true =>
  refine (cT rfl).trans ?_
  refine (bnd (zAh m)).trans ?_
  cases zyR m with
  | false=>rfl
  | true =>
   refine (cT rfl).trans ?_
   refine (bnd (zjC _)).trans ?_
   cases zab m.2.2.2.2.1 with
   | false=>rfl
   | true =>
    refine (cT rfl).trans ?_
    refine (bnd (zqL (zpI hl))).trans ?_
    exact bnd (zHY hl _)
def isM (l:List zw) (i to:Int):Bool:=decide (0 ≤ i ∧ i < (l.length:Int)) && ((ix zcL l i).1 && ((ix zcL l i).2.2.2.1:Int) == to)
theorem zLS {l:List zw} {i to:Int} (h:isM l i to = true):0 ≤ i ∧ i < (l.length:Int):=by
 simp only [isM,Bool.and_eq_true,decide_eq_true_eq] at h; exact h.1
abbrev zMk:zw:=(false,0,0,0,ByteArray.mk #[],())
def zKr (l:List zw) (i to:Int):zw × Int × Unit:=bif isM l i to then (ix zcL l i,0,()) else (zMk,3,())
theorem zLc (l:List zw) (i to:Int):isM l i to = (zwF l i && ((ix zcL l i).2.2.2.1:Int) == to):=by
 unfold isM zwF
 rw [Bool.and_assoc]
theorem zH1 {l:List zw} (hl:l.length ≤ 2000000) (i to:Int):zif (l,i,to,()) = some (zKr l i to):=by
 simp only [zif]
 refine (bnd (zqL (zpI hl))).trans ?_
 refine (bnd (zHX l i)).trans ?_
 unfold zKr
 rw [zLc]
 cases h:zwF l i with
 | false=>rfl
 | true =>
  have hi:=zLb h
  refine (cT rfl).trans ?_
  refine (ixR hi).trans ?_
  show cond (!(((ix zcL l i).2.2.2.1:Int) == to)) _ _ = _
  cases ((ix zcL l i).2.2.2.1:Int) == to with
  | false=>rfl
  | true =>
   refine (cF rfl).trans ?_
   exact ixR hi
def zyS (l:List zw) (i to:Int):List zw × Int × Unit:=bif l.all zco then bif isM l i to then (List.set l i.toNat (ze zy),0,()) else ([],3,()) else ([],1,())
theorem zF7 {l:List zw} (hl:l.length ≤ 2000000) (i to:Int):zjy (l,i,to,()) = some (zyS l i to):=by
 simp only [zjy]
 refine (bnd (zmp (zyN hl))).trans ?_
 unfold zyS
 cases l.all zco with
 | false=>rfl
 | true =>
  refine (cT rfl).trans ?_
  refine (bnd (zH1 hl i to)).trans ?_
  unfold zKr
  cases h:isM l i to with
  | false=>rfl
  | true =>
   refine (cF rfl).trans ?_
   refine (bnd (zqL (zpI hl))).trans ?_
   exact bnd (zyQ (zpI hl) (zLS h) _)
end Go.Proofs.YtkcakhbkoeimdaaGreatDoor
end
section
namespace Go.Proofs.YtkcakhbkoeimdaaGreatDoor
open Go.Ev
theorem zjk {l:List Int} {a:Int} (hl:l.length ≤ Go.maxLen):jm (l,a,()) = some (l.any fun y=>a == y,()):=by
 have h:zi3 (l,a,()) = some (qB (fun y=>a == y) l 0,()) :=
  zEf (B:=za5) (l:=l) (0:Int) (fun i=>(l,a,(l.length:Int),i)) hl (fun k i x hi hx _=>by
   simp only [za5]
   rw [ltT hi,zD hi,qj,hx]; rfl) (fun k=>by simp only [za5]; rw [ltF]; rfl)
 simp only [jm]
 rw [h,Option.bind_some,zqd (p:=fun y=>a == y) l 0 (Int.le_refl 0)]
 cases l.any fun y=>a == y <;> rfl
theorem znQ (a b:Int):zdw (a,b,()) = some (decide (0 ≤ a ∧ a < b),()):=by simp only [zdw]; grind
theorem zKs {c:Int} (hc:0 ≤ c) {b:Int} (hb:0 ≤ b ∧ b < 64):(((jM c.toNat).map Int.ofNat).any fun y=>b == y) = zcF c b.toNat:=by
 obtain ⟨n,rfl⟩:=Int.eq_ofNat_of_zero_le hb.1
 rw [Bool.eq_iff_iff,List.any_eq_true,Int.toNat_natCast]
 unfold zcF jM
 constructor
 ·rintro ⟨x,hx,e⟩
  obtain ⟨m,hm,rfl⟩:=List.mem_map.1 hx
  obtain rfl:n = m:=by
   have:=eq_of_beq e
   exact Int.ofNat.inj this
  exact (List.mem_filter.1 hm).2
 ·intro h
  exact ⟨(n:Int),List.mem_map.2 ⟨n,List.mem_filter.2 ⟨by simp; omega,h⟩,rfl⟩,by simp⟩
def yG (r:za) (i:Int):List Int:=(List.range r.2.2.2.1.length).filterMap fun g=>bif zcF (r.1.getD i.toNat zC).2.1 (r.2.2.2.1.getD g zJ).1.toNat then some (g:Int) else none
theorem zLT {r:za} (hb:zL r = true):∀ g ∈ r.2.2.2.1,0 ≤ g.1 ∧ g.1 < 64:=by
 simp only [zL,zlg,Bool.and_eq_true] at hb
 intro g hg
 have:=znI _ _ hb.2.2.2.1.2.1 g hg
 simp only [vh,Bool.and_eq_true,decide_eq_true_eq] at this
 exact this
theorem zpK {r:za} (hr:zU r) (i:Int) (hi:qp r i = true):yF (r,i,()) = some (bif zL r then yG r i else [],()):=by
 simp only [yF,zfE,ziz hr,Option.bind_some,hi,Bool.and_true]
 cases hb:zL r with
 | false=>rfl
 | true =>
  have hc:=zmv hr i hi
  simp only [qp,decide_eq_true_eq] at hi
  have ok:=qt hb
  have hg:=ok.guilds
  have hbits:=zLT hb
  have hin:zeV (r.1.getD i.toNat zC,()) = some ((jM (r.1.getD i.toNat zC).2.1.toNat).map Int.ofNat,()):=by
   unfold zeV
   rw [decide_eq_true (show 0 ≤ (r.1.getD i.toNat zC).2.1 ∧ (r.1.getD i.toNat zC).2.1 < 18446744073709551616 from hc)]; rfl
  have:=jU (B:=zbi) (len:=r.2.2.2.1.length) (by unfold Go.maxLen; omega) (fun j o=>(i,r.2.2.2.1,(r.2.2.2.1.length:Int),j,r,o))
   (fun j o=>some (o ++ (List.range' j (r.2.2.2.1.length - j)).filterMap fun g=>bif zcF (r.1.getD i.toNat zC).2.1 (r.2.2.2.1.getD g zJ).1.toNat then some (g:Int) else none,())) (fun j o=>o.length ≤ j) (fun k j o hj hI h=>by
    simp only [zbi]
    rw [ltT hj,zD hj,ixR hi,qj]
    simp only [cond_true]
    rw [show ix zC r.1 i = r.1.getD i.toNat zC from rfl,hin,Option.bind_some,zjk (by rw [List.length_map]; have:=zDf (r.1.getD i.toNat zC).2.1.toNat; unfold Go.maxLen; omega),Option.bind_some,zKs hc.1 (hbits _ (qa hj)),zai,zbj (by simp; omega)]
    have e:List.range' j (r.2.2.2.1.length - j) = j :: List.range' (j + 1) (r.2.2.2.1.length - (j + 1)):=by
     rw [show r.2.2.2.1.length - j = (r.2.2.2.1.length - (j + 1)) + 1 by omega,List.range'_succ]
    rw [e,List.filterMap_cons]
    cases zcF (r.1.getD i.toNat zC).2.1 (r.2.2.2.1.getD j zJ).1.toNat with
    | true =>
     simp only [cond_true]
     rw [h _ (by rw [List.length_append]; simp; omega),List.append_assoc]; rfl
    | false =>
     simp only [cond_false]
     rw [h _ (by omega)]) (fun k o _=>by
    simp only [zbi]
    rw [ltF,Nat.sub_self]; simp) [] (Nat.le_refl 0)
  refine Eq.trans this ?_
  unfold yG
  rw [List.nil_append,Nat.sub_zero,List.range_eq_range']; rfl
def vI (l:List (List Int)) (g:Nat) (who:Int):Int:=(l.getD g []).getD who.toNat 0
def zg4 (r:za) (l:List (List Int)) (who i:Int):Bool:=qh (fun g=>!zcF (r.1.getD i.toNat zC).2.1 (r.2.2.2.1.getD g zJ).1.toNat || vI l g who != 0) 0 r.2.2.2.1.length && decide ((r.1.getD i.toNat zC).1 ≤ (r.2.2.1.getD who.toNat zeU).2.2.1)
theorem zAi {r:za} (hr:zU r) (hb:zL r = true) {l:List (List Int)} (hl:vi r l = true) (who i:Int):zfF (r,l,who,i,()) = some (qC r who && (qp r i && zg4 r l who i),()):=by
 rw [zM]
 have ok:=qt hb
 have hg:=ok.guilds
 simp only [zfF,zmr hr,hb,hl,znQ,Option.bind_some,Bool.and_self,cond_true]
 rw [show decide (0 ≤ who ∧ who < (r.2.2.1.length:Int)) = qC r who from rfl,show decide (0 ≤ i ∧ i < (r.1.length:Int)) = qp r i from rfl]
 cases hw:qC r who with
 | false=>rfl
 | true =>
  cases hi:qp r i with
  | false=>rfl
  | true =>
   have hw':=hw
   have hi':=hi
   simp only [qC,qp,decide_eq_true_eq] at hw' hi'
   have hrl:=zd4 hl
   have hc1:∀ g ∈ yG r i,za3 (g,some l,some who,()) = some (vI l g.toNat who == 0,()):=by
    intro g hg'
    obtain ⟨m,hm,hm2⟩:=List.mem_filterMap.1 hg'
    cases hh:zcF (r.1.getD i.toNat zC).2.1 (r.2.2.2.1.getD m zJ).1.toNat with
    | false=>rw [hh] at hm2; cases hm2
    | true =>
     rw [hh] at hm2
     cases hm2
     have hm':m < r.2.2.2.1.length:=by simpa using hm
     rw [zM]
     simp only [za3,Option.bind_some,Int.toNat_natCast]
     rw [zD (by omega),ixR (by rw [hrl.2 m hm']; exact hw')]
     rfl
   rw [ixR hw',ixR hi',zpK hr i hi,hb]
   simp only [Option.bind_some,cond_true,Bool.true_and]
   have hlen:(yG r i).length ≤ Go.maxLen:=by
    have:=List.length_filterMap_le (fun g=>bif zcF (r.1.getD i.toNat zC).2.1 (r.2.2.2.1.getD g zJ).1.toNat then some (g:Int) else none) (List.range r.2.2.2.1.length)
    rw [List.length_range] at this
    unfold yG Go.maxLen
    omega
   have hcf:qm (yG r i,some fun z=>za3 (z.1,some l,some who,()),()) = some ((yG r i).any fun g=>vI l g.toNat who == 0,()):=yY (p:=fun g=>vI l g.toNat who == 0) hlen hc1
   rw [hcf,Option.bind_some]
   have key:((yG r i).any fun g=>vI l g.toNat who == 0) = !qh (fun g=>!zcF (r.1.getD i.toNat zC).2.1 (r.2.2.2.1.getD g zJ).1.toNat || vI l g who != 0) 0 r.2.2.2.1.length:=by
    rw [Bool.eq_iff_iff,List.any_eq_true]
    constructor
    ·rintro ⟨g,hg1,hg2⟩
     obtain ⟨m,hm,hm2⟩:=List.mem_filterMap.1 hg1
     have hm':m < r.2.2.2.1.length:=by simpa using hm
     cases hh:zcF (r.1.getD i.toNat zC).2.1 (r.2.2.2.1.getD m zJ).1.toNat with
     | false=>rw [hh] at hm2; cases hm2
     | true =>
      rw [hh] at hm2
      cases hm2
      cases ha:qh (fun g=>!zcF (r.1.getD i.toNat zC).2.1 (r.2.2.2.1.getD g zJ).1.toNat || vI l g who != 0) 0 r.2.2.2.1.length with
      | false=>rfl
      | true =>
       have:=qL.1 ha m (Nat.zero_le _) (by omega)
       rw [hh] at this
       simp at this
       rw [Int.toNat_natCast] at hg2
       exact absurd (eq_of_beq hg2) this
    ·intro ha
     rw [Bool.not_eq_true',← Bool.not_eq_true,qL] at ha
     simp only [Classical.not_forall] at ha
     obtain ⟨m,h1,h2,h3⟩:=ha
     simp only [Bool.or_eq_true,Bool.not_eq_true',bne_iff_ne,ne_eq,not_or,Bool.not_eq_false,Classical.not_not] at h3
     refine ⟨(m:Int),List.mem_filterMap.2 ⟨m,by simp; omega,by rw [h3.1]; rfl⟩,?_⟩
     rw [Int.toNat_natCast,h3.2]; rfl
   rw [key]
   unfold zg4
   rw [show (ix zeU r.2.2.1 who) = r.2.2.1.getD who.toNat zeU from rfl,show ix zC r.1 i = r.1.getD i.toNat zC from rfl]
   generalize qh (fun g=>!zcF (r.1.getD i.toNat zC).2.1 (r.2.2.2.1.getD g zJ).1.toNat || vI l g who != 0) 0 r.2.2.2.1.length = u
   grind
theorem zLd {r:za} {s:zd} (h:zY r s = true) {i:Nat} (hi:i < s.2.2.2.2.2.1.length):s.2.2.2.2.2.1.getD i 0 = -1 ∨ qC r (s.2.2.2.2.2.1.getD i 0) = true:=by
 have hp:=(qb h).2.2
 simp only [zbH,Bool.and_eq_true,List.all_eq_true] at hp
 have:=hp.2.2.2.2.2.2 _ (qa (d:=(0:Int)) hi)
 simp only [zpE,Bool.or_eq_true,beq_iff_eq] at this
 exact this
theorem zLe {r:za} (hb:zL r = true) {i:Nat} (hi:i < r.2.1.length):qp r (r.2.1.getD i 0) = true:=by
 simp only [zL,zj8,Bool.and_eq_true,List.all_eq_true,decide_eq_true_eq] at hb
 have:=hb.2.1.2 _ (qa (d:=(0:Int)) hi)
 simp only [qp,decide_eq_true_eq]
 exact this
end Go.Proofs.YtkcakhbkoeimdaaGreatDoor
end
section
namespace Go.Proofs.YtkcakhbkoeimdaaGreatDoor
open Go.Ev
abbrev jW (s:zd) (p:Int):List zw:=(ix zg s.2.1 p).2.2.2.1
abbrev zKt (s:zd) (p:Int) (l:List zw):zd:=upd s p (u3 (ix zg s.2.1 p) l)
theorem Ctx.at_ {r:za} {s:zd} {me:pMe} (x:Ctx r s me) {p:Int} (hp:qp r p = true):0 ≤ p ∧ p < (s.2.1.length:Int):=by
 obtain ⟨hb,hz,-⟩:=qb x.rs
 have:=(yf hb hz).shelves
 simp only [qp,decide_eq_true_eq] at hp
 omega
theorem Ctx.lab {r:za} {s:zd} {me:pMe} (x:Ctx r s me):qp r me.2.1 = true:=by
 obtain ⟨hb,hz,-⟩:=qb x.rs
 have h1:=(yf hb hz).shelves
 have:=x.hi
 simp only [qp,decide_eq_true_eq]
 omega
theorem Ctx.mails {r:za} {s:zd} {me:pMe} (x:Ctx r s me) {p:Int} (hp:qp r p = true):(jW s p).length ≤ 12 ∧ (jW s p).all zco = true:=by
 obtain ⟨hb,hz,-⟩:=qb x.rs
 have hi:=x.at_ hp
 have h:=(yf hb hz).shelf _ (zka hi)
 have h':=x.rs
 simp only [zY,Bool.and_eq_true,qL] at h'
 have:=(h'.2.2.2.1 p.toNat (Nat.zero_le _) (by omega)).1.1
 simp only [jy,Bool.and_eq_true] at this
 exact ⟨h.2.2.2.1,this.2.2.2.1⟩
theorem zGB {r:za} (hb:zL r = true) {p:Int} (hp:qp r p = true):qV p = true:=by
 have:=(qt hb).labels
 simp only [qp,qV,decide_eq_true_eq] at hp ⊢
 omega
theorem zER {r:za} {s:zd} {me:pMe} (x:Ctx r s me):zc7 (s,me,()) = some (jW s me.2.1,()):=by
 simp only [zc7]
 exact ixR x.hi
abbrev zqM (me:pMe) (who:Int) (text:ByteArray):zw:=(false,me.2.1,me.2.2.1,who,text,())
def zCl (s:zd) (me:pMe) (p:Int) (v:List zw × Int × Int × Unit):zd × Int × Unit:=bif v.2.2.1 == 0 then (zKt s p v.1,0,()) else bif v.2.2.1 == 2 then (zjj,2,()) else bif p == me.2.1 then (zjj,8,()) else (s,0,())
def zqN (r:za) (s:zd) (me:pMe) (p who:Int) (text:ByteArray):zd × Int × Unit :=
 bif zY r s && vk r me then bif qp r p && qC r who then bif zf4 r me.2.1 p then zCl s me p (bif zab text then zmz (jW s p) (true,(zqM me who text).2) else ([],0,2,())) else (zjj,5,()) else (zjj,1,()) else (zjj,1,())
theorem zKu (l:List zw) (m:zw):(zmz l m).2.2.1 = 0 ∨ (zmz l m).2.2.1 = 8:=by
 unfold zmz
 cases decide (zd5 l < 0)
 ·exact .inl rfl
 ·exact .inr rfl
theorem zLU {r:za} {p who:Int} {ρ:Type} {x y:ρ} (h:(qp r p && qC r who) = false):(bif decide (p < 0) then x else bif decide (p ≥ (r.1.length:Int)) then x else bif decide (who < 0) then x else bif decide (who ≥ (r.2.2.1.length:Int)) then x else y) = x:=by
 simp only [qp,qC] at h
 grind
theorem zLf {r:za} {p who:Int} {ρ:Type} {x y:ρ} (h:(qp r p && qC r who) = true):(bif decide (p < 0) then x else bif decide (p ≥ (r.1.length:Int)) then x else bif decide (who < 0) then x else bif decide (who ≥ (r.2.2.1.length:Int)) then x else y) = y:=by
 simp only [qp,qC,Bool.and_eq_true,decide_eq_true_eq] at h
 rw [decide_eq_false (by omega),decide_eq_false (by omega),decide_eq_false (by omega),decide_eq_false (by omega)]
 rfl
theorem zJm {r:za} {s:zd} {me:pMe} (x:Ctx r s me) {p who:Int} (hp:qp r p = true) (hw:qC r who = true) (text:ByteArray):zHZ (jW s p) (zqM me who text) = bif zab text then zmz (jW s p) (true,(zqM me who text).2) else ([],0,2,()):=by
 have hb:=(qb x.rs).1
 unfold zHZ zyR
 rw [(x.mails hp).2]
 show (bif qV me.2.1 && (qV me.2.2.1 && qV who) then _ else _) = _
 rw [zGB hb x.lab,zt6 hb x.who,zt6 hb hw]
 rfl
theorem zF8 {r:za} {s:zd} {me:pMe} (hr:zU r) (hs:qY s) (p who:Int) (text:ByteArray):yM (r,s,me,p,who,text,()) = some (zqN r s me p who text):=by
 simp only [yM]
 refine (bnd (zdt hr hs me)).trans ?_
 unfold zqN
 cases h:zY r s && vk r me with
 | false=>rfl
 | true =>
  simp only [Bool.and_eq_true] at h
  have x:Ctx r s me:=⟨h.1,h.2⟩
  have hb:=(qb x.rs).1
  refine (cT rfl).trans ?_
  cases h4:qp r p && qC r who with
  | false=>exact zLU h4
  | true =>
   refine (zLf h4).trans ?_
   simp only [Bool.and_eq_true] at h4
   refine (bnd (zvg hr hb _ _)).trans ?_
   show cond (zf4 r me.2.1 p) _ _ = _
   cases zf4 r me.2.1 p with
   | false=>rfl
   | true =>
    refine (cT rfl).trans ?_
    refine (ixR (x.at_ h4.1)).trans ?_
    refine (bnd (zH0 (l:=jW s p) (Nat.le_trans (x.mails h4.1).1 (by omega)) (zqM me who text))).trans ?_
    rw [zJm x h4.1 h4.2]
    refine (bnd (zej (zpJ x.rs))).trans ?_
    show _ = some (zCl s me p _)
    unfold zCl
    cases ht:zab text with
    | false=>rfl
    | true =>
     rw [cond_true]
     show cond ((zmz (jW s p) (true,(zqM me who text).2)).2.2.1 == 0) _ _ = _
     have he:=zKu (jW s p) (true,(zqM me who text).2)
     generalize zmz (jW s p) (true,(zqM me who text).2) = v at he ⊢
     rcases he with he | he
     ·rw [he]
      refine (cT rfl).trans ?_
      exact ixR (x.at_ h4.1)
     ·rw [he]
      refine (cF rfl).trans ?_
      refine (cF rfl).trans ?_
      show cond (p == me.2.1) (some (zjj,8,())) (some (s,0,())) = some (cond (p == me.2.1) (zjj,8,()) (s,0,()))
      cases p == me.2.1 <;> rfl
def zCm (s:zd) (me:pMe) (v:List zw × Int × Unit):zd × Int × Unit:=bif v.2.1 != 0 then (zjj,v.2.1,()) else (zKt s me.2.1 v.1,0,())
def zqO (r:za) (s:zd) (me:pMe) (i:Int):zd × Int × Unit:=bif zY r s && vk r me then zCm s me (zyS (jW s me.2.1) i me.2.2.1) else (zjj,1,())
theorem zF9 {r:za} {s:zd} {me:pMe} (hr:zU r) (hs:qY s) (i:Int):zaL (r,s,me,i,()) = some (zqO r s me i):=by
 simp only [zaL]
 refine (bnd (zdt hr hs me)).trans ?_
 unfold zqO
 cases h:zY r s && vk r me with
 | false=>rfl
 | true =>
  simp only [Bool.and_eq_true] at h
  have x:Ctx r s me:=⟨h.1,h.2⟩
  refine (cT rfl).trans ?_
  refine (bnd (zER x)).trans ?_
  refine (bnd (zF7 (Nat.le_trans (x.mails x.lab).1 (by omega)) i me.2.2.1)).trans ?_
  show _ = some (zCm s me _)
  unfold zCm
  cases he:(zyS (jW s me.2.1) i me.2.2.1).2.1 != 0 with
  | true=>exact cT rfl
  | false =>
   refine (cF rfl).trans ?_
   refine (bnd (zej (zpJ x.rs))).trans ?_
   exact ixR x.hi
end Go.Proofs.YtkcakhbkoeimdaaGreatDoor
end
section
namespace Go.Proofs.YtkcakhbkoeimdaaGreatDoor
open Go.Ev
theorem zKv {a b:zr}:eqI zp a b = true ↔ (a.1:Int) = b.1 ∧ (a.2.1:Int) = b.2.1:=by
 rw [zI7,Bool.and_eq_true,beq_iff_eq,beq_iff_eq]
theorem zES {α:Type} {p:α→Bool} (d:α):∀ (l:List α) (i:Int),0 ≤ i→¬ qB p l i < 0→p (l.getD (qB p l i - i).toNat d) = true
 | [],i,h,hn=>absurd (show qB p [] i < 0 from (by decide:(-1:Int) < 0)) hn
 | x :: l,i,h,hn=>by
  simp only [qB] at hn ⊢
  cases hp:p x with
  | true =>
   rw [hp] at hn
   simp only [cond_true]
   rw [show (i - i).toNat = 0 by omega]; exact hp
  | false =>
   rw [hp] at hn
   simp only [cond_false] at hn ⊢
   have h1:=zES (p:=p) d l (i + 1) (by omega) hn
   have h2:=zt5 (p:=p) l (i + 1) (by omega)
   have h3:(qB p l (i + 1) - i).toNat = (qB p l (i + 1) - (i + 1)).toNat + 1:=by
    rcases h2 with h2 | h2 <;> omega
   rw [h3]; exact h1
def z4 (r:za) (i:Int):Int:=qB (fun g:zN=>eqI zp (zcR g.1) (ix zC r.1 i)) r.2.2.2.1 0
theorem zET {r:za} (hb:zL r = true):zhm r.1 = true ∧ ∀ g ∈ r.2.2.2.1,vh g.1 = true:=by
 simp only [zL,zlg,Bool.and_eq_true] at hb
 exact ⟨hb.1,znI _ _ hb.2.2.2.1.2.1⟩
theorem zuE {l:List zN} {g:zN × Unit→Option (Bool × Unit)} {p:zN→Bool} (hl:l.length ≤ Go.maxLen) (hp:∀ x ∈ l,g (x,()) = some (p x,())):zaC (l,some g,()) = some (qB p l 0,()):=qw (τ:=jc) (B:=zcC) (fun _ _ _ _ _=>rfl) hl hp
theorem zJn {r:za} {i:Int} (h:qp r i = true):0 ≤ i ∧ i < (r.1.length:Int):=by
 simp only [qp,decide_eq_true_eq] at h; exact h
theorem zEU {r:za} {i:Int} (h:qC r i = true):0 ≤ i ∧ i < (r.2.2.1.length:Int):=by
 simp only [qC,decide_eq_true_eq] at h; exact h
theorem zyT {r:za} (hr:zU r) (hb:zL r = true) {i:Int} (hi:qp r i = true):zeJ (r,i,()) = some (z4 r i,()):=by
 have hg:=(qt hb).guilds
 simp only [zeJ]
 refine (bnd (ziz hr i)).trans ?_
 rw [hb,hi]
 refine (cT rfl).trans ?_
 have e:zaC (r.2.2.2.1,some fun z=>zap (z.1,some r,some i,()),()) = some (z4 r i,()):=zuE (p:=fun g:zN=>eqI zp (zcR g.1) (ix zC r.1 i)) (by unfold Go.maxLen; omega) fun g hgm=>by
  show zap (g,some r,some i,()) = some (eqI zp (zcR g.1) (ix zC r.1 i),())
  simp only [zap]
  refine (bnd (zmo g.1)).trans ?_
  rw [(zET hb).2 g hgm]
  refine (bnd (a:=r) rfl).trans ?_
  refine (bnd (a:=i) rfl).trans ?_
  refine (ixR (zJn hi)).trans ?_
  show cond (eqI zp (zcR g.1) (ix zC r.1 i)) _ _ = _
  cases eqI zp (zcR g.1) (ix zC r.1 i) <;> rfl
 exact bnd e
theorem zwG {r:za} {i:Int} (h:¬ z4 r i < 0):0 ≤ z4 r i ∧ z4 r i < (r.2.2.2.1.length:Int):=by
 have:=zt5 (p:=fun g:zN=>eqI zp (zcR g.1) (ix zC r.1 i)) r.2.2.2.1 0 (Int.le_refl 0)
 unfold z4 at h ⊢
 omega
def zjD (k now:Int) (f:Bool):Int × Int × Unit :=
 bif k == 1 then bif now != 0 then (0,4,()) else (1,0,()) else bif k == 2 then bif now == 0 then (0,3,()) else bif now == 2 then (0,4,()) else (2,0,()) else bif now == 0 then (0,3,()) else bif f then (0,5,()) else (0,0,())
def zos (l:List (List Int)) (g who n:Int):List (List Int):=List.set l g.toNat (List.set (l.getD g.toNat []) who.toNat n)
def zpL (r:za) (l:List (List Int)) (k g who:Int):Int × Int × Unit:=zjD k (vI l g.toNat who) (((ix zJ r.2.2.2.1 g).2.1:Int) == who)
def zEV (l:List (List Int)) (g who:Int) (v:Int × Int × Unit):List (List Int) × Int × Unit:=bif v.2.1 != 0 then ([],v.2.1,()) else (zos l g who v.1,0,())
def zqP (r:za) (l:List (List Int)) (k place by' who:Int):List (List Int) × Int × Unit :=
 bif vi r l && (qp r place && (qC r by' && qC r who)) then
  bif decide (z4 r place < 0) then ([],17,()) else
  bif zg4 r l by' place && vI l (z4 r place).toNat by' == 2 then zEV l (z4 r place) who (zpL r l k (z4 r place) who) else ([],5,())
 else ([],1,())
theorem zJo {α:Type} {l:List α} {j:Nat} (d:α) (h:j < l.length):l.take j ++ [l.getD j d] = l.take (j + 1):=by
 rw [List.take_add_one,List.getD_eq_getElem?_getD,List.getElem?_eq_getElem h]; rfl
theorem zKw {l:List (List Int)} (h8:l.length ≤ 8) (hrows:∀ x ∈ l,x.length ≤ 8) {g who n:Int} (hg:0 ≤ g ∧ g < (l.length:Int)) (hw:0 ≤ who ∧ who < ((l.getD g.toNat []).length:Int)):zin K0 (who,g,n,l,(l.length:Int),0,[],0) = some (zos l g who n,0,()):=by
 have:=jU (B:=zff) (α:=List (List Int)) (len:=l.length) (by unfold Go.maxLen; omega) (fun i o=>(who,g,n,l,(l.length:Int),i,o,o.length)) (fun _ _=>some (zos l g who n,0,())) (fun i o=>o = l.take i) (fun k i o hi hI hk=>by
  have hx:=hrows _ (qa (d:=([]:List Int)) hi)
  have hl:o.length = i:=by rw [hI,List.length_take]; omega
  have hk':=hk _ ((congrArg (· ++ [l.getD i []]) hI).trans (zJo [] hi))
  simp only [zff]
  rw [ltT hi]
  refine (cT rfl).trans ?_
  refine (zD hi).trans ?_
  rw [Int.toNat_natCast]
  refine (bnd (zFQ (zpI (by omega)))).trans ?_
  refine (cT (zbj (by simp; omega))).trans ?_
  refine (cT (by simp)).trans ?_
  rw [List.length_append] at hk'
  exact hk') (fun k o hI=>by
  have e:o = l:=hI.trans (List.take_length)
  simp only [zff]
  rw [ltF,e]
  refine (cF rfl).trans ?_
  refine (ixR hg).trans ?_
  refine (geF hg).trans ?_
  exact ixR hw) [] rfl
 exact this
theorem zLV {r:za} (hb:zL r = true) {l:List (List Int)} (h:vi r l = true):l.length ≤ 8 ∧ ∀ x ∈ l,x.length ≤ 8:=by
 obtain ⟨h1,h2⟩:=zd4 h
 have ok:=qt hb
 have hg:=ok.guilds
 have ha:=ok.accounts
 refine ⟨by omega,fun x hx=>?_⟩
 obtain ⟨i,hi,rfl⟩:=List.mem_iff_getElem.1 hx
 have:=h2 i (by omega)
 rw [List.getD_eq_getElem?_getD,List.getElem?_eq_getElem hi] at this
 have e:(l[i]).length = r.2.2.1.length:=this
 omega
theorem zwH {r:za} {l:List (List Int)} (h:vi r l = true) {g:Int} (hg:0 ≤ g ∧ g < (r.2.2.2.1.length:Int)) {w:Int} (hw:qC r w = true):0 ≤ w ∧ w < ((l.getD g.toNat []).length:Int):=by
 have:=(zd4 h).2 g.toNat (by omega)
 rw [this]; exact zEU hw
theorem zqQ {r:za} (hr:zU r) (hb:zL r = true) (l:List (List Int)) {f:Int × Bool × Unit→Option (Int × Int × Unit)} {k:Int} (hf:∀ now b,f (now,b,()) = some (zjD k now b)) (place by' who:Int):zfG (r,l,place,by',who,some f,()) = some (zqP r l k place by' who):=by
 simp only [zfG,zk6]
 refine (bnd (zmr hr l)).trans ?_
 rw [hb]
 unfold zqP
 cases hh:vi r l with
 | false=>rfl
 | true =>
  refine (cT rfl).trans ?_
  refine (bnd (znQ place _)).trans ?_
  show cond (qp r place) _ _ = _
  cases hp:qp r place with
  | false=>rfl
  | true =>
   refine (cT rfl).trans ?_
   refine (bnd (znQ by' _)).trans ?_
   show cond (qC r by') _ _ = _
   cases hy:qC r by' with
   | false=>rfl
   | true =>
    refine (cT rfl).trans ?_
    refine (bnd (znQ who _)).trans ?_
    show cond (qC r who) _ _ = _
    cases hw:qC r who with
    | false=>rfl
    | true =>
     refine (cT rfl).trans ?_
     refine (bnd (zyT hr hb hp)).trans ?_
     show _ = some (bif decide (z4 r place < 0) then ([],17,()) else bif zg4 r l by' place && vI l (z4 r place).toNat by' == 2 then zEV l (z4 r place) who (zpL r l k (z4 r place) who) else ([],5,()))
     by_cases hn:z4 r place < 0
     ·refine (cT (decide_eq_true hn)).trans ?_
      rw [decide_eq_true hn]; rfl
     ·refine (cF (decide_eq_false hn)).trans ?_
      rw [decide_eq_false hn]
      have hg:=zwG hn
      have hgl:0 ≤ z4 r place ∧ z4 r place < (l.length:Int):=by rw [(zd4 hh).1]; exact hg
      refine (bnd (zAi hr hb hh by' place)).trans ?_
      rw [hy,hp]
      show cond (zg4 r l by' place) _ _ = _
      cases zg4 r l by' place with
      | false=>rfl
      | true =>
       refine (cT rfl).trans ?_
       refine (ixR hgl).trans ?_
       refine (ixR (zwH hh hg hy)).trans ?_
       show cond (!(vI l (z4 r place).toNat by' == 2)) _ _ = _
       cases vI l (z4 r place).toNat by' == 2 with
       | false=>rfl
       | true =>
        refine (cF rfl).trans ?_
        refine (ixR hgl).trans ?_
        refine (ixR (zwH hh hg hw)).trans ?_
        refine (ixR hg).trans ?_
        obtain ⟨h8,hrw⟩:=zLV hb hh
        have lp:=fun n=>zKw (n:=n) h8 hrw hgl (zwH hh hg hw)
        show _ = some (zEV l (z4 r place) who (zpL r l k (z4 r place) who))
        unfold zEV zpL
        have e:∀ b:Bool,(Option.bind (some f) fun q6=>Option.bind (q6 (vI l (z4 r place).toNat who,b,())) fun q7=>bif q7.2.1 != 0 then some ([],q7.2.1,()) else zin K0 (who,z4 r place,q7.1,l,(l.length:Int),0,[],0)) = some (bif (zjD k (vI l (z4 r place).toNat who) b).2.1 != 0 then ([],(zjD k (vI l (z4 r place).toNat who) b).2.1,()) else (zos l (z4 r place) who (zjD k (vI l (z4 r place).toNat who) b).1,0,())):=fun b=>by
         refine (bnd (a:=f) rfl).trans ?_
         refine (bnd (hf _ b)).trans ?_
         generalize zjD k (vI l (z4 r place).toNat who) b = v
         cases v.2.1 != 0 with
         | true=>rfl
         | false=>exact (cF rfl).trans (lp v.1)
        cases hfo:((ix zJ r.2.2.2.1 (z4 r place)).2.1:Int) == who with
        | true=>exact (cT rfl).trans (e true)
        | false=>exact (cF rfl).trans (e false)
theorem zB8 {r:za} (hr:zU r) (hb:zL r = true) (l:List (List Int)) (place by' who:Int):zgI (r,l,place,by',who,()) = some (zqP r l 1 place by' who):=by
 simp only [zgI]
 exact bnd (zqQ (k:=1) hr hb l (fun now b=>by
  show (bif now != 0 then some (0,4,()) else some (1,0,())) = some (bif now != 0 then (0,4,()) else (1,0,()))
  cases now != 0 <;> rfl) place by' who)
theorem zEW {r:za} (hr:zU r) (hb:zL r = true) (l:List (List Int)) (place by' who:Int):zio (r,l,place,by',who,()) = some (zqP r l 2 place by' who):=by
 simp only [zio]
 exact bnd (zqQ (k:=2) hr hb l (fun now b=>by
  show (bif now == 0 then some (0,3,()) else bif now == 2 then some (0,4,()) else some (2,0,())) = some (bif now == 0 then (0,3,()) else bif now == 2 then (0,4,()) else (2,0,()))
  cases now == 0 <;> cases now == 2 <;> rfl) place by' who)
theorem zEX {r:za} (hr:zU r) (hb:zL r = true) (l:List (List Int)) (place by' who:Int):ziq (r,l,place,by',who,()) = some (zqP r l 3 place by' who):=by
 simp only [ziq]
 exact bnd (zqQ (k:=3) hr hb l (fun now b=>by
  show (bif now == 0 then some (0,3,()) else bif b then some (0,5,()) else some (0,0,())) = some (bif now == 0 then (0,3,()) else bif b then (0,5,()) else (0,0,()))
  cases now == 0 <;> cases b <;> rfl) place by' who)
theorem zKx {l:List (List Int)} {g who n:Int} (hg:0 ≤ g) (i:Nat) (hi:i < l.length):(zos l g who n).getD i [] = if g = (i:Int) then List.set (l.getD i []) who.toNat n else l.getD i []:=by
 unfold zos
 by_cases e:g = (i:Int)
 ·rw [if_pos e,e,Int.toNat_natCast,zvh hi]
 ·rw [if_neg e,getD_set_ne (by omega)]
end Go.Proofs.YtkcakhbkoeimdaaGreatDoor
end
section
namespace Go.Proofs.YtkcakhbkoeimdaaGreatDoor
open Go.Ev
theorem ztD:zQ () = some (true,()):=by
 simp only [zQ,yM,zaL,zdq,zKj]
 kernel_rfl
end Go.Proofs.YtkcakhbkoeimdaaGreatDoor
end
section
namespace Go.Proofs.YtkcakhbkoeimdaaGreatDoor
open Go.Ev
def znR (p:Nat→Bool) (n:Nat):List Int:=((List.range n).filter p).map Int.ofNat
theorem zEY (p:Nat→Bool) (n:Nat):(znR p n).length ≤ n:=by
 unfold znR
 rw [List.length_map]
 exact Nat.le_trans (List.length_filter_le _ _) (by rw [List.length_range]; exact Nat.le_refl n)
theorem zAS {σ:Type} {B:(σ→Option (List Int × Unit))→σ→Option (List Int × Unit)} {n:Nat} (hn:n ≤ 1000) {p:Nat→Bool} (st:Int→List Int→σ)
 (hin:∀ k (i:Nat) o,i < n→o.length ≤ i→B k (st i o) = bif p i then k (st (wI (i + 1)) (o ++ [(i:Int)])) else k (st (wI (i + 1)) o)) (hout:∀ k o,B k (st n o) = some (o,())):zl B K0 (st 0 []) = some (znR p n,()):=by
 have:=jU (B:=B) (α:=List Int) (len:=n) (by unfold Go.maxLen; omega) st (fun i o=>some (o ++ ((List.range' i (n - i)).filter p).map Int.ofNat,())) (fun i o=>o.length ≤ i) (fun k i o hi hI hk=>by
  rw [hin k i o hi hI,show n - i = (n - (i + 1)) + 1 by omega,List.range'_succ,List.filter_cons]
  cases hp:p i with
  | true =>
   refine (cT rfl).trans ((hk _ (by simp; omega)).trans ?_)
   rw [List.append_assoc]; rfl
  | false=>exact (cF rfl).trans (hk _ (by omega))) (fun k o _=>by rw [hout,Nat.sub_self]; simp) [] (Nat.le_refl 0)
 refine this.trans ?_
 unfold znR
 rw [List.nil_append,Nat.sub_zero,List.range_eq_range']
abbrev zgs (s:zd) (i:Nat):Int:=s.2.2.2.2.2.1.getD i 0
def zyU (r:za) (s:zd) (me:pMe) (also:Nat→Bool) (i:Nat):Bool:=!((i:Int) == me.1) && (!decide (zgs s i < 0) && (zf4 r me.2.1 (zar r i) && also i))
def zCn (r:za) (s:zd) (me:pMe) (i:Nat):Bool:=eqI zR (zAb s (zar r i) (zgs s i)) (zLR s me)
def zyV (r:za) (s:zd) (me:pMe) (also:Nat→Bool):List Int:=znR (zyU r s me also) r.2.1.length
theorem Ctx.placeAt {r:za} {s:zd} {me:pMe} (x:Ctx r s me) {p w:Int} (hp:qp r p = true) (hw:qC r w = true):0 ≤ w ∧ w < ((ix zg s.2.1 p).2.2.2.2.2.2.1.length:Int):=by
 obtain ⟨hb,hz,-⟩:=qb x.rs
 have h:=(yf hb hz).shelf _ (zka (x.at_ hp))
 rw [h.2.2.2.2.2.2]; exact zEU hw
theorem Ctx.seats {r:za} {s:zd} {me:pMe} (x:Ctx r s me):s.2.2.2.2.2.1.length = r.2.1.length ∧ r.2.1.length ≤ 8:=by
 obtain ⟨hb,hz,-⟩:=qb x.rs
 exact ⟨(yf hb hz).people,(qt hb).lines.2⟩
theorem Ctx.sits {r:za} {s:zd} {me:pMe} (x:Ctx r s me) {i:Nat} (hi:i < r.2.1.length) (h:¬ zgs s i < 0):qC r (zgs s i) = true:=by
 rcases zLd x.rs (i:=i) (by rw [x.seats.1]; exact hi) with e | e
 ·have e':zgs s i = -1:=e
  omega
 ·exact e
theorem zGC {r:za} (hb:zL r = true) {i:Nat} (hi:i < r.2.1.length):qp r (zar r i) = true:=zLe hb hi
theorem zvj {r:za} {s:zd} {me:pMe} (hr:zU r) (x:Ctx r s me) {f:pMe × Unit→Option (Bool × Unit)} {also:Nat→Bool} (hf:∀ (i:Nat) (u:Unit),i < r.2.1.length→¬ zgs s i < 0→f (((i:Int),zar r i,zgs s i,u),()) = some (also i,())):zjB (r,s,me,some f,()) = some (zyV r s me also,()):=by
 have hb:=(qb x.rs).1
 obtain ⟨hs,h8⟩:=x.seats
 have := zAS (B:=zei) (n:=s.2.2.2.2.2.1.length) (by omega) (p:=zyU r s me also) (fun i o=>(some f,s.2.2.2.2.2.1,(s.2.2.2.2.2.1.length:Int),i,r,me,o)) (fun k i o hi hI=>by
  simp only [zei]
  rw [ltT hi,zai,qj,qj]
  refine (cT rfl).trans ?_
  refine (zD hi).trans ?_
  refine (zD (by omega)).trans ?_
  unfold zyU
  show cond ((i:Int) == me.1) _ _ = _
  cases (i:Int) == me.1 with
  | true=>rfl
  | false =>
   refine (cF rfl).trans ?_
   show cond (decide (zgs s i < 0)) _ _ = _
   by_cases h0:zgs s i < 0
   ·rw [decide_eq_true h0]; rfl
   ·rw [decide_eq_false h0]
    refine (cF rfl).trans ?_
    refine (bnd (zvg hr hb _ _)).trans ?_
    show cond (zf4 r me.2.1 (zar r i)) _ _ = _
    cases zf4 r me.2.1 (zar r i) with
    | false=>rfl
    | true =>
     refine (cT rfl).trans ?_
     refine (bnd (a:=f) rfl).trans ?_
     refine (bnd (hf i _ (by omega) h0)).trans ?_
     show cond (also i) _ _ = _
     cases also i with
     | false=>rfl
     | true =>
      refine (cT rfl).trans ?_
      exact cT (zbj (by simp; omega))) (fun k o=>by
  simp only [zei]
  rw [ltF]; rfl)
 rw [hs] at this
 refine Eq.trans ?_ this
 show zkt K0 (some f,s.2.2.2.2.2.1,(s.2.2.2.2.2.1.length:Int),0,r,me,[]) = _
 rw [hs]
def zmA (r:za) (s:zd) (me:pMe) (t:ByteArray):List Int × Int × Unit:=bif zY r s && vk r me then bif zab t then (zyV r s me (zCn r s me),0,()) else ([],2,()) else ([],1,())
theorem zH2 {r:za} {s:zd} {me:pMe} (hr:zU r) (hs:qY s) (t:ByteArray):zcn (r,s,me,t,()) = some (zmA r s me t):=by
 simp only [zcn]
 refine (bnd (zdt hr hs me)).trans ?_
 unfold zmA
 cases h:zY r s && vk r me with
 | false=>rfl
 | true =>
  simp only [Bool.and_eq_true] at h
  have x:Ctx r s me:=⟨h.1,h.2⟩
  have hb:=(qb x.rs).1
  refine (cT rfl).trans ?_
  refine (bnd (zjC t)).trans ?_
  cases zab t with
  | false=>rfl
  | true =>
   refine (cT rfl).trans ?_
   have at1:∀ y:pMe,qp r y.2.1 = true→qC r y.2.2.1 = true→vc (y,some s,()) = some (zAb s y.2.1 y.2.2.1,()):=fun y h1 h2=>by
    simp only [vc]
    refine (bnd (a:=s) rfl).trans ?_
    refine (ixR (x.at_ h1)).trans ?_
    exact ixR (x.placeAt h1 h2)
   exact bnd (zvj hr x (f:=fun z=>ze3 (z.1,some (some fun z_1:pMe × Unit=>vc (z_1.1,some s,())),some me,())) (also:=zCn r s me) fun i u hi h0=>by
    show ze3 (((i:Int),zar r i,zgs s i,u),some (some fun z_1:pMe × Unit=>vc (z_1.1,some s,())),some me,()) = _
    simp only [ze3]
    refine (bnd (a:=some fun z_1:pMe × Unit=>vc (z_1.1,some s,())) rfl).trans ?_
    refine (bnd (a:=fun z_1:pMe × Unit=>vc (z_1.1,some s,())) rfl).trans ?_
    refine (bnd (at1 _ (zGC hb hi) (x.sits hi h0))).trans ?_
    refine (bnd (a:=some fun z_1:pMe × Unit=>vc (z_1.1,some s,())) rfl).trans ?_
    refine (bnd (a:=me) rfl).trans ?_
    refine (bnd (a:=fun z_1:pMe × Unit=>vc (z_1.1,some s,())) rfl).trans ?_
    refine (bnd (at1 me x.lab x.who)).trans ?_
    show cond (zCn r s me i) _ _ = _
    cases zCn r s me i <;> rfl)
def isG (r:za) (g:Int):Bool:=decide (0 ≤ g ∧ g < (r.2.2.2.1.length:Int))
def zqR (r:za) (i g:Int):Bool:=zcF (r.1.getD i.toNat zC).2.1 (r.2.2.2.1.getD g.toNat zJ).1.toNat
theorem zH3 {r:za} {i g:Int} (hg:isG r g = true):((yG r i).any fun y=>g == y) = zqR r i g:=by
 simp only [isG,decide_eq_true_eq] at hg
 obtain ⟨n,rfl⟩:=Int.eq_ofNat_of_zero_le hg.1
 rw [Bool.eq_iff_iff,List.any_eq_true]
 unfold yG zqR
 rw [Int.toNat_natCast]
 constructor
 ·rintro ⟨y,hy,e⟩
  obtain ⟨m,hm,hm2⟩:=List.mem_filterMap.1 hy
  cases hh:zcF (r.1.getD i.toNat zC).2.1 (r.2.2.2.1.getD m zJ).1.toNat with
  | false=>rw [hh] at hm2; cases hm2
  | true =>
   rw [hh] at hm2
   cases hm2
   have:=Int.ofNat.inj (eq_of_beq e)
   subst this
   exact hh
 ·intro h
  exact ⟨(n:Int),List.mem_filterMap.2 ⟨n,by simp; omega,by rw [h]; rfl⟩,by simp⟩
theorem zJp (r:za) (g:Int):zc8 (r,g,()) = some (isG r g,()):=by
 simp only [zc8,isG]
 grind
theorem zEZ {r:za} (hr:zU r) (hb:zL r = true) {i g:Int} (hi:qp r i = true) (hg:isG r g = true):(Option.bind (yF (r,i,())) fun q2=>jm (q2.1,g,())) = some (zqR r i g,()):=by
 refine (bnd (zpK hr i hi)).trans ?_
 rw [hb]
 have hlen:(yG r i).length ≤ Go.maxLen:=by
  have:=List.length_filterMap_le (fun g=>bif zcF (r.1.getD i.toNat zC).2.1 (r.2.2.2.1.getD g zJ).1.toNat then some (g:Int) else none) (List.range r.2.2.2.1.length)
  rw [List.length_range] at this
  have h8:=(qt hb).guilds
  unfold yG Go.maxLen
  omega
 refine (zjk (l:=yG r i) (a:=g) hlen).trans ?_
 rw [zH3 hg]
def zfk (r:za) (s:zd) (me:pMe) (g:Int) (t:ByteArray):List Int × Int × Unit:=bif zY r s && vk r me then bif isG r g then bif zqR r me.2.1 g then bif zab t then (zyV r s me (fun _=>true),0,()) else ([],2,()) else ([],5,()) else ([],1,()) else ([],1,())
theorem zLg {α β γ:Type} (x:Option α) (f:α→Option β) (g:β→Option γ) {v:β} (h:Option.bind x f = some v):(Option.bind x fun q=>Option.bind (f q) g) = g v:=by
 cases x with
 | none=>cases h
 | some a=>exact bnd (show f a = some v from h)
theorem zE0 {r:za} {s:zd} {me:pMe} (hr:zU r) (hs:qY s) (g:Int) (t:ByteArray):yX (r,s,me,g,t,()) = some (zfk r s me g t):=by
 simp only [yX]
 refine (bnd (zdt hr hs me)).trans ?_
 unfold zfk
 cases h:zY r s && vk r me with
 | false=>rfl
 | true =>
  simp only [Bool.and_eq_true] at h
  have x:Ctx r s me:=⟨h.1,h.2⟩
  have hb:=(qb x.rs).1
  refine (cT rfl).trans ?_
  refine (bnd (zJp r g)).trans ?_
  cases hg:isG r g with
  | false=>rfl
  | true =>
   refine (cT rfl).trans ?_
   refine (zLg (yF (r,me.2.1,())) (fun q2=>jm (q2.1,g,())) _ (zEZ hr hb x.lab hg)).trans ?_
   show cond (zqR r me.2.1 g) _ _ = _
   cases zqR r me.2.1 g with
   | false=>rfl
   | true =>
    refine (cT rfl).trans ?_
    refine (bnd (zjC t)).trans ?_
    cases zab t with
    | false=>rfl
    | true =>
     refine (cT rfl).trans ?_
     exact bnd (zvj hr x (f:=zi5) (also:=fun _=>true) fun i u hi h0=>rfl)
theorem zH4 {a b L:zr} (h:eqI zp a b = true):jg a L = jg b L:=by
 rw [zKv] at h
 unfold jg
 rw [h.1,h.2]
theorem zE1 {r:za} {s:zd} (h:zY r s = true):vi r s.2.2.1 = true:=by
 have hp:=(qb h).2.2
 simp only [zbH,Bool.and_eq_true] at hp; exact hp.1
def zyW (s:zd) (v:List (List Int) × Int × Unit):zd × Int × Unit:=bif v.2.1 != 0 then (zjj,v.2.1,()) else (u2 s v.1,0,())
def zpM (r:za) (s:zd) (me:pMe) (what who:Int):zd × Int × Unit:=bif zY r s && vk r me then bif decide (28 ≤ what ∧ what ≤ 30) then zyW s (zqP r s.2.2.1 (what - 27) me.2.1 me.2.2.1 who) else (zjj,1,()) else (zjj,1,())
theorem zE2 {r:za} {s:zd} {me:pMe} (hr:zU r) (hs:qY s) (what who:Int):zdq (r,s,me,what,who,()) = some (zpM r s me what who):=by
 simp only [zdq]
 refine (bnd (zdt hr hs me)).trans ?_
 unfold zpM
 cases h:zY r s && vk r me with
 | false=>rfl
 | true =>
  simp only [Bool.and_eq_true] at h
  have x:Ctx r s me:=⟨h.1,h.2⟩
  have hb:=(qb x.rs).1
  have hc:=zej (zpJ x.rs)
  have fin:∀ v:List (List Int) × Int × Unit,(bif v.2.1 != 0 then some ((0,[],[],[],[],[],()),v.2.1,()) else Option.bind (qQ (s,())) fun q2=>some ((q2.1.1,q2.1.2.1,v.1,q2.1.2.2.2.1,q2.1.2.2.2.2.1,q2.1.2.2.2.2.2.1,()),0,())) = some (zyW s v):=fun v=>by
   unfold zyW
   cases v.2.1 != 0 with
   | true=>rfl
   | false=>exact (cF rfl).trans (bnd hc)
  refine (cT rfl).trans ?_
  by_cases h1:what = 28
  ·subst h1
   refine (cT rfl).trans ?_
   refine (bnd (zB8 hr hb s.2.2.1 me.2.1 me.2.2.1 who)).trans ?_
   exact fin _
  ·refine (cF (beq_eq_false_iff_ne.2 h1)).trans ?_
   by_cases h2:what = 29
   ·subst h2
    refine (cT rfl).trans ?_
    refine (bnd (zEW hr hb s.2.2.1 me.2.1 me.2.2.1 who)).trans ?_
    exact fin _
   ·refine (cF (beq_eq_false_iff_ne.2 h2)).trans ?_
    by_cases h3:what = 30
    ·subst h3
     refine (cT rfl).trans ?_
     refine (bnd (zEX hr hb s.2.2.1 me.2.1 me.2.2.1 who)).trans ?_
     exact fin _
    ·refine (cF (beq_eq_false_iff_ne.2 h3)).trans ?_
     rw [decide_eq_false (p:=28 ≤ what ∧ what ≤ 30) (by omega)]; rfl
end Go.Proofs.YtkcakhbkoeimdaaGreatDoor
end
section
namespace Go.Proofs.YtkcakhbkoeimdaaGreatDoor
open Go.Ev
theorem zAT (r:za) (s:zd) (me:pMe) (also:Nat→Bool):(zyV r s me also).length ≤ r.2.1.length:=zEY _ _
theorem zLh {r:za} (s:zd) (me:pMe) (t:ByteArray):(zmA r s me t).1.length ≤ 8:=by
 unfold zmA
 cases h:zY r s && vk r me with
 | false=>exact Nat.zero_le _
 | true =>
  simp only [Bool.and_eq_true] at h
  have x:Ctx r s me:=⟨h.1,h.2⟩
  cases zab t with
  | false=>exact Nat.zero_le _
  | true=>exact Nat.le_trans (zAT r s me _) x.seats.2
theorem zJq {r:za} (s:zd) (me:pMe) (g:Int) (t:ByteArray):(zfk r s me g t).1.length ≤ 8:=by
 unfold zfk
 cases h:zY r s && vk r me with
 | false=>exact Nat.zero_le _
 | true =>
  simp only [Bool.and_eq_true] at h
  have x:Ctx r s me:=⟨h.1,h.2⟩
  cases isG r g with
  | false=>exact Nat.zero_le _
  | true =>
   cases zqR r me.2.1 g with
   | false=>exact Nat.zero_le _
   | true =>
    cases zab t with
    | false=>exact Nat.zero_le _
    | true=>exact Nat.le_trans (zAT r s me _) x.seats.2
end Go.Proofs.YtkcakhbkoeimdaaGreatDoor
end
section
namespace Go.Proofs.YtkcakhbkoeimdaaGreatDoor
open Go.Ev
structure zH5 (r:za) (s:zd) (i:Int) (x y:zi):Prop where
 rooms:y.1 = x.1
 size:∀ q,zfi r y q = zfi r x q
 slots:jy y = true
 sh:zix r s i y = true
 held:∀ c,zaM c y = zaM c x
 made:y.2.2.2.2.2.2.2.1 = x.2.2.2.2.2.2.2.1
 spent:y.2.2.2.2.2.2.2.2.1 = x.2.2.2.2.2.2.2.2.1
section
variable {r:za} {s:zd} {i:Int} {y:zi}
theorem zAU (hi:0 ≤ i ∧ i < (s.2.1.length:Int)) (hy:y.1 = (ix zg s.2.1 i).1):zmu (upd s i y) = zmu s:=by
 have e:∀ k,((upd s i y).2.1.getD k zg).1 = (s.2.1.getD k zg).1:=fun k=>by
  rw [zqJ hi]
  split
  ·rename_i e; subst e; exact hy
  ·rfl
 funext x
 unfold zmu
 rw [e,zAc]
theorem ztE (hi:0 ≤ i ∧ i < (s.2.1.length:Int)) (hy:y.1 = (ix zg s.2.1 i).1):zgr r (upd s i y) = zgr r s:=by
 funext j x
 unfold zgr
 rw [zAU hi hy]
theorem zH6 (hi:0 ≤ i ∧ i < (s.2.1.length:Int)) (hy:y.1 = (ix zg s.2.1 i).1):zix r (upd s i y) = zix r s:=by
 funext j x
 have e1:zfj r (upd s i y) = zfj r s:=by funext a b; unfold zfj; rw [ztE hi hy]
 have e2:zdx r (upd s i y) = zdx r s:=by funext a b; unfold zdx; rw [ztE hi hy]
 unfold zix zpF
 rw [e1,e2,ztE hi hy]
theorem zAj (hi:0 ≤ i ∧ i < (s.2.1.length:Int)) (f:zi→Int) (hf:f y = f (ix zg s.2.1 i)):qx ((upd s i y).2.1.map f) = qx (s.2.1.map f):=by
 have:=zEJ f zg s.2.1 i.toNat y (by omega)
 refine this.trans ?_
 rw [hf]
 exact Int.sub_add_cancel _ _
theorem zKy (hi:0 ≤ i ∧ i < (s.2.1.length:Int)) (k:zH5 r s (i.toNat:Int) (ix zg s.2.1 i) y) (c:Int):ziy (upd s i y) c = ziy s c:=by
 have e1:znM (upd s i y) c = znM s c:=by
  unfold znM
  rw [zAj hi (zaM c) (k.held c)]
 have e3:znN (upd s i y) c = znN s c:=by
  unfold znN zqI
  rw [zAj hi (fun x=>znL c x.2.2.2.2.2.2.2.1) (by rw [k.made]),zAj hi (fun x=>znL c x.2.2.2.2.2.2.2.2.1) (by rw [k.spent])]
 unfold ziy
 rw [e1,e3]
theorem zJr (h:zY r s = true) (hi:0 ≤ i ∧ i < (s.2.1.length:Int)) (k:zH5 r s (i.toNat:Int) (ix zg s.2.1 i) y):zY r (upd s i y) = true:=by
 unfold zY at h ⊢
 simp only [Bool.and_eq_true,qL] at h ⊢
 obtain ⟨h1,h2,h3,h4,h5⟩:=h
 refine ⟨h1,?_,?_,fun j hj hj2=>?_,fun c hc hc2=>?_⟩
 ·unfold ziv at h2 ⊢
  simp only [Bool.and_eq_true,decide_eq_true_eq,qL] at h2 ⊢
  rw [zAc]
  refine ⟨h2.1,h2.2.1,fun j hj1 hj2=>?_⟩
  have:=h2.2.2 j hj1 hj2
  rw [zqJ hi]
  split
  ·rename_i e; subst e
   rw [k.size]; exact this
  ·exact this
 ·unfold zbH at h3 ⊢
  have e1:zjf r (upd s i y) = zjf r s:=rfl
  have e2:zjg r (upd s i y) = zjg r s:=rfl
  rw [zAU hi k.rooms,e1,e2]
  exact h3
 ·rw [zAc] at hj2
  obtain ⟨⟨g1,g2⟩,g3⟩:=h4 j hj hj2
  rw [zH6 hi k.rooms]
  refine ⟨?_,fun c hc hc2=>?_⟩
  ·rw [zqJ hi]
   split
   ·rename_i e; subst e
    exact ⟨k.slots,k.sh⟩
   ·exact ⟨g1,g2⟩
  ·have:=g3 c hc hc2
   unfold znO at this ⊢
   rw [zqJ hi]
   split
   ·rename_i e; subst e
    rw [k.made]; exact this
   ·exact this
 ·rw [zKy hi k]
  exact h5 c hc hc2
end
theorem zvk {r:za} {s:zd} (h:zY r s = true) {i:Int} (hi:0 ≤ i ∧ i < (s.2.1.length:Int)):jy (ix zg s.2.1 i) = true ∧ zix r s (i.toNat:Int) (ix zg s.2.1 i) = true:=by
 simp only [zY,Bool.and_eq_true,qL] at h
 exact (h.2.2.2.1 i.toNat (Nat.zero_le _) (by omega)).1
theorem zKz {r:za} {s:zd} (h:zY r s = true) {i:Int} (hi:0 ≤ i ∧ i < (s.2.1.length:Int)) {l:List zw} (hl:l.length = (jW s i).length) (h1:l.all zco = true) (h2:l.all (zjh r (i.toNat:Int)) = true):zH5 r s (i.toNat:Int) (ix zg s.2.1 i) (u3 (ix zg s.2.1 i) l):=by
 obtain ⟨g1,g2⟩:=zvk h hi
 refine ⟨rfl,fun q=>?_,?_,?_,fun c=>rfl,rfl,rfl⟩
 ·unfold zfi
  have e:(u3 (ix zg s.2.1 i) l).2.2.2.1.length = (ix zg s.2.1 i).2.2.2.1.length:=hl
  rw [e]
 ·simp only [jy,Bool.and_eq_true] at g1 ⊢
  exact ⟨g1.1,g1.2.1,g1.2.2.1,h1,g1.2.2.2.2⟩
 ·simp only [zix,zdr,Bool.and_eq_true] at g2 ⊢
  exact ⟨g2.1,⟨g2.2.1.1,h2,g2.2.1.2.2⟩,g2.2.2⟩
theorem zJs {r:za} {s:zd} (h:zY r s = true) {i:Int} (hi:0 ≤ i ∧ i < (s.2.1.length:Int)):(jW s i).all zco = true ∧ (jW s i).all (zjh r (i.toNat:Int)) = true:=by
 obtain ⟨g1,g2⟩:=zvk h hi
 simp only [jy,zix,zdr,Bool.and_eq_true] at g1 g2
 exact ⟨g1.2.2.2.1,g2.2.1.2.1⟩
theorem zLW {s:zd} (hs:qY s) {i:Int} {h:zi} (hh:zll h):qY (upd s i h):=by
 refine ⟨fun x hx=>?_,hs.orders,hs.entries⟩
 rcases List.mem_or_eq_of_mem_set hx with hx | rfl
 ·exact hs.shelves x hx
 ·exact hh
theorem zyX {a b c:zr} (h1:jg a b = true) (h2:jg b c = true):jg a c = true:=by
 simp only [jg,Bool.and_eq_true,decide_eq_true_eq,List.all_eq_true,Bool.or_eq_true,Bool.not_eq_true'] at h1 h2 ⊢
 refine ⟨by omega,fun i hi=>?_⟩
 rcases h1.2 i hi with h | h
 ·exact .inl h
 ·rcases h2.2 i hi with h' | h'
  ·rw [h] at h'; cases h'
  ·exact .inr h'
theorem zKA {r:za} {s:zd} {a:zr} {i:Int} {h:zi} (hi:jg (r.1.getD i.toNat zC) a = false):zeM r a (upd s i h) = zeM r a s:=by
 have e:qq zg (fun i=>jg (r.1.getD i zC) a) (List.set s.2.1 i.toNat h) (zcG r).2.1 = qq zg (fun i=>jg (r.1.getD i zC) a) s.2.1 (zcG r).2.1:=zyP hi
 exact congrArg (fun l=>(s.1,l,qq [] (fun i=>jg (zgK (r.2.2.2.1.getD i zJ).1) a) s.2.2.1 (zcG r).2.2.1,s.2.2.2.1,s.2.2.2.2.1,qq 0 (fun i=>jg (r.1.getD (zar r i).toNat zC) a) s.2.2.2.2.2.1 (zcG r).2.2.2.2.2.1,())) e
theorem zH7 {r:za} {s:zd} {a:zr} {g:Nat} {x:List Int} (hg:jg (zgK (r.2.2.2.1.getD g zJ).1) a = false):zeM r a (u2 s (List.set s.2.2.1 g x)) = zeM r a s:=by
 have e:qq [] (fun i=>jg (zgK (r.2.2.2.1.getD i zJ).1) a) (List.set s.2.2.1 g x) (zcG r).2.2.1 = qq [] (fun i=>jg (zgK (r.2.2.2.1.getD i zJ).1) a) s.2.2.1 (zcG r).2.2.1:=zyP hg
 exact congrArg (fun l=>(s.1,qq zg (fun i=>jg (r.1.getD i zC) a) s.2.1 (zcG r).2.1,l,s.2.2.2.1,s.2.2.2.2.1,qq 0 (fun i=>jg (r.1.getD (zar r i).toNat zC) a) s.2.2.2.2.2.1 (zcG r).2.2.2.2.2.1,())) e
theorem zGa {r:za} {s:zd} (h:zY r s = true) {l:List (List Int)} (hl:vi r l = true):zY r (u2 s l) = true:=by
 simp only [zY,zbH,Bool.and_eq_true] at h ⊢
 exact ⟨h.1,h.2.1,⟨hl,h.2.2.1.2⟩,h.2.2.2⟩
theorem zLi {k now:Int} {f:Bool} (h:((zjD k now f).2.1 != 0) = false):(0 ≤ (zjD k now f).1 ∧ (zjD k now f).1 ≤ 2) ∧ (f = true→now ≠ 2):=by
 unfold zjD at h ⊢
 cases h1:k == 1 with
 | true =>
  rw [h1] at h
  simp only [cond_true] at h ⊢
  cases h0:now != 0 with
  | true=>rw [h0] at h; cases h
  | false =>
   simp only [cond_false]
   refine ⟨⟨by omega,by omega⟩,fun _ e=>?_⟩
   rw [e] at h0; cases h0
 | false =>
  rw [h1] at h
  simp only [cond_false] at h ⊢
  cases h2':k == 2 with
  | true =>
   rw [h2'] at h
   simp only [cond_true] at h ⊢
   cases h0:now == 0 with
   | true=>rw [h0] at h; cases h
   | false =>
    rw [h0] at h
    simp only [cond_false] at h ⊢
    cases h2:now == 2 with
    | true=>rw [h2] at h; cases h
    | false =>
     simp only [cond_false]
     exact ⟨⟨by omega,by omega⟩,fun _ e=>absurd e (beq_eq_false_iff_ne.1 h2)⟩
  | false =>
   rw [h2'] at h
   simp only [cond_false] at h ⊢
   cases h0:now == 0 with
   | true=>rw [h0] at h; cases h
   | false =>
    rw [h0] at h
    simp only [cond_false] at h ⊢
    cases f with
    | true=>cases h
    | false=>exact ⟨⟨by show (0:Int) ≤ 0; omega,by show (0:Int) ≤ 2; omega⟩,fun e=>by cases e⟩
theorem zJt {r:za} {l:List (List Int)} (h:vi r l = true) {g who n:Int} (hg:0 ≤ g ∧ g < (r.2.2.2.1.length:Int)) (hw:qC r who = true) (hn:0 ≤ n ∧ n ≤ 2) (hf:((ix zJ r.2.2.2.1 g).2.1:Int) ≠ who) (hfi:0 ≤ ((ix zJ r.2.2.2.1 g).2.1:Int)):vi r (zos l g who n) = true:=by
 have hl:=(zd4 h).1
 have hw':=zEU hw
 simp only [vi,Bool.and_eq_true,decide_eq_true_eq,qL] at h ⊢
 have el:(zos l g who n).length = l.length:=List.length_set ..
 rw [el]
 refine ⟨h.1,fun i h1 h2=>?_⟩
 have hi:=h.2 i h1 h2
 rw [zKx hg.1 i (by omega)]
 split
 ·rename_i e
  simp only [zpD,Bool.and_eq_true,decide_eq_true_eq] at hi ⊢
  refine ⟨by rw [List.length_set]; exact hi.1,zAd hi.2.1 (by unfold zz6; exact decide_eq_true hn),?_⟩
  have e2:ix zJ r.2.2.2.1 g = r.2.2.2.1.getD i zJ:=by rw [e,qj]
  rw [e2] at hf hfi
  rw [getD_set_ne (by omega)]
  exact hi.2.2
 ·exact hi
theorem zKB {r:za} {l:List (List Int)} (hb:zL r = true) (hh:vi r l = true) (k place by' who:Int):(∃ e:Int,(e != 0) = true ∧ zqP r l k place by' who = ([],e,())) ∨ (∃ n,¬ z4 r place < 0 ∧ qp r place = true ∧ zqP r l k place by' who = (zos l (z4 r place) who n,0,()) ∧ vi r (zos l (z4 r place) who n) = true):=by
 unfold zqP
 rw [hh,Bool.true_and]
 cases h3:qp r place && (qC r by' && qC r who) with
 | false=>exact .inl ⟨1,rfl,rfl⟩
 | true =>
  simp only [Bool.and_eq_true] at h3
  simp only [cond_true]
  by_cases hn:z4 r place < 0
  ·rw [decide_eq_true hn]; exact .inl ⟨17,rfl,rfl⟩
  ·rw [decide_eq_false hn]
   have hg:=zwG hn
   simp only [cond_false]
   cases zg4 r l by' place && vI l (z4 r place).toNat by' == 2 with
   | false=>exact .inl ⟨5,rfl,rfl⟩
   | true =>
    simp only [cond_true]
    unfold zEV
    cases hv:(zpL r l k (z4 r place) who).2.1 != 0 with
    | true=>exact .inl ⟨_,hv,rfl⟩
    | false =>
     have ok:=zLi hv
     have hfi:=(qt hb).heads (z4 r place).toNat (by omega)
     refine .inr ⟨(zpL r l k (z4 r place) who).1,hn,h3.1,rfl,zJt hh hg h3.2.2 ok.1 (fun e=>?_) hfi.1⟩
     have h2:vI l (z4 r place).toNat who = 2:=by
      have hl:=(zd4 hh).1
      have hh':=hh
      simp only [vi,Bool.and_eq_true,decide_eq_true_eq,qL] at hh'
      have h1:=hh'.2 (z4 r place).toNat (Nat.zero_le _) (by omega)
      simp only [zpD,Bool.and_eq_true,beq_iff_eq] at h1
      rw [← e]
      exact h1.2.2
     exact ok.2 (beq_iff_eq.2 e) h2
theorem zH8 {r:za} {i:Int} (hn:¬ z4 r i < 0):eqI zp (zcR (r.2.2.2.1.getD (z4 r i).toNat zJ).1) (r.1.getD i.toNat zC) = true:=by
 have:=zES (p:=fun g:zN=>eqI zp (zcR g.1) (ix zC r.1 i)) zJ r.2.2.2.1 0 (Int.le_refl 0) hn
 rw [Int.sub_zero] at this
 exact this
theorem zLX {r:za} (hb:zL r = true) {g:Nat} (hg:g < r.2.2.2.1.length):zgK (r.2.2.2.1.getD g zJ).1 = zcR (r.2.2.2.1.getD g zJ).1:=by
 unfold zgK
 rw [(zET hb).2 _ (qa hg)]; rfl
end Go.Proofs.YtkcakhbkoeimdaaGreatDoor
end
section
namespace Go.Proofs.YtkcakhbkoeimdaaGreatDoor
open Go.Ev
structure zLY (r:za) (s:zd) (me:pMe) (t:zd):Prop where
 right:zY r t = true
 inn:qY t
 view:∀ a,jg (r.1.getD me.2.1.toNat zC) a = false→zeM r a t = zeM r a s
def zH9 (r:za) (s:zd) (me:pMe) (v:zd × Int × Unit):Prop:=(∃ e:Int,(e != 0) = true ∧ v = (zjj,e,())) ∨ (v.2.1 = 0 ∧ zLY r s me v.1)
theorem zAV {r:za} {s:zd} {me:pMe} (x:Ctx r s me) (hs:qY s) {p:Int} (hp:qp r p = true) (hv:∀ a,jg (r.1.getD me.2.1.toNat zC) a = false→jg (r.1.getD p.toNat zC) a = false) {k:Nat} {m:zw} (h1:zco m = true) (h2:zjh r p m = true):zLY r s me (zKt s p (List.set (jW s p) k m)):=by
 have hi:=x.at_ hp
 have e:(p.toNat:Int) = p:=by omega
 obtain ⟨o1,o2⟩:=zJs x.rs hi
 have a:=hs.shelves _ (zka hi)
 exact ⟨zJr x.rs hi (zKz x.rs hi (List.length_set ..) (zAd o1 h1) (zAd o2 (by rw [e]; exact h2))),zLW hs ⟨a.trades,a.purses,a.made,a.spent⟩,fun l hl=>zKA (hv l hl)⟩
theorem zJu {r:za} {s:zd} {me:pMe} (x:Ctx r s me) (hs:qY s) (p who:Int) (text:ByteArray):zH9 r s me (zqN r s me p who text):=by
 have hb:=(qb x.rs).1
 unfold zqN
 rw [x.rs,x.im]
 simp only [Bool.and_true,cond_true]
 cases h4:qp r p && qC r who with
 | false=>exact .inl ⟨1,rfl,rfl⟩
 | true =>
  simp only [Bool.and_eq_true] at h4
  simp only [cond_true]
  cases hle:zf4 r me.2.1 p with
  | false=>exact .inl ⟨5,rfl,rfl⟩
  | true =>
   simp only [cond_true]
   have hle':jg (r.1.getD me.2.1.toNat zC) (r.1.getD p.toNat zC) = true:=by
    have:=hle
    simp only [zf4,Bool.and_eq_true] at this
    exact this.2.2
   cases ht:zab text with
   | false=>exact .inl ⟨2,rfl,rfl⟩
   | true =>
    simp only [cond_true]
    unfold zCl zmz
    cases decide (zd5 (jW s p) < 0) with
    | true =>
     simp only [cond_true]
     cases p == me.2.1 with
     | true=>exact .inl ⟨8,rfl,rfl⟩
     | false=>exact .inr ⟨rfl,x.rs,hs,fun _ _=>rfl⟩
    | false =>
     refine .inr ⟨rfl,zAV x hs h4.1 (fun a h=>?_) ?_ ?_⟩
     ·cases h':jg (r.1.getD p.toNat zC) a with
      | false=>rfl
      | true=>rw [zyX hle' h'] at h; cases h
     ·show ((qV me.2.1 && (qV me.2.2.1 && qV who)) && zab text) = true
      rw [zGB hb x.lab,zt6 hb x.who,zt6 hb h4.2,ht]; rfl
     ·show (zf4 r me.2.1 p && (qC r me.2.2.1 && qC r who)) = true
      rw [hle,x.who,h4.2]; rfl
theorem zJv {r:za} {s:zd} {me:pMe} (x:Ctx r s me) (hs:qY s) (i:Int):zH9 r s me (zqO r s me i):=by
 unfold zqO
 rw [x.rs,x.im]
 simp only [Bool.and_true,cond_true]
 unfold zCm zyS
 rw [(x.mails x.lab).2]
 simp only [cond_true]
 cases isM (jW s me.2.1) i me.2.2.1 with
 | false=>exact .inl ⟨3,rfl,rfl⟩
 | true=>exact .inr ⟨rfl,zAV x hs x.lab (fun _ h=>h) (zlq (τ:=zy) rfl (ze zy)) rfl⟩
theorem zIa {r:za} {s:zd} {me:pMe} (x:Ctx r s me) (hs:qY s) (what who:Int):zH9 r s me (zpM r s me what who):=by
 have hb:=(qb x.rs).1
 unfold zpM
 rw [x.rs,x.im]
 simp only [Bool.and_true,cond_true]
 cases decide (28 ≤ what ∧ what ≤ 30) with
 | false=>exact .inl ⟨1,rfl,rfl⟩
 | true =>
  simp only [cond_true]
  rcases zKB hb (zE1 x.rs) (what - 27) me.2.1 me.2.2.1 who with ⟨e,he,hv⟩ | ⟨n,hn,hl,hv,hr⟩
  ·rw [hv]
   unfold zyW
   simp only [he,cond_true]
   exact .inl ⟨e,he,rfl⟩
  ·rw [hv]
   refine .inr ⟨rfl,zGa x.rs hr,⟨hs.shelves,hs.orders,hs.entries⟩,fun a ha=>zH7 ?_⟩
   have hg:=zwG hn
   rw [zLX hb (by omega),zH4 (zH8 hn)]
   exact ha
def doV (r:za) (s:zd) (me:pMe) (x:yz):zd × Int × Unit:=bif decide (28 ≤ x.2.2.2.1 ∧ x.2.2.2.1 ≤ 30) then zpM r s me x.2.2.2.1 x.2.1 else bif (x.2.2.2.1:Int) == 1 then zqO r s me x.2.2.1 else zqN r s me x.1 x.2.1 x.2.2.2.2.1
theorem zJw {r:za} {s:zd} {me:pMe} (hr:zU r) (hs:qY s) (x:yz):zir (r,s,me,x,()) = some (doV r s me x):=by
 simp only [zir]
 unfold doV
 have two:(bif (x.2.2.2.1:Int) == 1 then Option.bind (zaL (r,s,me,x.2.2.1,())) fun q1=>some (q1.1,q1.2.1,()) else Option.bind (yM (r,s,me,x.1,x.2.1,x.2.2.2.2.1,())) fun q2=>some (q2.1,q2.2.1,())) = some (bif (x.2.2.2.1:Int) == 1 then zqO r s me x.2.2.1 else zqN r s me x.1 x.2.1 x.2.2.2.2.1):=by
  cases (x.2.2.2.1:Int) == 1 with
  | true=>exact bnd (zF9 hr hs _)
  | false=>exact bnd (zF8 hr hs _ _ _)
 by_cases h1:x.2.2.2.1 ≥ (28:Int)
 ·refine (cT (decide_eq_true h1)).trans ?_
  by_cases h2:x.2.2.2.1 ≤ (30:Int)
  ·refine (cT (decide_eq_true h2)).trans ?_
   rw [decide_eq_true (p:=28 ≤ x.2.2.2.1 ∧ x.2.2.2.1 ≤ 30) ⟨h1,h2⟩]
   exact bnd (zE2 hr hs _ _)
  ·refine (cF (decide_eq_false h2)).trans ?_
   rw [decide_eq_false (p:=28 ≤ x.2.2.2.1 ∧ x.2.2.2.1 ≤ 30) (fun h=>h2 h.2)]
   exact two
 ·refine (cF (decide_eq_false h1)).trans ?_
  rw [decide_eq_false (p:=28 ≤ x.2.2.2.1 ∧ x.2.2.2.1 ≤ 30) (fun h=>h1 h.1)]
  exact two
theorem zLj {r:za} {s:zd} {me:pMe} (c:Ctx r s me) (hs:qY s) (x:yz):zH9 r s me (doV r s me x):=by
 unfold doV
 cases decide (28 ≤ x.2.2.2.1 ∧ x.2.2.2.1 ≤ 30) with
 | true=>exact zIa c hs _ _
 | false =>
  cases (x.2.2.2.1:Int) == 1 with
  | true=>exact zJv c hs _
  | false=>exact zJu c hs _ _ _
abbrev zyY (r:za) (a:zr) (i:Nat):Bool:=jg (r.1.getD (zar r i).toNat zC) a
def zE3 (r:za) (a:zr):List Int:=znR (zyY r a) r.2.1.length
theorem zE4 {r:za} {a:zr} (hr:zU r) (hb:zL r = true) (ha:zbl a) (la:zbF a = true):zim (r,a,()) = some (zE3 r a,()):=by
 have h8:=(qt hb).lines
 simp only [zim]
 refine (bnd (zbG r hr)).trans ?_
 refine (cT hb).trans ?_
 refine (bnd (zgJ a)).trans ?_
 refine (cT la).trans ?_
 exact zAS (B:=zdp) (n:=r.2.1.length) (by omega) (p:=zyY r a) (fun i o=>(r.2.1,(r.2.1.length:Int),i,r,a,o)) (fun k i o hi hI=>by
  have hl:=zGA hb hi
  simp only [zdp]
  rw [ltT hi,zai,qj]
  refine (cT rfl).trans ?_
  refine (zD hi).trans ?_
  refine (ixR hl).trans ?_
  refine (bnd (zeo (zmv hr _ (zGC hb hi)) ha)).trans ?_
  show cond (zyY r a i) _ _ = _
  cases zyY r a i with
  | false=>rfl
  | true =>
   refine (cT rfl).trans ?_
   exact cT (zbj (by simp; omega))) (fun k o=>by
  simp only [zdp]
  rw [ltF]; rfl)
def zjE (r:za) (a:zr) (z:Int):Bool:=(zE3 r a).any fun y=>z == y
theorem zGb {r:za} {a:zr} (hr:zU r) (hb:zL r = true) (ha:zbl a) (la:zbF a = true) (z:Int):zjA (r,z,a,()) = some (zjE r a z,()):=by
 have h8:=(qt hb).lines
 rw [zM]
 simp only [zjA]
 refine (bnd (zE4 hr hb ha la)).trans ?_
 refine (bnd (zjk (l:=zE3 r a) (a:=z) (zyN (Nat.le_trans (zEY _ _) (by omega))))).trans ?_
 rfl
theorem zwI {p:Nat→Bool} {n:Nat} {z:Int}:z ∈ znR p n ↔ ∃ i:Nat,z = (i:Int) ∧ i < n ∧ p i = true:=by
 unfold znR
 rw [List.mem_map]
 constructor
 ·rintro ⟨i,hi,rfl⟩
  rw [List.mem_filter,List.mem_range] at hi
  exact ⟨i,rfl,hi.1,hi.2⟩
 ·rintro ⟨i,rfl,h1,h2⟩
  exact ⟨i,by rw [List.mem_filter,List.mem_range]; exact ⟨h1,h2⟩,rfl⟩
theorem zLk {r:za} {a:zr} {i:Nat} (hi:i < r.2.1.length):zjE r a (i:Int) = zyY r a i:=by
 unfold zjE
 rw [Bool.eq_iff_iff,List.any_eq_true]
 constructor
 ·rintro ⟨y,hy,e⟩
  obtain ⟨j,rfl,h1,h2⟩:=zwI.1 hy
  have:=Int.ofNat.inj (eq_of_beq e)
  subst this
  exact h2
 ·intro h
  exact ⟨(i:Int),zwI.2 ⟨i,rfl,hi,h⟩,by simp⟩
theorem zGD {r:za} {a:zr} (hr:zU r) (hb:zL r = true) (ha:zbl a) (la:zbF a = true) {l:List Int} (hl:l.length ≤ 8):zj (r,l,a,()) = some (l.filter (zjE r a),()):=by
 have:=jU (B:=zcm) (α:=List Int) (len:=l.length) (by unfold Go.maxLen; omega) (fun i o=>(l,i,r,a,o)) (fun i o=>some (o ++ (l.drop i).filter (zjE r a),())) (fun i o=>o.length ≤ i) (fun k i o hi hI hk=>by
  simp only [zcm]
  rw [ltT hi,qj,zai,zaJ 0 hi,List.filter_cons]
  refine (cT rfl).trans ?_
  refine (zD hi).trans ?_
  refine (bnd (zGb hr hb ha la _)).trans ?_
  show cond (zjE r a (l.getD i 0)) _ _ = _
  cases zjE r a (l.getD i 0) with
  | false=>exact (cF rfl).trans (hk o (by omega))
  | true =>
   refine (cT rfl).trans ?_
   refine (zD hi).trans ?_
   refine (cT (zbj (by simp; omega))).trans ?_
   refine (hk _ (by simp; omega)).trans ?_
   rw [List.append_assoc]; rfl) (fun k o _=>by
  simp only [zcm]
  rw [ltF,List.drop_of_length_le (Nat.le_refl _)]
  simp) [] (Nat.le_refl _)
 refine (show zj (r,l,a,()) = _ from this).trans ?_
 rw [List.drop_zero,List.nil_append]
theorem zyZ {r:za} {s:zd} {me:pMe} {a:zr} (hn:jg (r.1.getD me.2.1.toNat zC) a = false) (also:Nat→Bool):(zyV r s me also).filter (zjE r a) = []:=by
 rw [List.filter_eq_nil_iff]
 intro z hz
 obtain ⟨i,rfl,hi,h⟩:=zwI.1 hz
 rw [zLk hi]
 simp only [zyU,Bool.and_eq_true] at h
 have h2:=h.2.2.1
 simp only [zf4,Bool.and_eq_true] at h2
 intro h3
 rw [zyX h2.2.2 h3] at hn
 cases hn
theorem zJx {r:za} {s:zd} {me:pMe} {a:zr} (hn:jg (r.1.getD me.2.1.toNat zC) a = false) (t:ByteArray):(zmA r s me t).1.filter (zjE r a) = []:=by
 unfold zmA
 cases zY r s && vk r me with
 | false=>rfl
 | true =>
  cases zab t with
  | false=>rfl
  | true=>exact zyZ hn _
theorem zGc {r:za} {s:zd} {me:pMe} {a:zr} (hn:jg (r.1.getD me.2.1.toNat zC) a = false) (g:Int) (t:ByteArray):(zfk r s me g t).1.filter (zjE r a) = []:=by
 unfold zfk
 cases zY r s && vk r me with
 | false=>rfl
 | true =>
  cases isG r g with
  | false=>rfl
  | true =>
   cases zqR r me.2.1 g with
   | false=>rfl
   | true =>
    cases zab t with
    | false=>rfl
    | true=>exact zyZ hn _
theorem zLl {r:za} {s:zd} {me:pMe} (t:ByteArray) (h:((zmA r s me t).2.1 != 0) = true):(zmA r s me t).1 = []:=by
 unfold zmA at h ⊢
 cases hm:zY r s && vk r me with
 | false=>rfl
 | true =>
  cases ht:zab t with
  | false=>rfl
  | true=>rw [hm,ht] at h; cases h
theorem zJy {r:za} {s:zd} {me:pMe} (g:Int) (t:ByteArray) (h:((zfk r s me g t).2.1 != 0) = true):(zfk r s me g t).1 = []:=by
 unfold zfk at h ⊢
 cases hm:zY r s && vk r me with
 | false=>rfl
 | true =>
  cases hg:isG r g with
  | false=>rfl
  | true =>
   cases hh:zqR r me.2.1 g with
   | false=>rfl
   | true =>
    cases ht:zab t with
    | false=>rfl
    | true=>rw [hm,hg,hh,ht] at h; cases h
theorem zJz {r:za} {s:zd} {a:zr} (h:zY r s = true):ztC (zeM r a s):=by
 obtain ⟨hb,hz,hp⟩:=qb h
 have ok:=qt hb
 have sz:=yf hb hz
 have hf:=zpJ h
 have hn:=zEO hb
 have h1:=sz.shelves
 have h2:s.2.2.1.length = r.2.2.2.1.length:=(zd4 (zE1 h)).1
 have hq:=ok.quotas
 have f1:(zcG r).2.1.length = r.1.length:=by show (List.set _ _ _).length = _; rw [List.length_set,List.length_map]; exact hq
 have f2:(zcG r).2.2.1.length = r.2.2.2.1.length:=List.length_map ..
 refine ⟨?_,?_,hf.orders,hf.entries,?_,fun x hx=>?_,fun l hl=>?_⟩
 ·show (qq _ _ _ _).length * _ ≤ _; rw [zfK]; exact hf.shelves
 ·show (qq _ _ _ _).length * _ ≤ _; rw [zfK]; exact hf.ranks
 ·show (qq _ _ _ _).length * _ ≤ _; rw [zfK]; exact hf.seats
 ·rcases zlc (by omega) hx with hx | hx
  ·exact hf.shelf x hx
  ·exact hn.shelf x hx
 ·rcases zlc (by omega) hl with hl | hl
  ·exact hf.rank l hl
  ·exact hn.rank l hl
theorem zKC {l:List Int} (h:l = []):(((l.length:Nat):Int) != 0) = false:=by rw [h]; rfl
theorem zIb {r:za} {s t:zd} {e:Int} {a:zr} {w y:List Int} (hv:(e != 0) = false→qu (r,s,t,a,()) = some (true,())) (h1:zj (r,w,a,()) = some ([],())) (h2:zj (r,y,a,()) = some ([],())):(Option.bind (zQ ()) fun q8=>bif q8.1 then bif e != 0 then Option.bind (zj (r,w,a,())) fun q9=>bif ((List.length q9.1):Int) == 0 then Option.bind (zj (r,y,a,())) fun q10=>bif ((List.length q10.1):Int) == 0 then some (true,()) else some (false,()) else some (false,()) else Option.bind (qu (r,s,t,a,())) fun q11=>bif q11.1 then Option.bind (zj (r,w,a,())) fun q12=>bif ((List.length q12.1):Int) == 0 then Option.bind (zj (r,y,a,())) fun q13=>bif ((List.length q13.1):Int) == 0 then some (true,()) else some (false,()) else some (false,()) else some (false,()) else some (false,())) = some (true,()):=by
 refine (bnd ztD).trans ?_
 refine (cT rfl).trans ?_
 cases he:e != 0 with
 | true =>
  refine (cT rfl).trans ?_
  refine (bnd h1).trans ?_
  refine (cT rfl).trans ?_
  refine (bnd h2).trans ?_
  rfl
 | false =>
  refine (cF rfl).trans ?_
  refine (bnd (hv he)).trans ?_
  refine (cT rfl).trans ?_
  refine (bnd h1).trans ?_
  refine (cT rfl).trans ?_
  refine (bnd h2).trans ?_
  rfl
theorem zAW:(Option.bind (zQ ()) fun q4=>bif q4.1 then some (true,()) else some (false,())) = some (true,()):=bnd ztD
theorem x_TalkRests {r:za} {s:zd} {a:zr} (hr:zU r) (hs:qY s) (ha:zbl a) {me:pMe} {x:yz}:P_law31_TalkRests (r,s,me,x,a,()) = some (true,()):=by
 simp only [P_law31_TalkRests]
 refine (bnd (zdt hr hs me)).trans ?_
 cases hm:zY r s && vk r me with
 | false =>
  refine (cF rfl).trans ?_
  refine (bnd (zJw hr hs x)).trans ?_
  refine (bnd ztD).trans ?_
  refine (cT rfl).trans ?_
  have e:(doV r s me x).2.1 = 1:=by
   unfold doV
   cases decide (28 ≤ x.2.2.2.1 ∧ x.2.2.2.1 ≤ 30) with
   | true=>unfold zpM; rw [hm]; rfl
   | false =>
    cases (x.2.2.2.1:Int) == 1 with
    | true=>unfold zqO; rw [hm]; rfl
    | false=>unfold zqN; rw [hm]; rfl
  exact cT (by rw [e]; rfl)
 | true =>
  simp only [Bool.and_eq_true] at hm
  have c:Ctx r s me:=⟨hm.1,hm.2⟩
  have hb:=(qb c.rs).1
  refine (cT rfl).trans ?_
  refine (bnd (zJw hr hs x)).trans ?_
  have w:=zLj c hs x
  generalize doV r s me x = v at *
  have road:((v.2.1 != 0) = false→zY r v.1 = true ∧ ∀ a,jg (r.1.getD me.2.1.toNat zC) a = false→zeM r a v.1 = zeM r a s)→(inR me.2.1 ((List.length r.1):Int) (Option.bind (va (ix zC r.1 me.2.1,a,())) fun q3=>bif q3.1 then Option.bind (zQ ()) fun q4=>bif q4.1 then some (true,()) else some (false,()) else Option.bind (vj (a,())) fun q5=>bif q5.1 then Option.bind (zcn (r,s,me,x.2.2.2.2.1,())) fun q6=>Option.bind (yX (r,s,me,x.2.2.1,x.2.2.2.2.1,())) fun q7=>bif q6.2.1 != 0 then bif ((List.length q6.1):Int) != 0 then some (false,()) else bif q7.2.1 != 0 then bif ((List.length q7.1):Int) != 0 then some (false,()) else Option.bind (zQ ()) fun q8=>bif q8.1 then bif v.2.1 != 0 then Option.bind (zj (r,q6.1,a,())) fun q9=>bif ((List.length q9.1):Int) == 0 then Option.bind (zj (r,q7.1,a,())) fun q10=>bif ((List.length q10.1):Int) == 0 then some (true,()) else some (false,()) else some (false,()) else Option.bind (qu (r,s,v.1,a,())) fun q11=>bif q11.1 then Option.bind (zj (r,q6.1,a,())) fun q12=>bif ((List.length q12.1):Int) == 0 then Option.bind (zj (r,q7.1,a,())) fun q13=>bif ((List.length q13.1):Int) == 0 then some (true,()) else some (false,()) else some (false,()) else some (false,()) else some (false,()) else Option.bind (zQ ()) fun q14=>bif q14.1 then bif v.2.1 != 0 then Option.bind (zj (r,q6.1,a,())) fun q15=>bif ((List.length q15.1):Int) == 0 then Option.bind (zj (r,q7.1,a,())) fun q16=>bif ((List.length q16.1):Int) == 0 then some (true,()) else some (false,()) else some (false,()) else Option.bind (qu (r,s,v.1,a,())) fun q17=>bif q17.1 then Option.bind (zj (r,q6.1,a,())) fun q18=>bif ((List.length q18.1):Int) == 0 then Option.bind (zj (r,q7.1,a,())) fun q19=>bif ((List.length q19.1):Int) == 0 then some (true,()) else some (false,()) else some (false,()) else some (false,()) else some (false,()) else bif q7.2.1 != 0 then bif ((List.length q7.1):Int) != 0 then some (false,()) else Option.bind (zQ ()) fun q20=>bif q20.1 then bif v.2.1 != 0 then Option.bind (zj (r,q6.1,a,())) fun q21=>bif ((List.length q21.1):Int) == 0 then Option.bind (zj (r,q7.1,a,())) fun q22=>bif ((List.length q22.1):Int) == 0 then some (true,()) else some (false,()) else some (false,()) else Option.bind (qu (r,s,v.1,a,())) fun q23=>bif q23.1 then Option.bind (zj (r,q6.1,a,())) fun q24=>bif ((List.length q24.1):Int) == 0 then Option.bind (zj (r,q7.1,a,())) fun q25=>bif ((List.length q25.1):Int) == 0 then some (true,()) else some (false,()) else some (false,()) else some (false,()) else some (false,()) else Option.bind (zQ ()) fun q26=>bif q26.1 then bif v.2.1 != 0 then Option.bind (zj (r,q6.1,a,())) fun q27=>bif ((List.length q27.1):Int) == 0 then Option.bind (zj (r,q7.1,a,())) fun q28=>bif ((List.length q28.1):Int) == 0 then some (true,()) else some (false,()) else some (false,()) else Option.bind (qu (r,s,v.1,a,())) fun q29=>bif q29.1 then Option.bind (zj (r,q6.1,a,())) fun q30=>bif ((List.length q30.1):Int) == 0 then Option.bind (zj (r,q7.1,a,())) fun q31=>bif ((List.length q31.1):Int) == 0 then some (true,()) else some (false,()) else some (false,()) else some (false,()) else some (false,()) else Option.bind (zQ ()) fun q32=>bif q32.1 then some (true,()) else some (false,()))) = some (true,()):=by
   intro hok
   refine (ixR (zJn c.lab)).trans ?_
   refine (bnd (zeo (zmv hr _ c.lab) ha)).trans ?_
   cases hl:jg (r.1.getD me.2.1.toNat zC) a with
   | true=>exact zAW
   | false =>
    refine (cF rfl).trans ?_
    refine (bnd (zgJ a)).trans ?_
    cases la:zbF a with
    | false=>exact zAW
    | true =>
     refine (cT rfl).trans ?_
     refine (bnd (zH2 hr hs _)).trans ?_
     refine (bnd (zE0 hr hs _ _)).trans ?_
     have b1:zj (r,(zmA r s me x.2.2.2.2.1).1,a,()) = some ([],()):=by
      rw [zGD hr hb ha la (zLh s me _),zJx hl]
     have b2:zj (r,(zfk r s me x.2.2.1 x.2.2.2.2.1).1,a,()) = some ([],()):=by
      rw [zGD hr hb ha la (zJq s me _ _),zGc hl]
     have e1:=zLl (r:=r) (s:=s) (me:=me) x.2.2.2.2.1
     have e2:=zJy (r:=r) (s:=s) (me:=me) x.2.2.1 x.2.2.2.2.1
     have hv:(v.2.1 != 0) = false→qu (r,s,v.1,a,()) = some (true,()):=fun h0=>by
      obtain ⟨h1,h2⟩:=hok h0
      rw [zF6 hr c.rs h1 ha la (zJz c.rs),h2 a hl,zHU]
     generalize zmA r s me x.2.2.2.2.1 = p at *
     generalize zfk r s me x.2.2.1 x.2.2.2.2.1 = q at *
     have fin:=zIb hv b1 b2
     cases hp:p.2.1 != 0 with
     | true =>
      refine (cT rfl).trans ?_
      refine (cF (zKC (e1 hp))).trans ?_
      cases hq:q.2.1 != 0 with
      | true =>
       refine (cT rfl).trans ?_
       refine (cF (zKC (e2 hq))).trans ?_
       exact fin
      | false=>exact (cF rfl).trans fin
     | false =>
      refine (cF rfl).trans ?_
      cases hq:q.2.1 != 0 with
      | true =>
       refine (cT rfl).trans ?_
       refine (cF (zKC (e2 hq))).trans ?_
       exact fin
      | false=>exact (cF rfl).trans fin
  rcases w with ⟨e,he,rfl⟩ | ⟨h0,hrest⟩
  ·have he0:((e:Int) == 0) = false:=by
    cases h:(e:Int) == 0 with
    | false=>rfl
    | true=>have:e = 0:=eq_of_beq h; rw [this] at he; cases he
   refine (cF he0).trans ?_
   exact road fun h=>by rw [he] at h; cases h
  ·refine (cT (beq_iff_eq.2 h0)).trans ?_
   refine (bnd (zrG hr hrest.inn)).trans ?_
   refine (cT hrest.right).trans ?_
   exact road fun _=>⟨hrest.right,hrest.view⟩
end Go.Proofs.YtkcakhbkoeimdaaGreatDoor
end
section
namespace Go.Proofs.YtkcakhbkoeimdaaGreatDoor.fnTalkRests
open Go.ChangeShapes Go.WideShapes Go.ChangeAt Go.RowKit Go.Ev
abbrev tab:List Int:=[0,1,56,2,57,49,28,3,61,58,42,50,38,29,17,4,62,47,59,36,45,43,51,22,53,39,33,30,24,18,12,5,63,55,48,27,60,41,37,16,46,35,44,21,52,32,23,11,54,26,40,15,34,20,31,10,25,14,19,9,13,8,7,6]
theorem own:ownKnob Tryz.prog.godebug = none:=by kernel_rfl
theorem gTab:Tryz.prog.globalNamed "math/bits.deBruijn64tab" = some 0:=by kernel_rfl
theorem gTabType:(Tryz.prog.globals[0]?).map (·.type) = some 309:=by kernel_rfl
theorem cellsA:Tryz.prog.cellsOf 309 = 64:=by kernel_rfl
theorem cellsE:Tryz.prog.cellsOf 5 = 1:=by kernel_rfl
theorem undA:Tryz.prog.underlying 309 = some (.array 64 5):=by kernel_rfl
theorem undE:Tryz.prog.underlying 5 = some (.int .u8):=by kernel_rfl
theorem table {W:World} (h:laidMetH Tryz.prog Rows.talkRestsRow.laid W):Lib.TabIs Tryz.prog W "math/bits.deBruijn64tab" .u8 tab :=
 Lib.tabIs_of_head gTab gTabType undA undE cellsE cellsA h
theorem cell_FH {W:World} {j:Nat} {v:Value} (h:W.cell? ⟨0,j,none⟩ = some v):∃ c,FH.of W 0 = some c ∧ c[j]? = some v:=by
 unfold World.cell? at h
 simp only at h
 split at h
 ·rename_i c el fz hk
  exact ⟨c,by simp [FH.of,hk],by simpa using h⟩
 ·cases h
def cellsL:List Int→List Value:=List.map (Value.int .u8)
theorem repL (P:Program) (F:FH):∀ l:List Int,RepL (Rep P F (.int .u8)) l (cellsL l)
 | []=>rfl
 | x :: l=>⟨[.int .u8 x],cellsL l,rfl,rfl,repL P F l⟩
theorem extOk:∀ f add,Ev.look ext f = some add→ExtOk Tryz.prog f add:=by
 intro f add h
 have h':(Nat.beq 350 f = true ∧ add = false) ∨ (Nat.beq 368 f = true ∧ add = true):=by
  simp only [ext,Ev.look] at h
  cases h1:Nat.beq 350 f with
  | true=>rw [h1] at h; exact .inl ⟨rfl,(Option.some.inj h).symm⟩
  | false =>
   rw [h1] at h
   cases h2:Nat.beq 368 f with
   | true=>rw [h2] at h; exact .inr ⟨rfl,(Option.some.inj h).symm⟩
   | false=>rw [h2] at h; cases h
 rcases h' with ⟨h1,rfl⟩ | ⟨h1,rfl⟩
 ·obtain rfl:=Nat.eq_of_beq_eq_true h1
  intro x y w hx hy hy2
  obtain ⟨m,rfl⟩:=Int.eq_ofNat_of_zero_le hx
  obtain ⟨n,rfl⟩:=Int.eq_ofNat_of_zero_le hy
  rw [run_callFunc_extern (P:=Tryz.prog) (f:=350) Tryz.func350 (by kernel_rfl) (by kernel_rfl) (by kernel_rfl) (e:=sub64Entry) (by kernel_rfl)]
  have h0:(sub64Entry #[.int .u64 (m:Int),.int .u64 (n:Int),.int .u64 0]).run Tryz.prog w = .ok (.tuple #[.int .u64 (((m + 18446744073709551616 - n - 0) % 18446744073709551616:Nat):Int),.int .u64 ((if m < n + 0 then 1 else 0:Nat):Int)]) w:=run_sub64 m n 0 (by omega) w
  have e1:extA false (m:Int) (n:Int) = (((m + 18446744073709551616 - n - 0) % 18446744073709551616:Nat):Int):=by
   show ((m:Int) - (n:Int)) % 18446744073709551616 = _
   omega
  have e2:extB false (m:Int) (n:Int) = ((if m < n + 0 then 1 else 0:Nat):Int):=by
   show cond (decide ((m:Int) < (n:Int))) 1 0 = _
   by_cases h:m < n
   ·rw [decide_eq_true (by omega),if_pos (by omega)]; rfl
   ·rw [decide_eq_false (by omega),if_neg (by omega)]; rfl
  rw [h0,e1,e2]
  rfl
 ·obtain rfl:=Nat.eq_of_beq_eq_true h1
  intro x y w hx hy hy2
  rw [run_callFunc_extern (P:=Tryz.prog) (f:=368) Tryz.func368 (by kernel_rfl) (by kernel_rfl) (by kernel_rfl) (e:=add64Entry) (by kernel_rfl),run_add64 x y 0 hx hy (by omega) (by omega),Int.add_zero]
  rfl
theorem env {W:World} (hL:laidMetH Tryz.prog Rows.talkRestsRow.laid W):EnvOk Tryz.prog (FH.of W) E0:=by
 refine EnvOk.nil (by kernel_rfl) (fun g v hv=>?_) extOk
 have ht:=table hL
 obtain ⟨c,hc,-⟩:=cell_FH (ht.cell gTab 0 (by decide))
 have hg:g = 0:=by
  have hv2:Ev.look glob g = some v:=hv
  simp only [glob,Ev.look] at hv2
  cases hb:Nat.beq 0 g with
  | true=>exact (Nat.eq_of_beq_eq_true hb).symm
  | false=>rw [hb] at hv2; cases hv2
 subst hg
 have hv':some (AV.dat (.ptr (.arr 64 (.int .u8))) (some tab)) = some v:=hv
 cases hv'
 refine ⟨.arr 64 (.int .u8),tab,cellsL tab,rfl,⟨rfl,c,hc,fun j v hj=>?_⟩,⟨rfl,repL _ _ tab⟩⟩
 have hj':j < tab.length:=by
  have:=List.getElem?_eq_some_iff.1 hj
  obtain ⟨h,-⟩:=this
  simpa [cellsL] using h
 obtain ⟨c',hc',h0⟩:=cell_FH (ht.cell gTab j hj')
 rw [hc] at hc'
 obtain rfl:=Option.some.inj hc'
 have:(cellsL tab)[j]? = some (.int .u8 (tab.getD j 0)):=by
  unfold cellsL
  rw [List.getElem?_map,List.getD_eq_getElem?_getD,List.getElem?_eq_getElem hj']; rfl
 rw [this] at hj
 rw [← hj]
 show c[0 + j]? = _
 rw [Nat.zero_add]; exact h0
set_option maxRecDepth 100000 in
theorem contract (H:Type) (enc:TypeId × Value→H) (W:World) (base:Nat) (args:Array Value) (ds gs:List (DataW H)) (before:List MemPlace)
 (hval:∀ (j:Nat) t v,Tryz.f5.params[j]? = some t→args[j]? = some v→Value.okWide Tryz.prog W .any base t v)
 (hW:DataW.Whole enc Tryz.prog Tryz.f5.params.toList Rows.talkRestsSpec.vars false W args.toList ds gs before) (hL:laidMetH Tryz.prog Rows.talkRestsRow.laid W) :
 Calls Tryz.prog 5 args W fun e W'=>∃ v,e = .returned v ∧ Rows.talkRestsSpec.post enc Tryz.prog Tryz.f5 false true false false W args v W':=by
 refine law_contract (a:=A_law31_TalkRests) (tb:=4) (by kernel_rfl) (by decide +kernel) (by kernel_rfl) (by kernel_rfl) (by kernel_rfl) rfl (fun ds hd=>?_) hval hW fun x hx hbk hr=>?_
 ·have:Tryz.f5.params.size = 5:=by kernel_rfl
  rw [this] at hd
  match ds,hd with
  | [d1,d2,d3,d4,d5],_=>rfl
 ·have hs:=s_law31_TalkRests (FH.of W) (env hL)
  have he:P_law31_TalkRests x = some (true,()):=by
   obtain ⟨r,s,m,x,a,⟨⟩⟩:=x
   exact x_TalkRests (realmIn hx.1) (stateIn hx.2.1) (wf_u64 hx.2.2.2.2.1.2.1)
  have hc:=hs.2 x (true,()) he (FH.of W) W args.toList (FH.le.refl _) (FH.of_ok W) hr
  refine hc.mono fun e W' he=>?_
  obtain ⟨us,F',h1,h2,_,_,h3⟩:=he
  refine ⟨?_,h2⟩
  obtain ⟨v,r,hus,hv,hva,hnil⟩:=(show RepA Tryz.prog F' (.pair .bool .unit) (true,()) us from h3)
  have hr0:r = []:=hnil
  subst hr0
  have hv':v.cells.toList = [.bool true]:=hv
  rw [h1,hus]
  have hva':isAggV v = false:=hva
  have:v = .bool true:=by
   cases v <;> first | (simp [isAggV] at hva'; done) | (simp [Value.cells] at hv'; exact congrArg _ hv') | (simp [Value.cells] at hv')
  rw [this]
  rfl
def putC (l:List Value):Obj→Obj
 | .cells _ t frozen=>.cells l.toArray t frozen
 | o=>o
noncomputable def laidWorld (os:Os):World :=
 { World.holding Tryz.prog os ⟨#[],#[],[]⟩ with heap:=(((World.holding Tryz.prog os ⟨#[],#[],[]⟩).heap.modify 0 (putC (cellsL tab))).modify 1 (putC (cellsL (Pinned.utf8FirstZ.map fun n:Nat=>(n:Int))))).modify 2 (putC (cellsL [128,191,160,191,128,159,144,191,128,143,0,0,0,0,0,0,0,0,0,0,0,0,0,0,0,0,0,0,0,0,0,0])) }
def arg0:Value:=.agg #[.slice none 0 0,.slice none 0 0,.slice none 0 0,.slice none 0 0,.slice none 0 0,.int .i64 0,.int .i64 0,.int .i64 0,.int .i64 0]
def arg1:Value:=.agg #[.int .u64 0,.slice none 0 0,.slice none 0 0,.slice none 0 0,.slice none 0 0,.slice none 0 0]
def arg2:Value:=.agg #[.int .i64 0,.int .i64 0,.int .i64 0]
def arg3:Value:=.agg #[.int .i64 0,.int .i64 0,.int .i64 0,.int .i64 0,.string ⟨#[]⟩]
def zIc:Value:=.agg #[.int .i64 0,.int .u64 0]
theorem laid_met (os:Os):laidMet Tryz.prog Rows.talkRestsRow.laid ((laidWorld os).forCall (fun _ _=>0) ⟨#[],#[arg0,arg1,arg2,arg3,zIc],[]⟩).memory :=
 laidMet_of_run' 8 (by kernel_rfl) (by kernel_rfl)
theorem reads (os:Os) {H:Type} (enc:TypeId × Value→H):∃ places,DataW.whole enc Tryz.prog ((laidWorld os).forCall (fun _ _=>0) ⟨#[],#[arg0,arg1,arg2,arg3,zIc],[]⟩).memory Tryz.f5.params.toList Rows.talkRestsSpec.vars false #[arg0,arg1,arg2,arg3,zIc].toList 8 = some ([.agg [.nil,.nil,.nil,.nil,.nil,.lit (.int .i64 0),.lit (.int .i64 0),.lit (.int .i64 0),.lit (.int .i64 0)],.agg [.lit (.int .u64 0),.nil,.nil,.nil,.nil,.nil],.agg [.lit (.int .i64 0),.lit (.int .i64 0),.lit (.int .i64 0)],.agg [.lit (.int .i64 0),.lit (.int .i64 0),.lit (.int .i64 0),.lit (.int .i64 0),.lit (.string [])],.agg [.lit (.int .i64 0),.lit (.int .u64 0)]],[],places) :=
 ⟨[],by kernel_rfl⟩
set_option maxRecDepth 100000 in
theorem lifted (os:Os) (started:os.Started) (H:Type) (enc:TypeId × Value→H) (F:Stop.Interp) :
 ReturnsInHanded {} Tryz.checked os 5 .any ((OpenSpec.ofChange Rows.talkRestsSpec).preRow enc Tryz.prog Tryz.f5 Rows.talkRestsRow.domain false Rows.talkRestsRow.laid) (((OpenSpec.ofChange Rows.talkRestsSpec).at F).post enc Tryz.prog Tryz.f5 false true false false):=by
 obtain ⟨places,hx⟩:=reads os enc
 refine returnsInHanded_of_row (C:=Tryz.checked) (s:=OpenSpec.ofChange Rows.talkRestsSpec) own started (by kernel_rfl) Tryz.func5
  (witness_row_at (enc:=enc) (C:=Tryz.checked) false (laidWorld os) #[arg0,arg1,arg2,arg3,zIc] rfl (by kernel_rfl) (by kernel_rfl) (by kernel_rfl)
   (OpenSpec.preRow_of_cond 8 hx (by kernel_rfl) (fun k hk=>by cases hk) (by kernel_rfl) (laid_met os))) ?_
 intro W base args ds gs before hval hW _ _ _ hL _ _
 exact contract H enc W base args ds gs before hval hW hL
end Go.Proofs.YtkcakhbkoeimdaaGreatDoor.fnTalkRests
end
section
namespace Go.Proofs.YtkcakhbkoeimdaaGreatDoor.fnTalkRests
open Go.ChangeShapes Go.WideShapes Go.ChangeAt Go.RowKit Go.Ev
theorem k2:laidOutB Tryz.prog = true:=by kernel_rfl
theorem k3:mapsRowed Tryz.prog = true:=by kernel_rfl
theorem k10:(Rows.talkRestsRow.inPlace == Tryz.prog.inPlace 5) = true:=by kernel_rfl
theorem k11:(Rows.talkRestsRow.unfollowed == Tryz.prog.unfollowed 5) = true:=by kernel_rfl
theorem k12:(Rows.talkRestsRow.recurses == Tryz.prog.recurses 5) = true:=by kernel_rfl
theorem k13:(Rows.talkRestsRow.named == Tryz.prog.varsNamed 5) = true:=by kernel_rfl
theorem k23:(Rows.talkRestsRow.plainKeys == Tryz.prog.plainKeys) = true:=by kernel_rfl
theorem k24:Tryz.prog.stopsHeard = true:=by kernel_rfl
theorem k25:Tryz.prog.mayEnter = true:=by kernel_rfl
theorem k26:(Rows.talkRestsRow.lifted == Tryz.prog.liftsFinal) = true:=by kernel_rfl
theorem k27:(Tryz.prog.make == some Rows.talkRestsRow.make) = true:=by kernel_rfl
theorem closed0:joinedFacts Tryz.prog 5 Tryz.f5 (OpenSpec.ofChange Rows.talkRestsSpec).bare Rows.talkRestsRow = true:=by
 unfold joinedFacts
 rw [k2,k3,k10,k11,k12,k13,k23,k24,k25,k26,k27]
 kernel_rfl
theorem peq:Tryz.pinned.checked.prog = Tryz.prog:=by kernel_rfl
theorem closed:joinedFacts Tryz.pinned.checked.prog 5 Tryz.f5 (OpenSpec.ofChange Rows.talkRestsSpec).bare Rows.talkRestsRow = true:=by
 rw [peq]; exact closed0
end Go.Proofs.YtkcakhbkoeimdaaGreatDoor.fnTalkRests
end
