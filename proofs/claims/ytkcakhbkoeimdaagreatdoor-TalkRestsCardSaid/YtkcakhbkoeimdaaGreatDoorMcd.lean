import Derived.Test.YtkcakhbkoeimdaaGreatDoorMcc
import Derived.Carry
import Derived.OpenShut
import Derived.Lib.SliceRun
import Derived.Test.YtkcakhbkoeimdaaGreatDoorProg
import Derived.RangeFuncBox
import Derived.RangeFuncLeaves
import Derived.Shelf.Abstract
import Derived.WalkKit
import Derived.OwnWalkIn
import Derived.TacticsInMore
import Derived.LoopNIn
import Derived.LoopIn
import Derived.Maps.AppendAt
import Derived.Laws.Bits64b
import Derived.Lib.TrailingZeros
import Derived.Deep.LoopGhost
import Derived.Deep.Draws
import Derived.Lib.Walk
set_option linter.unusedSimpArgs false
set_option linter.unusedVariables false
section
namespace Go.Ev
open Go.RowKit
section
variable {P:Program} {nt:Up} {F0 F G:FH} {w0 w:World} {st st':St} {m:MM} {a:Act} {E:Env} {v:AV} {u:Value}
def znZ (ids:Nat→Option Nat) (h:List Obj):(b:Ty)→Nat→b.I→List AV→Prop
 | .pair (.sl σ) b,i,x,v :: vs=>(∃ id,v = .ow id ∧ ids i = some id ∧ atN h id = some (mkO σ (bif σ.deep then some (List.length x.1) else none) x.1)) ∧ znZ ids h b (i + 1) x.2 vs
 | .pair a b,i,x,v :: vs=>v = .dat a x.1 ∧ znZ ids h b (i + 1) x.2 vs
 | .unit,_,_,[]=>True
 | _,_,_,_=>False
theorem znZ.ids {ids ids':Nat→Option Nat} {h:List Obj}:∀ {b:Ty} {i:Nat} {x:b.I} {vs:List AV},(∀ f,i ≤ f→ids' f = ids f)→znZ ids h b i x vs→znZ ids' h b i x vs:=by
 intro b
 induction b with
 | unit=>intro i x vs _ ho; cases vs <;> exact ho
 | pair t b _ ihb =>
  intro i x vs hi ho
  cases vs with
  | nil=>cases t <;> exact ho.elim
  | cons v vs =>
   cases t with
   | sl σ =>
    obtain ⟨⟨id,h1,h2,h3⟩,h4⟩:=ho
    exact ⟨⟨id,h1,by rw [hi i (Nat.le_refl _)]; exact h2,h3⟩,ihb (fun f hf=>hi f (by omega)) h4⟩
   | _=>exact ⟨ho.1,ihb (fun f hf=>hi f (by omega)) ho.2⟩
 | _=>intro i x vs _ ho; cases vs <;> exact ho.elim
theorem znZ.heap {ids:Nat→Option Nat} {h h':List Obj}:∀ {b:Ty} {i:Nat} {x:b.I} {vs:List AV},(∀ f id,ids f = some id→atN h' id = atN h id)→znZ ids h b i x vs→znZ ids h' b i x vs:=by
 intro b
 induction b with
 | unit=>intro i x vs _ ho; cases vs <;> exact ho
 | pair t b _ ihb =>
  intro i x vs hi ho
  cases vs with
  | nil=>cases t <;> exact ho.elim
  | cons v vs =>
   cases t with
   | sl σ =>
    obtain ⟨⟨id,h1,h2,h3⟩,h4⟩:=ho
    exact ⟨⟨id,h1,h2,by rw [hi _ _ h2]; exact h3⟩,ihb hi h4⟩
   | _=>exact ⟨ho.1,ihb hi ho.2⟩
 | _=>intro i x vs _ ho; cases vs <;> exact ho.elim
theorem zIS {h h0 h1:List Obj} (hdr:∀ i τ xs k,atN h i = some (.drow τ xs k)→τ.deep = true) {t:Ty} {x:t.I} (hz:zvm h0 t v = some (x,h1)) (l:yP h0 h) :
 (v = .dat t x ∧ t.dl = false ∧ h1 = h0) ∨ ∃ (σ:Ty) (xs:List σ.I) (id:Nat),(⟨t,x⟩:(τ:Ty) × τ.I) = ⟨.sl σ,xs⟩ ∧ v = .ow id ∧ atN h id = some (mkO σ (bif σ.deep then some (List.length xs) else none) xs) ∧ atN h0 id ≠ some .gone ∧ (∃ o,atN h0 id = some o) ∧ h1 = zf h0 id .gone:=by
 cases v with
 | dat τ y =>
  simp only [zvm] at hz
  obtain ⟨hdl,hz⟩:=qr hz
  split at hz
  ·rename_i z hc
   cases hz
   obtain ⟨rfl,rfl⟩:=zO hc
   exact .inl ⟨rfl,hdl,rfl⟩
  ·cases hz
 | ow id =>
  simp only [zvm] at hz
  right
  split at hz
  ·rename_i τ xs ho
   obtain ⟨hd,hz⟩:=qr hz
   split at hz
   ·rename_i z hc
    cases hz
    obtain ⟨e,rfl⟩:=zO hc
    subst e
    refine ⟨τ,xs,id,rfl,rfl,?_,(by rw [ho]; intro e; cases e),⟨_,ho⟩,rfl⟩
    rw [l.at ho (by intro e; cases e),hd]
    rfl
   ·cases hz
  ·rename_i τ xs n ho
   split at hz
   ·rename_i z hc
    obtain ⟨hn,hz⟩:=zb hz
    cases hz
    obtain ⟨e,rfl⟩:=zO hc
    subst e
    have hat:=l.at ho (by intro e; cases e)
    refine ⟨τ,xs,id,rfl,rfl,?_,(by rw [ho]; intro e; cases e),⟨_,ho⟩,rfl⟩
    rw [hat,hdr _ _ _ _ hat,of_decide_eq_true hn]
    rfl
   ·cases hz
  ·cases hz
 | _=>cases hz
theorem zAJ {h:List Obj} (hdr:∀ i τ xs k,atN h i = some (.drow τ xs k)→τ.deep = true):∀ {b:Ty} {vs:List AV} {x:b.I} {h0 h1:List Obj} (i:Nat),ownC b vs h0 = some (x,h1)→yP h0 h →
 ∃ ids:Nat→Option Nat,znZ ids h b i x vs ∧ yP h1 h ∧ (∀ f id,ids f = some id→i ≤ f ∧ atN h0 id ≠ some .gone ∧ atN h1 id = some .gone ∧ ∃ σ k xs,atN h id = some (mkO σ k xs)) ∧ (∀ j,atN h0 j = some .gone→atN h1 j = some .gone) ∧
  ∀ f f' id,ids f = some id→ids f' = some id→f = f':=by
 intro b
 induction b with
 | unit =>
  intro vs x h0 h1 i hz l
  cases vs with
  | nil=>cases hz; exact ⟨fun _=>none,trivial,l,fun f id e=>(by cases e),fun _ h=>h,fun f f' id e=>(by cases e)⟩
  | cons _ _=>cases hz
 | pair t b _ ihb =>
  intro vs x h0 h1 i hz l
  cases vs with
  | nil=>cases hz
  | cons v vs =>
   simp only [ownC] at hz
   split at hz
   ·rename_i y h2 hy
    split at hz
    ·rename_i ys h3 hys
     cases hz
     rcases zIS hdr hy l with ⟨rfl,hdl,rfl⟩ | ⟨σ,xs,id,e,rfl,hat,hng,⟨o,ho⟩,rfl⟩
     ·obtain ⟨ids,g1,g2,g3,g4,g5⟩:=ihb (i + 1) hys l
      refine ⟨ids,?_,g2,fun f id hf=>⟨by have:=(g3 f id hf).1; omega,(g3 f id hf).2⟩,g4,g5⟩
      cases t with
      | sl σ=>cases hdl
      | _=>exact ⟨rfl,g1⟩
     ·cases e
      obtain ⟨ids,g1,g2,g3,g4,g5⟩:=ihb (i + 1) hys (l.gone ho)
      have hid:atN (zf h0 id .gone) id = some .gone:=vp ho
      have hids:∀ f,i + 1 ≤ f→(if f = i then some id else ids f) = ids f:=fun f hf=>by rw [if_neg (by omega)]
      refine ⟨fun f=>if f = i then some id else ids f,⟨⟨id,rfl,if_pos rfl,hat⟩,g1.ids hids⟩,g2,fun f id' hf=>?_,fun j hj=>?_,fun f f' id' hf hf'=>?_⟩
      ·by_cases e:f = i
       ·simp only [e,if_true,Option.some.injEq] at hf
        subst hf
        exact ⟨by omega,hng,g4 _ hid,σ,_,_,hat⟩
       ·simp only [e,if_false] at hf
        obtain ⟨k1,k2,k3,k4⟩:=g3 f id' hf
        refine ⟨by omega,fun hg=>k2 ?_,k3,k4⟩
        by_cases e2:id = id'
        ·rw [← e2]; exact hid
        ·rw [qn e2]; exact hg
      ·refine g4 j ?_
       by_cases e2:id = j
       ·rw [← e2]; exact hid
       ·rw [qn e2]; exact hj
      ·by_cases e:f = i <;> by_cases e':f' = i
       ·omega
       ·simp only [e,if_true,Option.some.injEq] at hf
        simp only [e',if_false] at hf'
        subst hf
        exact absurd hid (g3 f' _ hf').2.1
       ·simp only [e,if_false] at hf
        simp only [e',if_true,Option.some.injEq] at hf'
        subst hf'
        exact absurd hid (g3 f _ hf).2.1
       ·simp only [e,if_false] at hf
        simp only [e',if_false] at hf'
        exact g5 f f' id' hf hf'
    ·cases hz
   ·cases hz
 | _=>intro vs x h0 h1 i hz l; cases vs <;> cases hz
def MM.ofI (m:MM) (ids:Nat→Option Nat):Nat→Nat→List Nat→Option (Nat × Nat):=fun f=>match ids f with | some id=>m.d id | none=>fun _ _=>none
theorem MM.ofI_some {m:MM} {ids:Nat→Option Nat} {f j:Nat} {p:List Nat} {b:Nat × Nat} (h:m.ofI ids f j p = some b):∃ id,ids f = some id ∧ m.d id j p = some b:=by
 unfold MM.ofI at h
 cases hi:ids f with
 | none=>rw [hi] at h; cases h
 | some id=>rw [hi] at h; exact ⟨id,rfl,h⟩
theorem zGr (h:Rel P nt F0 w0 st m F a w) {ids:Nat→Option Nat}:∀ {b:Ty} {i:Nat} {x:b.I} {vs:List AV} {cs:List Value},znZ ids st.h b i x vs→zV P st.h m F b vs cs→zhu P F w (fun f=>(ids f).bind m) (m.ofI ids) b i x cs:=by
 intro b
 induction b with
 | unit =>
  intro i x vs cs ho hv
  cases vs with
  | nil=>exact hv
  | cons _ _=>exact hv.elim
 | pair t b _ ihb =>
  intro i x vs cs ho hv
  cases vs with
  | nil=>exact hv.elim
  | cons v vs =>
   obtain ⟨c,d,rfl,h1,h2⟩:=hv
   cases t with
   | sl σ =>
    obtain ⟨⟨id,rfl,hi,hat⟩,h4⟩:=ho
    obtain ⟨σ',u,e1,rfl,hs,_⟩:=h1
    cases e1
    refine ⟨u,d,rfl,⟨fun j p bk n hp=>?_,?_⟩,ihb h4 h2⟩
    ·obtain ⟨id',hi',hp⟩:=MM.ofI_some hp
     rw [hi] at hi'; cases hi'
     obtain ⟨⟨o,g1,g2⟩,_⟩:=h.dok _ _ _ _ _ hp
     rw [hat] at g1
     cases g1
     cases hd:σ.deep with
     | false=>rw [hd] at g2; cases g2
     | true =>
      rw [hd] at g2
      simp only [cond_true,mkO,Obj.deepAt,decide_eq_true_eq] at g2
      exact ⟨rfl,g2⟩
    ·have hq:=zF.owAt hat (zow _ _ _) hs
     show match (ids i).bind m with | some (b,n)=>_ | none=>_
     rw [hi,Option.bind_some]
     cases hmi:m id with
     | none =>
      rw [hmi] at hq
      exact ⟨zCN (h.obs _ _ hat) hmi,hq.2⟩
     | some bn =>
      obtain ⟨bk,n⟩:=bn
      rw [hmi] at hq
      obtain ⟨cap,g1,g2,g3⟩:=hq
      refine ⟨cap,g1,g2,g3,?_⟩
      have:=zp6 (h.obs _ _ hat) hmi
      have hd:m.ofI ids i = m.d id:=by unfold MM.ofI; rw [hi]
      rw [hd]
      exact this
   | _ =>
    obtain ⟨rfl,h4⟩:=ho
    exact ⟨c,d,rfl,h1.2,ihb h4 h2⟩
 | _=>intro i x vs cs ho; cases vs <;> exact ho.elim
theorem zGs (h:Rel P nt F0 w0 st m F a w) {ids:Nat→Option Nat} (hat:∀ f id,ids f = some id→∃ σ k xs,atN st.h id = some (mkO σ k xs)) (hinj:∀ f f' id,ids f = some id→ids f' = some id→f = f'):zCz F w w0.heap.size (fun f=>(ids f).bind m) (m.ofI ids):=by
 refine ⟨fun f b n hf=>?_,fun f j p b n hp=>?_,fun f f' b n n' hf hf'=>?_,fun f j p b n f' j' p' n' hp hp'=>?_,fun f b n f' j p n' hf hp=>?_⟩
 ·obtain ⟨id,hi,hf⟩:=Option.bind_eq_some_iff.1 hf
  obtain ⟨σ,k,xs,ho⟩:=hat f id hi
  obtain ⟨el,cs,c,d,_,_,_,hF,_⟩:=zp6 (h.obs _ _ ho) hf
  have:=h.rng _ _ _ hf
  exact ⟨this.2.1,this.2.2,hF⟩
 ·obtain ⟨id,hi,hp⟩:=MM.ofI_some hp
  have:=h.dok _ _ _ _ _ hp
  exact ⟨this.2.1,this.2.2.1,this.2.2.2.1⟩
 ·obtain ⟨id,hi,hf⟩:=Option.bind_eq_some_iff.1 hf
  obtain ⟨id',hi',hf'⟩:=Option.bind_eq_some_iff.1 hf'
  have:=h.inj _ _ _ _ _ hf hf'
  subst this
  exact hinj _ _ _ hi hi'
 ·obtain ⟨id,hi,hp⟩:=MM.ofI_some hp
  obtain ⟨id',hi',hp'⟩:=MM.ofI_some hp'
  obtain ⟨rfl,e2,e3⟩:=h.din _ _ _ _ _ _ _ _ _ hp hp'
  exact ⟨hinj _ _ _ hi hi',e2,e3⟩
 ·obtain ⟨id,hi,hf⟩:=Option.bind_eq_some_iff.1 hf
  obtain ⟨id',hi',hp⟩:=MM.ofI_some hp
  exact (h.dok _ _ _ _ _ hp).2.2.2.2 _ _ hf
theorem zJX {ρ:Type} {h:List Obj} {σ:Ty} {v:AV} {k:σ.I→List Obj→Option ρ}:zGG h σ v k = (zvm h σ v).bind fun p=>k p.1 p.2:=by
 unfold zGG zvm
 cases v with
 | dat τ x =>
  simp only
  cases τ.dl with
  | true=>rfl
  | false=>simp only [cond_false]; cases qI τ σ x <;> rfl
 | ow id =>
  simp only
  cases atN h id with
  | none=>rfl
  | some o =>
   cases o with
   | row τ xs f =>
    cases f with
    | true=>rfl
    | false =>
     simp only
     cases τ.deep with
     | true=>rfl
     | false=>simp only [cond_false]; cases qI (.sl τ) σ xs <;> rfl
   | drow τ xs n =>
    simp only
    cases qI (.sl τ) σ xs with
    | none=>rfl
    | some x=>simp only; cases decide (n = List.length xs) <;> rfl
   | _=>rfl
 | _=>rfl
theorem zC6 {ρ:Type}:∀ {σ:Ty} {vs:List AV} {h:List Obj} {k:σ.I→List Obj→Option ρ},zwO σ vs h k = (ownC σ vs h).bind fun p=>k p.1 p.2:=by
 intro σ
 induction σ with
 | unit=>intro vs h k; cases vs <;> rfl
 | pair a b _ ihb =>
  intro vs h k
  cases vs with
  | nil=>rfl
  | cons v vs =>
   simp only [zwO,ownC,zJX,ihb]
   cases zvm h a v with
   | none=>rfl
   | some p =>
    obtain ⟨x,h1⟩:=p
    simp only [Option.bind_some]
    cases ownC b vs h1 <;> rfl
 | _=>intro vs h k; cases vs <;> rfl
theorem zIT {md:Nat} {r:Ty} {y:r.I} {vs:List AV} {us:List Value} (h:Rel P nt F0 w0 st m F a w) (hv:jt P st.h m F vs us) (hz:zGH md r vs st = some y) :
 ∃ F',F0.grow F' w0.heap.size ∧ F'.ok w ∧ ziV P F' w w0.heap.size md r y us:=by
 unfold zGH at hz
 split at hz
 ·
  rename_i b c v vs
  split at hz
  ·rename_i x h1 hx
   split at hz
   ·rename_i p hp
    cases hz
    obtain ⟨u,r,rfl,hv1,hv2⟩:=hv
    obtain ⟨id,k,rfl,hat,rfl,hkr⟩:∃ id k,v = .ow id ∧ atN st.h id = some (mkO b k x) ∧ h1 = zf st.h id .gone ∧ (k = none ∨ k = some 0):=by
     unfold zIf at hx
     split at hx
     ·rename_i id
      split at hx
      ·rename_i τ xs ho
       split at hx
       ·rename_i z hc
        cases hx
        obtain ⟨e,rfl⟩:=zO hc
        cases e
        exact ⟨id,none,rfl,ho,rfl,.inl rfl⟩
       ·cases hx
      ·rename_i τ xs n ho
       split at hx
       ·rename_i z hc
        obtain ⟨hn,hx⟩:=zb hx
        cases hx
        obtain ⟨e,rfl⟩:=zO hc
        cases e
        have hn:n = 0:=of_decide_eq_true hn
        subst hn
        exact ⟨id,some 0,rfl,ho,rfl,.inr rfl⟩
       ·cases hx
      ·cases hx
     ·cases hx
    obtain ⟨st2fr,st2h⟩:=st
    have l:yP (zf st2h id .gone) st2h:=(yP.refl st2h).gone hat
    obtain ⟨h',e1,e2,e3⟩:=znY l (show jB false c vs ⟨st2fr,zf st2h id .gone⟩ = some (p.1,p.2) from hp)
    obtain ⟨m',F',g1,g2,g3⟩:=zek e1 h hv2
    have hat':atN h' id = some (mkO b k x):=by rw [(e3.2 id (vp hat)).2]; exact hat
    have hq:=zF.owAt hat' (zow _ _ _) (show zF P h' m' F' (.ow id) u from hv1.ext g3)
    refine ⟨F',g1.gro,g1.fok,?_⟩
    simp only [ziV]
    refine ⟨u,r,rfl,g2,?_⟩
    cases hmi:m' id with
    | none =>
     rw [hmi] at hq
     exact .inr ⟨zCN (g1.obs _ _ hat') hmi,hq.2⟩
    | some bn =>
     obtain ⟨bk,n⟩:=bn
     rw [hmi] at hq
     obtain ⟨cap,k1,k2,k3⟩:=hq
     obtain ⟨el,cs,cc,d,f1,f2,f3,f4,f5⟩:=zp6 (g1.obs _ _ hat') hmi
     refine .inl ⟨bk,cap,el,cs,cc,d,k3,k2,(g1.rng _ _ _ hmi).2.1,f1,f4,by rw [f2,k1],f3,?_⟩
     rcases hkr with rfl | rfl
     ·exact f5
     ·exact z5.toL (fun j x c _ _ hx=>by unfold DE at hx; rw [if_neg (by omega)] at hx; exact hx) (show z5 (DE P F' w (m'.d id) b 0) 0 x cc from f5)
   ·cases hz
  ·cases hz
 ·
  rename_i b c c' vs us'
  obtain ⟨hbc,hz⟩:=zb hz
  simp only [decide_eq_true_eq] at hbc
  rw [zC6] at hz
  obtain ⟨⟨x,h1⟩,hx,hz⟩:=Option.bind_eq_some_iff.1 hz
  ·split at hz
   ·rename_i p hp
    cases hz
    obtain ⟨u,r,rfl,hv1,hv2⟩:=hv
    obtain ⟨cs,rfl,hfs⟩:=(show zE P st.h m F (.fld c' vs) u from hv1)
    subst hbc
    obtain ⟨ids,k1,k2,k3,k4,k5⟩:=zAJ (fun i τ xs k ho=>(h.drowk ho).2) 0 hx (yP.refl _)
    obtain ⟨st2fr,st2h⟩:=st
    obtain ⟨h',e1,e2,e3⟩:=znY k2 (show jB false c us' ⟨st2fr,h1⟩ = some (p.1,p.2) from hp)
    obtain ⟨m',F',g1,g2,g3⟩:=zek e1 h hv2
    have hkeep:∀ f id,ids f = some id→atN h' id = atN st2h id:=fun f id hf=>(e3.2 id (k3 f id hf).2.2.1).2
    refine ⟨F',g1.gro,g1.fok,?_⟩
    simp only [ziV]
    refine ⟨.agg cs,r,cs,_,_,rfl,g2,rfl,zGr g1 (k1.heap hkeep) (hfs.ext g3),zGs g1 (fun f id hf=>?_) k5⟩
    obtain ⟨σ,k,xs,ho⟩:=(k3 f id hf).2.2.2
    exact ⟨σ,k,xs,by rw [hkeep f id hf]; exact ho⟩
   ·cases hz
 ·
  rename_i b c v us'
  rw [zC6] at hz
  obtain ⟨⟨x,h1⟩,hx,hz⟩:=Option.bind_eq_some_iff.1 hz
  ·split at hz
   ·rename_i p hp
    cases hz
    obtain ⟨u,r,rfl,hv1,hv2⟩:=hv
    obtain ⟨ids,k1,k2,k3,k4,k5⟩:=zAJ (fun i τ xs k ho=>(h.drowk ho).2) 0 hx (yP.refl _)
    obtain ⟨⟨id,rfl,hi0,hat0⟩,_⟩:=(show (∃ id,v = .ow id ∧ ids 0 = some id ∧ atN st.h id = some (mkO b _ x.1)) ∧ _ from k1)
    have hT:zaV st.h id = some b:=by rw [ztJ hat0,zow]; rfl
    have hfs:zV P st.h m F (.pair (.sl b) .unit) [.ow id] [u]:=⟨[u],[],rfl,vK.ofRow hT (show zF P st.h m F (.ow id) u from hv1),rfl⟩
    obtain ⟨st2fr,st2h⟩:=st
    obtain ⟨h',e1,e2,e3⟩:=znY k2 (show jB false c us' ⟨st2fr,h1⟩ = some (p.1,p.2) from hp)
    obtain ⟨m',F',g1,g2,g3⟩:=zek e1 h hv2
    have hkeep:∀ f id,ids f = some id→atN h' id = atN st2h id:=fun f id hf=>(e3.2 id (k3 f id hf).2.2.1).2
    refine ⟨F',g1.gro,g1.fok,?_⟩
    simp only [ziV]
    refine ⟨u,r,_,_,rfl,g2,zGr g1 (k1.heap hkeep) (hfs.ext g3),zGs g1 (fun f id hf=>?_) k5⟩
    obtain ⟨σ,k,xs,ho⟩:=(k3 f id hf).2.2.2
    exact ⟨σ,k,xs,by rw [hkeep f id hf]; exact ho⟩
   ·cases hz
 ·
  split at hz
  ·rename_i p hp
   cases hz
   obtain ⟨m',F',g1,g2,_⟩:=zek (x:=p.1) (st':=p.2) hp h hv
   exact ⟨F',g1.gro,g1.fok,g2⟩
  ·cases hz
 ·cases hz
theorem zIU (hm:P.follows .mixedOrders = true) (hE:EnvOk P G E) {fi:FuncId} {f:Func} (hf:P.funcs[fi]? = some f) {K md:Nat} {a r:Ty} {x:a.I} {y:r.I} (he:evF E K f md a r x = some y)
 {F0:FH} {w:World} {vs:List Value} (hG:G.le F0) (hk:F0.ok w) (hr:RepA P F0 a x vs) :
 Calls P fi vs.toArray w fun e w'=>∃ us F',e = .returned (zpS us) ∧ Below w.heap.size w w' ∧ F0.grow F' w.heap.size ∧ F'.ok w' ∧ ziV P F' w' w.heap.size md r y us:=by
 unfold evF at he
 cases hb:f.body with
 | none=>rw [hb] at he; cases he
 | some c =>
  rw [hb] at he
  simp only at he
  have hE':EnvOk P G { E with nt:=f.ntmps }:=⟨hE.types,hE.funs,hE.glob,hE.ext,hE.hnd⟩
  refine calls_of_wp hf hb ?_
  refine zGq (nt:=⟨f.ntmps,[],F0⟩) (F0:=F0) (w0:=w) (.inr rfl) hm hE' hG rfl c (r:=y) ?_ ⟨_,F0,Rel.enter hk hr f.ntmps⟩ he
  rintro e st a' w' ⟨m,F,h⟩ hfin
  have hdone:(cond ((f.results.toList.map (zcK { E with nt:=f.ntmps } st)).all Option.isSome) (zGH md r ((f.results.toList.map (zcK { E with nt:=f.ntmps } st)).filterMap id) st) none) = some y →
   a'.defers = [] ∧ ∃ v,(results f a'.tmps).run P w' = .ok v w' ∧ ∃ us F',Ending.returned v = .returned (zpS us) ∧ Below w.heap.size w w' ∧ F0.grow F' w.heap.size ∧ F'.ok w' ∧ ziV P F' w' w.heap.size md r y us:=by
   intro hfin
   obtain ⟨h1,h2⟩:=zb hfin
   obtain ⟨us,h3,h4⟩:=zuM hE' h (zkg h1)
   obtain ⟨F',g1,g2,g3⟩:=zIT h h4 h2
   exact ⟨h.dfr,_,h3,us,F',rfl,h.bel,g1,g2,g3⟩
  cases e with
  | normal=>exact hdone hfin
  | ret=>exact hdone hfin
  | exit id=>cases hfin
theorem jt.one {h:List Obj}:∀ {vs:List AV} {us:List Value},jt P h m F vs us→vs.all AV.one = true→zjo P h m F vs us
 | [],_,e,_=>e
 | v :: vs,_,⟨u,r,e,h1,h2⟩,ho=>by
  simp only [List.all_cons,Bool.and_eq_true] at ho
  rw [zh.eq1 (by rintro ws rfl; cases ho.1)] at h1
  exact ⟨u,r,e,h1,jt.one h2 ho.2⟩
theorem zxn:∀ {vs:List AV} {us:List Value} {h:List Obj} {m:MM} {F:FH} {i t:Nat} {v:AV},look (slots vs i) t = some v→jt P h m F vs us→i ≤ t ∧ ∃ u,us[t - i]? = some u ∧ zh P h m F v u
 | [],_,_,_,_,_,_,_,h,_=>by simp [slots,look] at h
 | x :: vs,_,hp,m,F,i,t,v,h,⟨u,r,rfl,h1,h2⟩=>by
  simp only [slots] at h
  by_cases e:i = t
  ·subst e
   simp only [look,beq_self,cond_true,Option.some.injEq] at h
   subst h
   exact ⟨Nat.le_refl _,u,by simp,h1⟩
  ·simp only [look,zaX e,cond_false] at h
   obtain ⟨g1,u',g2,g3⟩:=zxn h h2
   refine ⟨by omega,u',?_,g3⟩
   rw [show t - i = (t - (i + 1)) + 1 by omega,List.getElem?_cons_succ]
   exact g2
theorem zKV (hm:P.follows .mixedOrders = true) (hE:EnvOk P G E) {fi:FuncId} {f:Func} (hf:P.funcs[fi]? = some f) (hn:(f.name == "runtime.NumGoroutine") = false) (hb':f.body.isNone = false):zCE P G fi (zLz E f):=by
 refine ⟨⟨f,hf,hn,hb'⟩,fun args h h' v he nt F0 w0 fr m F a w vs hG hr hv=>?_⟩
 change zqc E f (AV × List Obj) args h (fun v h=>some (v,h)) = some (v,h') at he
 unfold zqc at he
 cases hb:f.body with
 | none=>rw [hb] at he; cases he
 | some c =>
  rw [hb] at he
  simp only at he
  have hE':EnvOk P G (inE E f):=⟨hE.types,hE.funs,hE.glob,hE.ext,hE.hnd⟩
  refine calls_of_wp hf hb ?_
  let up:List (AV × Value):=fr.filterMap (fun p=>(look fr p.1).map fun v=>(v,a.tmps.getD p.1 undef)) ++ nt.up
  have hup:∀ v u,(v,u) ∈ up→zh P h m F v u:=by
   intro v u hv
   rcases List.mem_append.1 hv with hv | hv
   ·obtain ⟨p,hp,e⟩:=List.mem_filterMap.1 hv
    obtain ⟨v',h1,h2⟩:=Option.map_eq_some_iff.1 e
    cases h2
    exact hr.fr _ _ h1
   ·exact hr.up v u hv
  have hst:Rel P ⟨f.ntmps,up,F⟩ F0 w0 ⟨slots args 0,h⟩ m F { tmps:=vs.toArray ++ Array.replicate (f.ntmps - vs.toArray.size) undef,defers:=[] } w:=by
   refine ⟨by simp; omega,fun t v ht=>?_,hup,.refl F,hr.obs,hr.inj,hr.rng,hr.dok,hr.din,hr.fok,hr.gro,hr.bel,rfl⟩
   obtain ⟨_,u,h2,h3⟩:=zxn ht hv
   rw [Nat.sub_zero] at h2
   have hlt:=(List.getElem?_eq_some_iff.1 h2).1
   have:(vs.toArray ++ Array.replicate (f.ntmps - vs.toArray.size) undef).getD t undef = u:=by
    rw [Array.getD_eq_getD_getElem?,Array.getElem?_append_left (by simpa using hlt)]
    simp [h2]
   rw [this]
   exact h3
  refine zGq (nt:=⟨f.ntmps,up,F⟩) (F0:=F0) (w0:=w0) (.inl rfl) hm hE' hG rfl c (r:=(v,h')) ?_ ⟨m,F,hst⟩ he
  rintro e st a' w' ⟨m',F',h2⟩ hfin
  have hdone:(cond ((f.results.toList.map (zcK (inE E f) st)).all Option.isSome && ((f.results.toList.map (zcK (inE E f) st)).filterMap id).all AV.one) (some (unT ((f.results.toList.map (zcK (inE E f) st)).filterMap id),st.h)) none) = some (v,h') →
   a'.defers = [] ∧ ∃ v1,(results f a'.tmps).run P w' = .ok v1 w' ∧ ∃ u m' F',Ending.returned v1 = .returned u ∧ F.le F' ∧ Rel P nt F0 w0 ⟨fr,h'⟩ m' F' a w' ∧ zh P h' m' F' v u:=by
   intro hfin
   obtain ⟨g1,g2⟩:=zb hfin
   rw [Bool.and_eq_true] at g1
   cases g2
   obtain ⟨us,g3,g4⟩:=zuM hE' h2 (zkg g1.1)
   refine ⟨h2.dfr,_,g3,_,m',F',rfl,h2.lo,⟨hr.nt,fun t v ht=>?_,fun v u hv=>h2.up v u (List.mem_append.2 (.inr hv)),hr.lo.trans h2.lo,h2.obs,h2.inj,h2.rng,h2.dok,h2.din,h2.fok,h2.gro,h2.bel,hr.dfr⟩,zcV (jt.one g4 g1.2)⟩
   have hmem:∀ (l:List (Nat × AV)),look l t = some v→∃ p ∈ l,p.1 = t:=by
    intro l
    induction l with
    | nil=>intro h; simp [look] at h
    | cons p l ih =>
     intro h
     obtain ⟨k,y⟩:=p
     simp only [look] at h
     cases hb:Nat.beq k t with
     | true=>exact ⟨(k,y),by simp,Nat.eq_of_beq_eq_true hb⟩
     | false=>rw [hb] at h; obtain ⟨p,hp,e⟩:=ih h; exact ⟨p,by simp [hp],e⟩
   obtain ⟨p,hp,rfl⟩:=hmem fr ht
   exact h2.up v _ (List.mem_append.2 (.inl (List.mem_filterMap.2 ⟨p,hp,by rw [ht]; rfl⟩)))
  cases e with
  | normal=>exact hdone hfin
  | ret=>exact hdone hfin
  | exit id=>cases hfin
end
end Go.Ev
end
section
namespace Go.Ev
open Go.RowKit Go.ChangeShapes
def InR:(τ:Ty)→τ.I→Prop
 | .int k,n=>(Lit.int k n).wf = true
 | .str,s=>ByteArray.size s ≤ maxLen
 | .pair a b,x=>InR a x.1 ∧ InR b x.2
 | .st a,x=>InR a x
 | .arr n a,xs=>List.length xs = n ∧ ∀ x ∈ (show List a.I from xs),InR a x
 | .sl a,xs=>List.length xs ≤ maxLen ∧ ∀ x ∈ (show List a.I from xs),InR a x
 | _,_=>True
def Ty.data:Ty→Bool
 | .bool | .int _ | .str | .unit=>true
 | .pair a b=>a.data && b.data
 | .st a=>a.data
 | .arr _ a=>a.data
 | .sl a=>a.data
 | _=>false
mutual
def dbk {H:Type}:DataW H→Nat
 | .slice elems _=>zeT elems + 1
 | .agg parts=>zeT parts + 1
 | _=>1
def zeT {H:Type}:List (DataW H)→Nat
 | []=>0
 | d :: r=>dbk d + zeT r
end
def bkI:(τ:Ty)→τ.I→Nat
 | .unit,_=>0
 | .pair a b,x=>bkI a x.1 + bkI b x.2
 | .st a,x=>bkI a x + 1
 | .arr _ a,xs=>(List.map (bkI a) xs).sum + 1
 | .sl a,xs=>(List.map (bkI a) xs).sum + 1
 | _,_=>1
def WtR:(τ:Ty)→τ.I→Prop
 | .str,s=>ByteArray.size s ≤ reachBytes
 | .pair a b,x=>WtR a x.1 ∧ WtR b x.2
 | .st a,x=>WtR a x
 | .arr _ a,xs=>∀ x ∈ (show List a.I from xs),WtR a x
 | .sl a,xs=>List.length xs * a.bts ≤ reachBytes ∧ ∀ x ∈ (show List a.I from xs),WtR a x
 | _,_=>True
theorem zvB {P:Program} {H:Type} {e:TypeId} {n:Nat} {d:DataW H}:∀ {l:List (DataW H)},d ∈ l→n ∈ DataW.weights P e d→n ∈ DataW.weightsAll P e l
 | x :: l,h,hn=>by
  simp only [DataW.weightsAll,List.mem_append]
  rcases List.mem_cons.1 h with rfl | h
  ·exact .inl hn
  ·exact .inr (zvB h hn)
theorem zC7 {α β:Type} {f:α→Option β}:∀ (l:List α) (ys:List β),l.mapM f = some ys→ys.length = l.length
 | [],ys,h=>by
  have:ys = []:=by simpa using h.symm
  subst this; rfl
 | x :: l,ys,h=>by
  rw [List.mapM_cons] at h
  simp only [Option.bind_eq_bind,Option.bind_eq_some_iff,Option.pure_def,Option.some.injEq] at h
  obtain ⟨y,_,ys',h2,rfl⟩:=h
  simp [zC7 l ys' h2]
theorem ztT {H:Type} (d:DataW H):1 ≤ dbk d:=by cases d <;> simp [dbk]
section
variable {P:Program} {H:Type} {enc:TypeId × Value→H} {w:World} {base:Nat} {sp:Nat→Bool} {held:Bool}
theorem zC8 {a:Addr} {j:Nat} {v:Value} (h:w.cell? (a.add j) = some v) (h0:a.spot = none ∨ j = 0):a.spot = none ∧ ∃ c el fz,w.heap[a.block]? = some (.cells c el fz) ∧ c[a.off + j]? = some v:=by
  have hs:a.spot = none:=by
    rcases h0 with h0 | rfl
    · exact h0
    · have:a.add 0 = a:=by unfold Addr.add; rfl
      rw [this] at h
      unfold World.cell? at h
      split at h
      · cases hsp:a.spot with
        | none=>rfl
        | some x=>rw [hsp] at h; simp at h
      · cases h
  refine ⟨hs,?_⟩
  rw [zpW hs] at h
  unfold World.cell? at h
  simp only at h
  split at h
  · rename_i c el fz hk
    exact ⟨c,el,fz,hk,by simpa using h⟩
  · cases h
theorem zC9 {a:Addr} {n:Nat} {cs:List Value} (h:w.cells? base a n = some cs) (hn:0 < n):∃ c,FH.of w a.block = some c ∧ a.spot = none ∧ ∀ (j:Nat) (v:Value),cs[j]? = some v→c[a.off + j]? = some v:=by
  obtain ⟨hb,hl,hc⟩:=World.cells?_some h
  have h0:=hc 0 hn
  rw [List.getElem?_eq_getElem (by omega)] at h0
  obtain ⟨hs,c,el,fz,hk,_⟩:=zC8 h0 (.inr rfl)
  refine ⟨c,by simp [FH.of,hk],hs,fun j v hv=>?_⟩
  have hj:=(List.getElem?_eq_some_iff.1 hv).1
  have:=hc j (by omega)
  rw [hv] at this
  obtain ⟨_,c',_,_,hk',h2⟩:=zC8 this (.inl hs)
  rw [hk] at hk'
  cases hk'
  exact h2
theorem zGt {ad:Addr} {n:Nat} (hn:0 < n) {c:Array Value} (hs:ad.spot = none) (hc:FH.of w ad.block = some c):∀ (m i0:Nat) (css:List (List Value)),((List.range' i0 m).mapM fun i=>w.cells? base (ad.add (i * n)) n) = some css →
    ∀ (j:Nat) (v:Value),css.flatten[j]? = some v→c[ad.off + i0 * n + j]? = some v
  | 0,i0,css,h,j,v,hj=>by simp at h; subst h; simp at hj
  | m + 1,i0,css,h,j,v,hj=>by
    rw [List.range'_succ,List.mapM_cons] at h
    simp only [Option.bind_eq_bind,Option.bind_eq_some_iff,Option.pure_def,Option.some.injEq] at h
    obtain ⟨cs,h1,css',h2,rfl⟩:=h
    have hl:=(World.cells?_some h1).2.1
    obtain ⟨c',h3,_,h5⟩:=zC9 h1 hn
    rw [zpW hs] at h3 h5
    simp only at h3 h5
    rw [hc] at h3
    cases h3
    rw [List.flatten_cons] at hj
    by_cases hjn:j < n
    · rw [List.getElem?_append_left (by omega)] at hj
      exact h5 j v hj
    · rw [List.getElem?_append_right (by omega),hl] at hj
      have:=zGt hn hs hc m (i0 + 1) css' h2 (j - n) v hj
      rw [show ad.off + i0 * n + j = ad.off + (i0 + 1) * n + (j - n) by rw [Nat.add_mul]; omega]
      exact this
theorem zvC {α:Type} {R:α→List Value→Prop} {f:Nat→Option (List Value)} {g:List Value→Option (DataW H × List MemPlace)} {I:α→Prop} {bk:α→Nat} {Wd:DataW H→Prop} {J:α→Prop} (hg:∀ cs y,g cs = some y→∃ x,R x cs ∧ I x ∧ bk x ≤ dbk y.1 ∧ (Wd y.1→J x)) :
    ∀ (l:List Nat) (ys:List (DataW H × List MemPlace)),(l.mapM fun i=>(f i).bind g) = some ys→∃ (xs:List α) (css:List (List Value)),xs.length = l.length ∧ l.mapM f = some css ∧ RepL R xs css.flatten ∧ (∀ x ∈ xs,I x) ∧ (xs.map bk).sum ≤ zeT (ys.map (·.1)) ∧ ((∀ d ∈ ys.map (·.1),Wd d)→∀ x ∈ xs,J x)
  | [],ys,h=>⟨[],[],rfl,rfl,rfl,by simp,Nat.zero_le _,fun _ x hx=>by cases hx⟩
  | i :: l,ys,h=>by
    rw [List.mapM_cons] at h
    simp only [Option.bind_eq_bind,Option.bind_eq_some_iff,Option.pure_def,Option.some.injEq] at h
    obtain ⟨y,⟨cs,hcs,hy⟩,ys',h2,rfl⟩:=h
    obtain ⟨x,hx,hI,hk,hJ⟩:=hg cs y hy
    obtain ⟨xs,css,h3,h4,h5,h6,h7,h8⟩:=zvC hg l ys' h2
    refine ⟨x :: xs,cs :: css,by simp [h3],?_,⟨cs,css.flatten,rfl,hx,h5⟩,?_,by simp only [List.map_cons,List.sum_cons,zeT]; omega,?_⟩
    · rw [List.mapM_cons,hcs,h4]; rfl
    · intro z hz
      rcases List.mem_cons.1 hz with rfl | hz
      · exact hI
      · exact h6 z hz
    · intro hw z hz
      rcases List.mem_cons.1 hz with rfl | hz
      · exact hJ (hw _ (by simp))
      · exact h8 (fun d hd=>hw d (by rw [List.map_cons]; exact List.mem_cons_of_mem _ hd)) z hz
theorem zoA {cs:List Value} {n:Nat}:∀ (m i0:Nat) (css:List (List Value)),(i0 + m) * n ≤ cs.length→((List.range' i0 m).mapM fun i=>some ((cs.drop (i * n)).take n)) = some css→css.flatten = (cs.drop (i0 * n)).take (m * n)
  | 0,i0,css,_,h=>by simp at h; subst h; simp
  | m + 1,i0,css,hl,h=>by
    rw [List.range'_succ,List.mapM_cons] at h
    simp only [Option.bind_eq_bind,Option.bind_some,Option.bind_eq_some_iff,Option.pure_def,Option.some.injEq] at h
    obtain ⟨css',h2,rfl⟩:=h
    have:=zoA m (i0 + 1) css' (by rw [show i0 + 1 + m = i0 + (m + 1) by omega]; exact hl) h2
    rw [List.flatten_cons,this,Nat.add_mul i0 1 n,Nat.one_mul,← List.drop_drop,show (m + 1) * n = n + m * n by rw [Nat.add_mul]; omega,List.take_add]
theorem zJY:∀ (τ:Ty),τ.data = true →
    (∀ (fuel:Nat) (t:TypeId) (cs:List Value) (x:DataW H × List MemPlace),τ.np = true→zW P t τ→DataW.trod enc P w base sp held fuel t cs = some x→∃ y,Rep P (FH.of w) τ y cs ∧ InR τ y ∧ bkI τ y ≤ dbk x.1 ∧ ((∀ n ∈ DataW.weights P t x.1,n ≤ reachBytes)→WtR τ y)) ∧
    (∀ (fuel:Nat) (fs:List Field) (off:Nat) (cs:List Value) (xs:List (DataW H × List MemPlace)),(tyB P τ).2 fs off = true→(fs.mapM fun f=>DataW.trod enc P w base sp held fuel f.type ((cs.drop f.offset).take (P.cellsOf f.type))) = some xs→cs.length = off + nc τ→∃ y,Rep P (FH.of w) τ y (cs.drop off) ∧ InR τ y ∧ bkI τ y ≤ zeT (xs.map (·.1)) ∧ ((∀ n ∈ DataW.weightsEach P (fs.map (·.type)) (xs.map (·.1)),n ≤ reachBytes)→WtR τ y)):=by
  intro τ
  induction τ with
  | unit =>
    intro _
    refine ⟨fun fuel t cs x _ h=>(by cases h),fun fuel fs off cs xs h _ hl=>⟨(),?_,trivial,Nat.zero_le _,fun _=>trivial⟩⟩
    show cs.drop off = []
    rw [List.drop_eq_nil_iff]
    simp only [nc] at hl
    omega
  | bool =>
    intro _
    refine ⟨fun fuel t cs x _ h hx=>?_,fun fuel fs off cs xs h=>(by cases h)⟩
    have hu:P.underlying t = some .bool:=by
      simp only [zW,tyB,Bool.and_eq_true] at h
      have:=h.2
      split at this
      · assumption
      · cases this
    cases fuel with
    | zero=>simp [DataW.trod] at hx
    | succ fuel =>
      unfold DataW.trod at hx
      rw [hu] at hx
      split at hx <;> first | (cases hx; done) | skip
      all_goals first | exact ⟨_,rfl,trivial,ztT _,fun _=>trivial⟩ | (rename_i hh; simp at hh)
  | int k =>
    intro _
    refine ⟨fun fuel t cs x _ h hx=>?_,fun fuel fs off cs xs h=>(by cases h)⟩
    have hu:P.underlying t = some (.int k):=by
      simp only [zW,tyB,Bool.and_eq_true] at h
      have:=h.2
      split at this
      · simp only [decide_eq_true_eq] at this; subst this; assumption
      · cases this
    cases fuel with
    | zero=>simp [DataW.trod] at hx
    | succ fuel =>
      unfold DataW.trod at hx
      rw [hu] at hx
      split at hx <;> first | (cases hx; done) | skip
      · rename_i hh; cases hh
      · rename_i k1 k2 n hh
        cases hh
        split at hx
        · rename_i hc; obtain ⟨rfl,hw⟩:=hc; exact ⟨n,rfl,hw,ztT _,fun _=>trivial⟩
        · cases hx
      all_goals (rename_i hh; simp at hh)
  | str =>
    intro _
    refine ⟨fun fuel t cs x _ h hx=>?_,fun fuel fs off cs xs h=>(by cases h)⟩
    have hu:P.underlying t = some .string:=by
      simp only [zW,tyB,Bool.and_eq_true] at h
      have:=h.2
      split at this
      · assumption
      · cases this
    cases fuel with
    | zero=>simp [DataW.trod] at hx
    | succ fuel =>
      unfold DataW.trod at hx
      rw [hu] at hx
      split at hx <;> first | (cases hx; done) | skip
      all_goals first
        | (rename_i hh; simp at hh; done)
        | (rename_i s hh; split at hx; · rename_i hc; cases hx; exact ⟨s,rfl,hc,ztT _,fun hw=>by have:=hw s.data.toList.length (by simp [DataW.weights]); exact this⟩
           · cases hx)
        | skip
  | pair a b iha ihb =>
    intro hd
    simp only [Ty.data,Bool.and_eq_true] at hd
    refine ⟨fun fuel t cs x _ h hx=>?_,fun fuel fs off cs xs h hx hl=>?_⟩
    · rename_i hnp; cases hnp
    · cases fs with
      | nil=>cases h
      | cons f fs =>
        simp only [tyB,Bool.and_eq_true] at h
        obtain ⟨⟨⟨⟨h1,h2⟩,h3⟩,_⟩,h4⟩:=h
        obtain rfl:=Nat.eq_of_beq_eq_true h1
        obtain ⟨i,hi,hsz⟩:=zW.size h2 (Ty.np_spec h3.2)
        rw [List.mapM_cons] at hx
        simp only [Option.bind_eq_bind,Option.bind_eq_some_iff,Option.pure_def,Option.some.injEq] at hx
        obtain ⟨x1,hx1,xs2,hx2,rfl⟩:=hx
        have hcells:P.cellsOf f.type = nc a:=by unfold Program.cellsOf; rw [hi]; exact hsz
        rw [hcells] at hx1
        obtain ⟨y1,g1,g2,b1,c1⟩:=(iha hd.1).1 fuel f.type _ x1 h3.2 h2 hx1
        simp only [nc] at hl
        obtain ⟨y2,g3,g4,b2,c2⟩:=(ihb hd.2).2 fuel fs (f.offset + nc a) cs xs2 h4 hx2 (by omega)
        refine ⟨(y1,y2),⟨_,_,?_,g1,g3⟩,⟨g2,g4⟩,by simp only [bkI,List.map_cons,zeT]; omega,fun hw=>?_⟩
        rotate_left
        · simp only [List.map_cons,DataW.weightsEach,List.mem_append] at hw
          exact ⟨c1 fun n hn=>hw n (.inl hn),c2 fun n hn=>hw n (.inr hn)⟩
        rw [← List.drop_drop,List.take_append_drop]
  | st a iha =>
    intro hd
    refine ⟨fun fuel t cs x _ h hx=>?_,fun fuel fs off cs xs h=>(by cases h)⟩
    obtain ⟨fs,hu,hf,_⟩:=zW.st h
    obtain ⟨i,hi,hsz⟩:=zW.size h (by intro a b e; cases e)
    have hcells:P.cellsOf t = nc a:=by unfold Program.cellsOf; rw [hi]; exact hsz
    cases fuel with
    | zero=>simp [DataW.trod] at hx
    | succ fuel =>
      unfold DataW.trod at hx
      rw [hu] at hx
      simp only at hx
      split at hx
      · rename_i hl
        simp only [Option.map_eq_some_iff] at hx
        obtain ⟨xs,hx,rfl⟩:=hx
        obtain ⟨y,g1,g2,b1,c1⟩:=(iha hd).2 fuel fs.toList 0 cs xs hf hx (by omega)
        refine ⟨y,g1,g2,by simp only [bkI,dbk]; omega,fun hw=>c1 ?_⟩
        simp only [DataW.weights,hu] at hw
        exact hw
      · cases hx
  | arr n a iha =>
    intro hd
    refine ⟨fun fuel t cs x _ h hx=>?_,fun fuel fs off cs xs h=>(by cases h)⟩
    obtain ⟨e,hu,he,hpos,hnp,_⟩:=zW.arr h
    obtain ⟨i,hi,hsz⟩:=zW.size h (by intro a b e; cases e)
    obtain ⟨ie,hie,hsze⟩:=zW.size he (Ty.np_spec hnp)
    have hcells:P.cellsOf t = n * nc a:=by unfold Program.cellsOf; rw [hi]; exact hsz
    have hcellse:P.cellsOf e = nc a:=by unfold Program.cellsOf; rw [hie]; exact hsze
    cases fuel with
    | zero=>simp [DataW.trod] at hx
    | succ fuel =>
      unfold DataW.trod at hx
      rw [hu] at hx
      simp only at hx
      split at hx
      · rename_i hl
        simp only [Option.map_eq_some_iff] at hx
        obtain ⟨xs,hx,rfl⟩:=hx
        rw [hcellse] at hx
        obtain ⟨ys,css,h1,h2,h3,h4,h5,h6⟩:=zvC (bk:=bkI a) (Wd:=fun d=>∀ n ∈ DataW.weights P e d,n ≤ reachBytes) (J:=WtR a) (f:=fun i=>some ((cs.drop (i * nc a)).take (nc a))) (g:=DataW.trod enc P w base sp held fuel e) (R:=Rep P (FH.of w) a) (I:=InR a) (fun cs y hy=>(iha hd).1 fuel e cs y hnp he hy) (List.range n) xs hx
        rw [List.range_eq_range'] at h2
        have:=zoA n 0 css (by rw [Nat.zero_add]; omega) h2
        rw [this] at h3
        simp only [Nat.zero_mul,List.drop_zero] at h3
        rw [List.take_of_length_le (by omega)] at h3
        refine ⟨ys,⟨by simpa using h1,h3⟩,⟨by simpa using h1,h4⟩,by simp only [bkI,dbk]; omega,fun hw=>h6 fun d hd n hn=>?_⟩
        simp only [DataW.weights,hu] at hw
        exact hw n (zvB hd hn)
      · cases hx
  | sl a iha =>
    intro hd
    refine ⟨fun fuel t cs x _ h hx=>?_,fun fuel fs off cs xs h=>(by cases h)⟩
    obtain ⟨e,hu,he,hpos,hnp⟩:=zW.sl h
    obtain ⟨ie,hie,hsze⟩:=zW.size he (Ty.np_spec hnp)
    have hcellse:P.cellsOf e = nc a:=by unfold Program.cellsOf; rw [hie]; exact hsze
    cases fuel with
    | zero=>simp [DataW.trod] at hx
    | succ fuel =>
      unfold DataW.trod at hx
      rw [hu] at hx
      split at hx <;> first | (cases hx; done) | skip
      all_goals first
        | (rename_i hh; cases hh; done)
        | exact ⟨[],⟨_,0,rfl,Nat.le_refl _,fun hne=>absurd rfl hne⟩,⟨Nat.zero_le _,fun x hx=>(by cases hx)⟩,ztT _,fun _=>⟨by simp,fun x hx=>(by cases hx)⟩⟩
        | skip
      rename_i e' ad len cap heq
      simp only [Option.some.injEq,TypeDesc.slice.injEq] at heq
      subst heq
      simp only at hx
      split at hx
      · rename_i hc
        simp only [Option.bind_eq_some_iff] at hx
        obtain ⟨elems,hx,hx2⟩:=hx
        rw [hcellse] at hx
        obtain ⟨ys,css,h1,h2,h3,h4,h5,h6⟩:=zvC (bk:=bkI a) (Wd:=fun d=>∀ n ∈ DataW.weights P e d,n ≤ reachBytes) (J:=WtR a) (f:=fun i=>w.cells? base (ad.add (i * nc a)) (nc a)) (g:=DataW.trod enc P w base sp held fuel e) (R:=Rep P (FH.of w) a) (I:=InR a) (fun cs y hy=>(iha hd).1 fuel e cs y hnp he hy) (List.range len) elems hx
        rw [List.length_range] at h1
        refine ⟨ys,⟨some ad,cap,by rw [h1],by rw [h1]; exact hc.2.1,fun hne=>?_⟩,⟨(show ys.length ≤ maxLen by omega),h4⟩,?_,fun hw=>?_⟩
        rotate_left
        · obtain ⟨rest,-,rfl⟩:=Option.map_eq_some_iff.1 hx2
          simp only [bkI,dbk]; omega
        · obtain ⟨rest,-,rfl⟩:=Option.map_eq_some_iff.1 hx2
          simp only [DataW.weights,hu,List.mem_cons,List.mem_append] at hw
          have hel:=zC7 _ _ hx
          rw [List.length_range] at hel
          have hb:=he.bts (Ty.np_spec hnp)
          refine ⟨?_,h6 fun d hd n hn=>hw n (.inr (.inl (zvB hd hn)))⟩
          have h9:=hw _ (.inl rfl)
          rw [hb,List.length_map,hel] at h9
          refine Nat.le_trans (Nat.mul_le_mul_right _ ?_) h9
          rw [h1]; exact Nat.le_add_right _ _
        have hlen:0 < len:=by
          rw [← h1]
          exact List.length_pos_iff.2 hne
        rw [List.range_eq_range'] at h2
        obtain ⟨m,rfl⟩:∃ m,len = m + 1:=⟨len - 1,by omega⟩
        have h2':=h2
        rw [List.range'_succ,List.mapM_cons] at h2'
        simp only [Option.bind_eq_bind,Option.bind_eq_some_iff,Option.pure_def,Option.some.injEq] at h2'
        obtain ⟨cs0,g1,_⟩:=h2'
        rw [Nat.zero_mul,show ad.add 0 = ad from rfl] at g1
        obtain ⟨c,g2,g3,g4⟩:=zC9 g1 hpos
        refine ⟨ad,css.flatten,rfl,⟨g3,c,g2,fun j v hv=>?_⟩,h3⟩
        have:=zGt hpos g3 g2 (m + 1) 0 css h2 j v hv
        simpa using this
      · cases hx
  | ptr a=>intro hd; cases hd
  | fn a b=>intro hd; cases hd
def tyL (P:Program):Ty→List TypeId→Bool
  | .unit,[]=>true
  | .pair a b,t :: ts=>(tyB P a).1 t && a.np && a.data && tyL P b ts
  | _,_=>false
theorem zuN:∀ {τ:Ty} {ts:List TypeId} {vs:List Value} {ds:List (DataW H)} {ps:List MemPlace},tyL P τ ts = true→DataW.TrodAll enc P w base sp held ts vs ds ps→(∀ (j:Nat) (t:TypeId) (v:Value),ts[j]? = some t→vs[j]? = some v→∃ W r b,Value.okWide P W r b t v) →
    ∃ x,RepA P (FH.of w) τ x vs ∧ InR τ x ∧ bkI τ x ≤ zeT ds ∧ ((∀ n ∈ DataW.weightsEach P ts ds,n ≤ reachBytes)→WtR τ x)
  | .unit,[],[],[],ps,_,_,_=>⟨(),rfl,trivial,Nat.zero_le _,fun _=>trivial⟩
  | .pair a b,t :: ts,v :: vs,d :: ds,ps,h,hr,hf=>by
    simp only [tyL,Bool.and_eq_true] at h
    obtain ⟨⟨⟨h1,h2⟩,h3⟩,h4⟩:=h
    obtain ⟨p,q,⟨fuel,h5⟩,h6,_⟩:=hr
    obtain ⟨y,g1,g2,b1,c1⟩:=(zJY a h3).1 fuel t v.cells.toList (d,p) h2 h1 h5
    obtain ⟨x,g3,g4,b2,c2⟩:=zuN h4 h6 fun j t v ht hv=>hf (j + 1) t v (by simpa using ht) (by simpa using hv)
    refine ⟨(y,x),⟨v,vs,rfl,g1,?_,g3⟩,⟨g2,g4⟩,by simp only [bkI,zeT]; exact Nat.add_le_add b1 b2,fun hw=>by
      simp only [DataW.weightsEach,List.mem_append] at hw
      exact ⟨c1 fun n hn=>hw n (.inl hn),c2 fun n hn=>hw n (.inr hn)⟩⟩
    obtain ⟨W,r,b0,hform⟩:=hf 0 t v rfl rfl
    obtain ⟨de,hu,hagg⟩:=zW.isAgg h1
    unfold Value.okWide at hform
    rw [hu] at hform
    rw [← hagg]
    have hno:∀ cs,v = .agg cs→Cell.okWide P W r b0 t v→(match de with | .struct _ | .array _ _=>true | _=>false) = false→False:=by
      rintro cs rfl hc hde
      unfold Cell.okWide at hc
      rw [hu] at hc
      cases de <;> simp [Cell.ok,hu] at hc hde
    cases de <;> simp only at hform hno ⊢
    case struct=>obtain ⟨cs,rfl,_⟩:=hform; rfl
    case array=>obtain ⟨cs,rfl,_⟩:=hform; rfl
    all_goals (cases v <;> first | rfl | exact (hno _ rfl hform trivial).elim)
  | .unit,[],[],_ :: _,_,_,h,_=>h.elim
  | .unit,[],_ :: _,_,_,_,h,_=>(by cases h)
  | .unit,_ :: _,_,_,_,h,_,_=>(by cases h)
  | .pair _ _,[],_,_,_,h,_,_=>(by cases h)
  | .pair _ _,_ :: _,[],_,_,_,h,_=>(by cases h)
  | .pair _ _,_ :: _,_ :: _,[],_,_,h,_=>(by cases h)
  | .bool,_,_,_,_,h,_,_=>(by cases h)
  | .int _,_,_,_,_,h,_,_=>(by cases h)
  | .str,_,_,_,_,h,_,_=>(by cases h)
  | .st _,_,_,_,_,h,_,_=>(by cases h)
  | .arr _ _,_,_,_,_,h,_,_=>(by cases h)
  | .sl _,_,_,_,_,h,_,_=>(by cases h)
  | .ptr _,_,_,_,_,h,_,_=>(by cases h)
  | .fn _ _,_,_,_,_,h,_,_=>(by cases h)
theorem zqV {W W':World} (hl:laidOutB P = true) (hb:Below W.heap.size W W'):∀ {ts:List TypeId} {vs:List Value} {ds:List (DataW H)} {ps:List MemPlace},
    (∀ t ∈ ts,P.readableRec t = true ∧ t < P.types.size)→DataW.TrodAll enc P W 0 (fun _=>true) true ts vs ds ps→(∀ x ∈ ps,x.block < W.heap.size)→∀ s:Nat→Bool,(∀ p ∈ ps,s p.block = true)→DataW.TrodAll enc P W' 0 s true ts vs ds ps
  | [],[],[],ps,_,h,_,s,_=>h
  | t :: ts,v :: vs,d :: ds,ps,ht,⟨p,q,h1,h2,e⟩,hlt,s,hs=>by
    subst e
    have h0:=ht t (by simp)
    refine ⟨p,q,?_,zqV hl hb (fun t' h'=>ht t' (by simp [h'])) h2 (fun x hx=>hlt x (by simp [hx])) s (fun x hx=>hs x (by simp [hx])),rfl⟩
    exact WideElems.Trod_stays hl h0.1 h0.2 h1 (fun x hx=>hb.same (hlt x (by simp [hx]))) (fun x hx=>hs x (by simp [hx]))
  | [],[],_ :: _,_,_,h,_,_,_=>h.elim
  | [],_ :: _,_,_,_,h,_,_,_=>h.elim
  | _ :: _,[],_,_,_,h,_,_,_=>h.elim
  | _ :: _,_ :: _,[],_,_,h,_,_,_=>h.elim
end
section
variable {P:Program} {H:Type} {enc:TypeId × Value→H}
theorem law_contractW {fi:FuncId} {f:Func} {a:Ty} {tb:TypeId} {spec:ChangeSpec} {W:World} {base:Nat} {args:Array Value} {ds gs:List (DataW H)} {before:List MemPlace}
 (hl:laidOutB P = true) (hts:∀ t ∈ f.params.toList,P.readableRec t = true ∧ t < P.types.size) (hty:tyL P a f.params.toList = true) (hres:f.resultTypes = #[tb]) (hbool:P.underlying tb = some .bool) (hvars:spec.vars = [])
 (hfn:∀ ds:List (DataW H),ds.length = f.params.size→spec.fn H ds = { results:=[.lit (.bool true)],args:=ds })
 (hval:∀ (j:Nat) t v,f.params[j]? = some t→args[j]? = some v→Value.okWide P W .any base t v)
 (hW:DataW.Whole enc P f.params.toList spec.vars false W args.toList ds gs before)
 (hcall:∀ x,InR a x→bkI a x ≤ zeT ds→((∀ n ∈ DataW.weightsEach P f.params.toList ds,n ≤ reachBytes)→WtR a x)→RepA P (FH.of W) a x args.toList→Calls P fi args W fun e W'=>e = .returned (.bool true) ∧ Below W.heap.size W W') :
 Calls P fi args W fun e W'=>∃ v,e = .returned v ∧ spec.post enc P f false true false false W args v W':=by
 have hW':=hW
 obtain ⟨p,q,hA,hV,rfl,hfz,hnd⟩:=hW
 rw [hvars] at hV
 obtain ⟨rfl,rfl⟩:=trodVars_none hV
 have hlt:∀ x ∈ p,x.block < W.heap.size:=fun x hx=>by simpa using hW'.lt x (by simp [hx])
 obtain ⟨x,hx,hin,hbk,hwt⟩:=zuN (w:=W) hty hA fun j t v ht hv=>⟨W,.any,base,hval j t v (by rw [← Array.getElem?_toList]; exact ht) (by rw [← Array.getElem?_toList]; exact hv)⟩
 have hlen:∀ {ts:List TypeId} {vs:List Value} {ds:List (DataW H)} {ps:List MemPlace},DataW.TrodAll enc P W 0 (fun _=>true) true ts vs ds ps→ds.length = ts.length:=by
  intro ts
  induction ts with
  | nil=>intro vs ds ps h; cases vs <;> cases ds <;> first | rfl | exact h.elim
  | cons t ts ih=>intro vs ds ps h; cases vs <;> cases ds <;> first | exact h.elim | (obtain ⟨_,_,_,h2,_⟩:=h; simp [ih h2])
 have hfn':=hfn ds (by rw [hlen hA]; simp)
 refine (hcall x hin hbk hwt hx).mono fun e W' ⟨he,hb⟩=>?_
 subst he
 simp only [List.append_nil] at *
 refine ⟨_,rfl,ds,[],p,[],p,[],hW',?_,?_,?_,hb.frame _,fun h=>(by cases h)⟩
 ·rw [List.append_nil,hfn',hres]
  exact trodAll_cons_mk (shut_bool hbool _) trodAll_mk0
 ·rw [List.append_nil,hfn']
  exact zqV hl hb hts hA hlt _ (fun x hx=>by simpa using hlt x hx)
 ·rw [List.append_nil,hfn',hvars]
  rfl
theorem law_contract {fi:FuncId} {f:Func} {a:Ty} {tb:TypeId} {spec:ChangeSpec} {W:World} {base:Nat} {args:Array Value} {ds gs:List (DataW H)} {before:List MemPlace}
 (hl:laidOutB P = true) (hts:∀ t ∈ f.params.toList,P.readableRec t = true ∧ t < P.types.size) (hty:tyL P a f.params.toList = true) (hres:f.resultTypes = #[tb]) (hbool:P.underlying tb = some .bool) (hvars:spec.vars = [])
 (hfn:∀ ds:List (DataW H),ds.length = f.params.size→spec.fn H ds = { results:=[.lit (.bool true)],args:=ds })
 (hval:∀ (j:Nat) t v,f.params[j]? = some t→args[j]? = some v→Value.okWide P W .any base t v)
 (hW:DataW.Whole enc P f.params.toList spec.vars false W args.toList ds gs before)
 (hcall:∀ x,InR a x→bkI a x ≤ zeT ds→RepA P (FH.of W) a x args.toList→Calls P fi args W fun e W'=>e = .returned (.bool true) ∧ Below W.heap.size W W') :
 Calls P fi args W fun e W'=>∃ v,e = .returned v ∧ spec.post enc P f false true false false W args v W' :=
 law_contractW hl hts hty hres hbool hvars hfn hval hW fun x h1 h2 _ h3=>hcall x h1 h2 h3
end
end Go.Ev
end
section
namespace Go.Ev
open Go.RowKit
section
variable {P:Program} {G:FH} {E:Env}
theorem zkd.mk (hm:P.follows .mixedOrders = true) (hE:EnvOk P G E) {fi:FuncId} {f:Func} (hf:P.funcs[fi]? = some f) (hn:(f.name == "runtime.NumGoroutine") = false) (hb:f.body.isNone = false)
 {F:Fun} (h:∀ x y,F.spec x = some y→∃ K,evF E K f F.md F.a F.r x = some y):zkd P G fi F:=by
 refine ⟨⟨f,hf,hn,hb⟩,fun x y hy F0 w vs hG hk hr=>?_⟩
 obtain ⟨K,he⟩:=h x y hy
 exact zIU hm hE hf he hG hk hr
theorem EnvOk.nil {types:TT} {nt:Nat} {dp:Bool} (ht:types.all (fun k τ=>(tyB P τ).1 k) = true) {glob:List (Nat × AV)} (hg:∀ g v,look glob g = some v→∃ τ x cs,v = .dat (.ptr τ) (some x) ∧ At G ⟨g,0,none⟩ cs ∧ Rep P G τ x cs) {ext:List (Nat × Bool)} {jn:List Nat} (hx:∀ f add,look ext f = some add→ExtOk P f add):EnvOk P G ⟨types,[],glob,nt,dp,ext,jn,fun _=>none,false,false⟩ :=
 ⟨fun t τ h=>TT.all_look ht h,fun f F h=>by simp [look] at h,hg,hx,fun f H h=>by cases h⟩
theorem EnvOk.deep (hE:EnvOk P G E) (d:Bool):EnvOk P G { E with deep:=d }:=⟨hE.types,hE.funs,hE.glob,hE.ext,hE.hnd⟩
theorem EnvOk.cons (hE:EnvOk P G E) {fi:FuncId} {F:Fun} (h:zkd P G fi F):EnvOk P G { E with funs:=(fi,F) :: E.funs }:=by
 refine ⟨hE.types,fun f F' h'=>?_,hE.glob,hE.ext,hE.hnd⟩
 simp only [look] at h'
 cases hb:Nat.beq fi f with
 | true =>
  rw [hb] at h'
  simp only [cond_true,Option.some.injEq] at h'
  subst h'
  rw [← Nat.eq_of_beq_eq_true hb]
  exact h
 | false=>rw [hb] at h'; exact hE.funs f F' h'
end
end Go.Ev
end
section
namespace Go.Ev
theorem zDa {n:Nat} (h:n ≤ Go.maxLen):IntKind.wrap .i64 (n:Int) = (n:Int):=by
 unfold Go.maxLen at h
 exact IntWalk.i64_in _ (by omega)
def qB {α:Type} (p:α→Bool):List α→Int→Int
 | [],_=>-1
 | x :: xs,i=>cond (p x) i (qB p xs (i + 1))
theorem zqd {α:Type} {p:α→Bool}:∀ (xs:List α) (i:Int),0 ≤ i→decide (qB p xs i ≥ 0) = xs.any p
 | [],_,_=>rfl
 | x :: xs,i,h=>by
  have ih:=zqd (p:=p) xs (i + 1) (by omega)
  simp only [qB,List.any_cons]
  by_cases hp:p x = true
  ·simp [hp,h]
  ·simp only [Bool.not_eq_true] at hp
   simp only [hp,cond_false,Bool.false_or]
   exact ih
end Go.Ev
end
section
namespace Go.Ev
theorem zxo {i len:Nat} (h:i < len) (hl:len ≤ Go.maxLen):IntKind.wrap .i64 ((i:Int) + 1) = (i:Int) + 1:=by
 rw [show (i:Int) + 1 = ((i + 1:Nat):Int) by omega]
 exact zDa (by omega)
theorem zaJ {α:Type} {l:List α} {i:Nat} (d:α) (h:i < l.length):l.drop i = l.getD i d :: l.drop (i + 1):=by
 rw [List.drop_eq_getElem_cons h]
 simp [List.getD,h]
theorem zJZ {σ ρ:Type} {L:Nat→Int→σ→Option ρ} {len:Nat} (hl:len ≤ Go.maxLen) (F:Nat→σ→Option ρ) (I:Nat→σ→Prop)
 (hstep:∀ n i s,i < len→I i s→(∀ s',I (i + 1) s'→L n ((i:Int) + 1) s' = F (i + 1) s')→L (n + 1) (i:Int) s = F i s)
 (hend:∀ n s,I len s→L (n + 1) (len:Int) s = F len s) :
 ∀ (k i n:Nat) (s:σ),i + k = len→k < n→I i s→L n (i:Int) s = F i s:=by
 intro k
 induction k with
 | zero =>
  intro i n s hi hn hI
  obtain ⟨m,rfl⟩:∃ m,n = m + 1:=⟨n - 1,by omega⟩
  obtain rfl:i = len:=by omega
  exact hend m s hI
 | succ k ih =>
  intro i n s hi hn hI
  obtain ⟨m,rfl⟩:∃ m,n = m + 1:=⟨n - 1,by omega⟩
  refine hstep m i s (by omega) hI fun s' hI'=>?_
  have:=ih (i + 1) m s' (by omega) (by omega) hI'
  rw [show (i:Int) + 1 = ((i + 1:Nat):Int) by omega]
  exact this
theorem zIV {σ ρ:Type} {L:Nat→Int→σ→Option ρ} {len:Nat} (hl:len ≤ Go.maxLen) (F:Nat→σ→Option ρ) (I:Nat→σ→Prop)
 (hstep:∀ n i s,i < len→I i s→(∀ s',I (i + 1) s'→L n ((i:Int) + 1) s' = F (i + 1) s')→L (n + 1) (i:Int) s = F i s)
 (hend:∀ n s,I len s→L (n + 1) (len:Int) s = F len s) (n:Nat) (hn:len < n) (s:σ) (h0:I 0 s):L n 0 s = F 0 s :=
 zJZ hl F I hstep hend len 0 n s (by omega) hn h0
end Go.Ev
end
section
namespace Go.Ev
abbrev Fnc (A R:Ty):Type:=A.I→Option R.I
def zl {σ ρ:Type} (B:(σ→Option ρ)→σ→Option ρ):Nat→σ→Option ρ
 | 0,_=>none
 | n + 1,s=>B (zl B n) s
noncomputable def evV {σ:Type} (E:Env) (K:Nat) (f:Func) (md:Nat) (R:Ty) (p ns:List Nat) (S:σ→St) (n:Nat):σ→Option R.I:=fun s=>evL E K f md R p ns n (S s)
theorem zDb {E:Env} {K:Nat} {f:Func} {md:Nat} {R:Ty} {p ns:List Nat} {st:St}:evL E K f md R p ns 0 st = none:=by
 unfold evL
 split
 ·split <;> rfl
 ·rfl
theorem zt {σ:Type} {E:Env} {K:Nat} {f:Func} {md:Nat} {R:Ty} {p ns:List Nat} {S:σ→St} {B:(σ→Option R.I)→σ→Option R.I}
 (h:∀ n s,evV E K f md R p ns S (n + 1) s = B (evV E K f md R p ns S n) s):∀ n,evV E K f md R p ns S n = zl B n
 | 0=>by funext s; exact zDb
 | n + 1=>by funext s; rw [h,zt h n]; rfl
theorem zhb {σ τ:Type} {E:Env} {K:Nat} {f:Func} {md:Nat} {R:Ty} {p ns:List Nat} {S:σ→St} {B:(τ→Option R.I)→(σ→Option R.I)→σ→Option R.I} {V1:Nat→τ→Option R.I} {W1:(σ→Option R.I)→τ→Option R.I}
 (h1:∀ n,V1 n = W1 (evV E K f md R p ns S n)) (h:∀ n s,evV E K f md R p ns S (n + 1) s = B (V1 n) (evV E K f md R p ns S n) s):∀ n,evV E K f md R p ns S n = zl (fun k=>B (W1 k) k) n :=
 zt fun n s=>by rw [← h1]; exact h n s
def zxp {σ τ ρ:Type} (B0:(τ→Option ρ)→σ→Option ρ) (B1:(τ→Option ρ)→τ→Option ρ):Nat→σ→Option ρ
 | 0,_=>none
 | n + 1,s=>B0 (zl B1 n) s
theorem zIW {σ τ:Type} {E:Env} {K:Nat} {f:Func} {md:Nat} {R:Ty} {p ns:List Nat} {S0:σ→St} {S1:τ→St} {B0:(τ→Option R.I)→σ→Option R.I} {B1:(τ→Option R.I)→τ→Option R.I}
 (h1:∀ n,evV E K f md R p ns S1 n = zl B1 n) (h:∀ n s,evV E K f md R p ns S0 (n + 1) s = B0 (evV E K f md R p ns S1 n) s):∀ n,evV E K f md R p ns S0 n = zxp B0 B1 n
 | 0=>by funext s; exact zDb
 | n + 1=>by funext s; rw [h,h1]; rfl
theorem tr1 {α X Y:Type} {T:α→X→Y} {V W:α} (h:V = W) {F:X→Y} (hx:∀ x,F x = T V x):F = T W:=by subst h; funext x; exact hx x
def En (E:Env) (d:Bool) (l:List Fun):Env:=⟨E.types,l.map fun F=>(F.id,F),E.glob,0,d,E.ext,[],fun _=>none,false,false⟩
def Ej (E:Env) (d:Bool) (js:List Nat) (l:List Fun):Env:=⟨E.types,l.map fun F=>(F.id,F),E.glob,0,d,E.ext,js,fun _=>none,false,js.any (Nat.beq 999999)⟩
def Sd (P:Program) (E:Env) (F:Fun):Prop:=∀ G,EnvOk P G E→zkd P G F.id F
def Sds (P:Program) (E:Env):List Fun→Prop
 | []=>True
 | F :: l=>Sd P E F ∧ Sds P E l
def jz (f:Func):Bool:=!(f.name == "runtime.NumGoroutine") && !f.body.isNone
theorem Sds.env {P:Program} {E:Env} {l:List Fun} {d:Bool} {G:FH} (h:Sds P E l) (hE:EnvOk P G E):EnvOk P G (En E d l):=by
 refine ⟨hE.types,?_,hE.glob,hE.ext,fun f H h=>by cases h⟩
 intro f F hf
 have key:∀ l:List Fun,Sds P E l→look (l.map fun F=>(F.id,F)) f = some F→zkd P G f F:=by
  intro l
  induction l with
  | nil=>intro _ h; cases h
  | cons F' l ih =>
   intro hs hl
   simp only [List.map_cons,look] at hl
   cases hb:Nat.beq F'.id f with
   | true =>
    rw [hb] at hl
    cases hl
    rw [← Nat.eq_of_beq_eq_true hb]
    exact hs.1 G hE
   | false=>rw [hb] at hl; exact ih hs.2 hl
 exact key l h hf
theorem Sds.envJ {P:Program} {E:Env} {l:List Fun} {d:Bool} {js:List Nat} {G:FH} (h:Sds P E l) (hE:EnvOk P G E):EnvOk P G (Ej E d js l) :=
 have h':=h.env (d:=d) hE
 ⟨h'.types,h'.funs,h'.glob,h'.ext,fun f H h=>by cases h⟩
theorem Sd.mkJ {P:Program} {E:Env} {l:List Fun} {d:Bool} {js:List Nat} {F:Fun} {f:Func} {K:Nat} (hm:P.follows .mixedOrders = true) (hl:Sds P E l) (hf:P.funcs[F.id]? = some f) (ho:jz f = true)
 (h:evF (Ej E d js l) K f F.md F.a F.r = F.spec):Sd P E F:=by
 intro G hE
 unfold jz at ho
 simp only [Bool.and_eq_true,Bool.not_eq_true'] at ho
 exact zkd.mk hm (hl.envJ hE) hf ho.1 ho.2 fun x y hy=>⟨K,by rw [h]; exact hy⟩
theorem Sd.mk {P:Program} {E:Env} {l:List Fun} {d:Bool} {F:Fun} {f:Func} {K:Nat} (hm:P.follows .mixedOrders = true) (hl:Sds P E l) (hf:P.funcs[F.id]? = some f) (ho:jz f = true)
 (h:evF (En E d l) K f F.md F.a F.r = F.spec):Sd P E F:=by
 intro G hE
 unfold jz at ho
 simp only [Bool.and_eq_true,Bool.not_eq_true'] at ho
 exact zkd.mk hm (hl.env hE) hf ho.1 ho.2 fun x y hy=>⟨K,by rw [h]; exact hy⟩
def FOk (P:Program):List (Nat × Func)→Prop
 | []=>True
 | p :: l=>(P.funcs[p.1]? = some p.2 ∧ jz p.2 = true) ∧ FOk P l
theorem FOk.look {P:Program}:∀ {l:List (Nat × Func)} {i:Nat} {f:Func},FOk P l→look l i = some f→P.funcs[i]? = some f ∧ jz f = true
 | (j,g) :: l,i,f,h,hl=>by
  simp only [Go.Ev.look] at hl
  cases hb:Nat.beq j i with
  | true=>rw [hb] at hl; cases hl; rw [← Nat.eq_of_beq_eq_true hb]; exact h.1
  | false=>rw [hb] at hl; exact FOk.look h.2 hl
theorem EnvOk.inl {P:Program} {G:FH} {E:Env} (hm:P.follows .mixedOrders = true) (hE:EnvOk P G E) {fs:List (Nat × Func)} (hfs:FOk P fs):∀ d,EnvOk P G (E.inl fs d)
 | 0=>hE
 | d + 1=>⟨hE.types,hE.funs,hE.glob,hE.ext,fun i H h=>by
  obtain ⟨fn,h1,rfl⟩:=Option.map_eq_some_iff.1 h
  obtain ⟨h2,h3⟩:=hfs.look h1
  unfold jz at h3
  simp only [Bool.and_eq_true,Bool.not_eq_true'] at h3
  exact zKV hm (EnvOk.inl hm hE hfs d) h2 h3.1 h3.2⟩
@[reducible] def ch:List Ty→Ty
 | []=>.unit
 | a :: l=>.pair a (ch l)
abbrev u0 {a0 a1:Type} (x:a0 × a1) (v:a0):a0 × a1:=(v,x.2)
abbrev u1 {a0 a1 a2:Type} (x:a0 × a1 × a2) (v:a1):a0 × a1 × a2:=(x.1,v,x.2.2)
abbrev u2 {a0 a1 a2 a3:Type} (x:a0 × a1 × a2 × a3) (v:a2):a0 × a1 × a2 × a3:=(x.1,x.2.1,v,x.2.2.2)
abbrev u3 {a0 a1 a2 a3 a4:Type} (x:a0 × a1 × a2 × a3 × a4) (v:a3):a0 × a1 × a2 × a3 × a4:=(x.1,x.2.1,x.2.2.1,v,x.2.2.2.2)
abbrev u5 {a0 a1 a2 a3 a4 a5 a6:Type} (x:a0 × a1 × a2 × a3 × a4 × a5 × a6) (v:a5):a0 × a1 × a2 × a3 × a4 × a5 × a6:=(x.1,x.2.1,x.2.2.1,x.2.2.2.1,x.2.2.2.2.1,v,x.2.2.2.2.2.2)
def inR {ρ:Type} (i n:Int) (x:Option ρ):Option ρ:=cond (decide (0 ≤ i)) (cond (decide (i < n)) x none) none
theorem zIX {ρ:Type} {i n:Int} {x:Option ρ} (h0:0 ≤ i) (h1:i < n):inR i n x = x:=by unfold inR; rw [decide_eq_true h0,decide_eq_true h1]; rfl
abbrev ix {α:Type} (d:α) (l:List α) (i:Int):α:=List.getD l (Int.toNat i) d
def K0:Nat:=Go.maxLen + 2
theorem zCf {n:Nat} (h:n ≤ Go.maxLen):n < K0:=by unfold K0; omega
abbrev tI:Ty:=.int .i64
abbrev tU:Ty:=.int .u64
abbrev wI (n:Int):Int:=IntKind.wrap .i64 n
abbrev wU (n:Int):Int:=IntKind.wrap .u64 n
end Go.Ev
end
section
namespace Go.Ev
theorem jU {σ α ρ:Type} {B:(σ→Option ρ)→σ→Option ρ} {len:Nat} (hl:len ≤ Go.maxLen) (st:Int→α→σ) (F:Nat→α→Option ρ) (I:Nat→α→Prop)
 (hstep:∀ k (i:Nat) s,i < len→I i s→(∀ s',I (i + 1) s'→k (st (wI (i + 1)) s') = F (i + 1) s')→B k (st i s) = F i s)
 (hend:∀ k s,I len s→B k (st len s) = F len s) (s:α) (h0:I 0 s):zl B K0 (st 0 s) = F 0 s:=by
 refine zIV (L:=fun n i s=>zl B n (st i s)) hl F I (fun n i s hi hI h=>?_) (fun n s hI=>hend _ s hI) K0 (zCf hl) s h0
 refine hstep _ i s hi hI fun s' hI'=>?_
 rw [wI,zxo hi hl]
 exact h s' hI'
theorem qa {α:Type} {l:List α} {i:Nat} {d:α} (h:i < l.length):l.getD i d ∈ l:=by
 rw [List.getD_eq_getElem?_getD,List.getElem?_eq_getElem h]
 exact List.getElem_mem h
theorem zM (p:Bool):some (p,()) = bif p then some (true,()) else some (false,()):=by cases p <;> rfl
theorem zvD {σ α ρ:Type} {B:(σ→Option ρ)→σ→Option ρ} {l:List α} (d:α) {p:α→Bool} {fin bad:Option ρ} (st:Int→σ) (hl:l.length ≤ Go.maxLen)
 (hin:∀ k (i:Nat) x,i < l.length→l.getD i d = x→x ∈ l→B k (st i) = bif p x then k (st (wI (i + 1))) else bad) (hout:∀ k,B k (st l.length) = fin):zl B K0 (st 0) = bif l.all p then fin else bad:=by
 have:=jU (α:=Unit) (B:=B) hl (fun i _=>st i) (fun i _=>bif (l.drop i).all p then fin else bad) (fun _ _=>True) (fun k i s hi _ h=>?_) (fun k s _=>?_) () trivial
 ·simpa using this
 ·rw [hin k i _ hi rfl (qa hi),h () trivial,zaJ d hi,List.all_cons]
  cases p (l.getD i d) <;> rfl
 ·rw [hout,List.drop_of_length_le (Nat.le_refl _)]; rfl
theorem zss {σ α β ρ:Type} {B:(σ→Option ρ)→σ→Option ρ} {l:List β} (d:β) (st:Int→α→σ) (G:List β→α→Option ρ) (hl:l.length ≤ Go.maxLen)
 (hin:∀ k (i:Nat) x rest s,i < l.length→l.getD i d = x→x ∈ l→l.drop (i + 1) = rest→(∀ s',k (st (wI (i + 1)) s') = G rest s')→B k (st i s) = G (x :: rest) s) (hout:∀ k s,B k (st l.length s) = G [] s) (s:α):zl B K0 (st 0 s) = G l s:=by
 have:=jU (B:=B) hl st (fun i s=>G (l.drop i) s) (fun _ _=>True) (fun k i s hi _ h=>?_) (fun k s _=>?_) s trivial
 ·simpa using this
 ·rw [zaJ d hi]
  exact hin k i _ _ s hi rfl (qa hi) rfl fun s'=>h s' trivial
 ·rw [hout,List.drop_of_length_le (Nat.le_refl _)]
def qh (p:Nat→Bool) (i:Nat):Nat→Bool
 | 0=>true
 | n + 1=>p i && qh p (i + 1) n
theorem qL {p:Nat→Bool}:∀ {n i:Nat},qh p i n = true ↔ ∀ j,i ≤ j→j < i + n→p j = true
 | 0,i=>by simp only [qh,true_iff]; intro j h1 h2; omega
 | n + 1,i=>by
  simp only [qh,Bool.and_eq_true,qL (n:=n)]
  constructor
  ·rintro ⟨h1,h2⟩ j h3 h4
   by_cases e:j = i
   ·subst e; exact h1
   ·exact h2 j (by omega) (by omega)
  ·intro h
   exact ⟨h i (Nat.le_refl i) (by omega),fun j h1 h2=>h j (by omega) (by omega)⟩
theorem yJ {σ ρ:Type} {B:(σ→Option ρ)→σ→Option ρ} {i0 n:Nat} (hn:n ≤ Go.maxLen) (h0:i0 ≤ n) {p:Nat→Bool} {fin bad:Option ρ} (st:Int→σ)
 (hin:∀ k (i:Nat),i0 ≤ i→i < n→B k (st i) = bif p i then k (st (wI (i + 1))) else bad) (hout:∀ k,B k (st n) = fin):zl B K0 (st i0) = bif qh p i0 (n - i0) then fin else bad:=by
 have key:∀ (m i fuel:Nat),i0 ≤ i→i + m = n→m < fuel→zl B fuel (st i) = bif qh p i m then fin else bad:=by
  intro m
  induction m with
  | zero =>
   intro i fuel _ h1 h2
   obtain ⟨f,rfl⟩:∃ f,fuel = f + 1:=⟨fuel - 1,by omega⟩
   obtain rfl:i = n:=by omega
   exact hout _
  | succ m ih =>
   intro i fuel h1 h2 h3
   obtain ⟨f,rfl⟩:∃ f,fuel = f + 1:=⟨fuel - 1,by omega⟩
   show B (zl B f) (st i) = _
   rw [hin _ i h1 (by omega),wI,zxo (len:=n) (by omega) hn,show ((i:Int) + 1) = ((i + 1:Nat):Int) by omega,ih (i + 1) f (by omega) (by omega) (by omega)]
   simp only [qh]
   cases p i <;> rfl
 exact key (n - i0) i0 K0 (Nat.le_refl _) (by omega) (by have:=zCf hn; omega)
theorem ztU {i:Nat} (h:1 ≤ i) (hi:i ≤ Go.maxLen):wI ((i:Int) - 1) = ((i - 1:Nat):Int):=by
 rw [show ((i:Int) - 1) = ((i - 1:Nat):Int) by omega]
 exact zDa (by omega)
section
variable {τ:Ty} {l:List τ.I} {g:τ.I × Unit→Option (Bool × Unit)} {p:τ.I→Bool}
theorem zD {ρ:Type} {i n:Nat} {x:Option ρ} (h:i < n):inR (i:Int) (n:Int) x = x:=zIX (by omega) (by omega)
theorem ltT {i n:Nat} (h:i < n):decide ((i:Int) < (n:Int)) = true:=decide_eq_true (by omega)
theorem ltF (n:Nat):decide ((n:Int) < (n:Int)) = false:=decide_eq_false (by omega)
theorem qj {α:Type} {d:α} {l:List α} {i:Nat}:ix d l (i:Int) = l.getD i d:=by rw [ix,Int.toNat_natCast]
theorem qw {B:((List τ.I × Option (τ.I × Unit→Option (Bool × Unit)) × Int × Int)→Option (Int × Unit))→(List τ.I × Option (τ.I × Unit→Option (Bool × Unit)) × Int × Int)→Option (Int × Unit)}
 (hB:∀ k l g n i,B k (l,g,n,i) = bif decide (i < n) then inR i (List.length l:Int) (Option.bind g fun q0=>Option.bind (q0 (ix (ze τ) l i,())) fun q1=>bif q1.1 then some (i,()) else k (l,g,n,wI (i + 1))) else some (-1,()))
 (hl:l.length ≤ Go.maxLen) (hp:∀ x ∈ l,g (x,()) = some (p x,())):zl B K0 (l,some g,(l.length:Int),0) = some (qB p l 0,()):=by
 have:=jU (α:=Unit) (B:=B) hl (fun i _=>(l,some g,(l.length:Int),i)) (fun i _=>some (qB p (l.drop i) i,())) (fun _ _=>True) (fun k i s hi _ h=>?_) (fun k s _=>?_) () trivial
 ·simpa using this
 ·rw [hB,ltT hi,zD hi,qj,Option.bind_some,hp _ (qa hi),Option.bind_some,h () trivial,zaJ (ze τ) hi]
  simp only [qB,cond_true]
  cases p (l.getD i (ze τ)) <;> rfl
 ·rw [hB,ltF,List.drop_of_length_le (Nat.le_refl _)]; rfl
theorem qo {f:Fnc (.pair (.sl τ) (.pair (.fn (.pair τ .unit) (.pair .bool .unit)) .unit)) (.pair (.int .i64) .unit)} (hf:f (l,some g,()) = some (qB p l 0,())) :
 (Option.bind (f (l,some g,())) fun q0=>bif decide ((q0.1:Int) ≥ 0) then some (true,()) else some (false,())) = some (l.any p,()):=by
 rw [hf,Option.bind_some,zqd (p:=p) l 0 (Int.le_refl 0)]
 cases l.any p <;> rfl
theorem jV {α:Type} {l:List α} {p:α→Bool}:(!(l.any fun x=>!p x)) = l.all p:=by
 rw [List.not_any_eq_all_not]
 congr 1
 funext x
 simp
def eqL (τ:Ty) (a b:List τ.I):Bool:=decide (a.length = b.length) && (List.zip a b).all fun q=>eqI τ q.1 q.2
theorem zmZ (a b:Nat):((a:Int) != (b:Int)) = !decide (a = b):=by
 by_cases h:a = b
 ·subst h; simp
 ·have:(a:Int) ≠ (b:Int):=by omega
  simp [h,this]
theorem zvE {α β:Type} {d:α} {e:β}:∀ (a:List α) (b:List β) (i:Nat),i < a.length→i < b.length→(List.zip a b).getD i (d,e) = (a.getD i d,b.getD i e)
 | x :: a,y :: b,0,_,_=>rfl
 | x :: a,y :: b,i + 1,h1,h2=>zvE a b i (by simpa using h1) (by simpa using h2)
 | [],_,_,h,_=>by simp at h
 | _ :: _,[],_,_,h=>by simp at h
theorem zaK {B:((List τ.I × List τ.I × Int × Int)→Option (Bool × Unit))→(List τ.I × List τ.I × Int × Int)→Option (Bool × Unit)}
 (hB:∀ k a b n i,B k (a,b,n,i) = bif decide (i < n) then inR i (List.length a:Int) (inR i (List.length b:Int) (bif !eqI τ (ix (ze τ) a i) (ix (ze τ) b i) then some (false,()) else k (a,b,n,wI (i + 1)))) else some (true,()))
 {a b:List τ.I} (hl:a.length ≤ Go.maxLen):(bif ((List.length a:Int) != (List.length b:Int)) then some (false,()) else zl B K0 (a,b,(a.length:Int),0)) = some (eqL τ a b,()):=by
 rw [zmZ]
 unfold eqL
 by_cases h:a.length = b.length
 ·rw [decide_eq_true h]
  simp only [Bool.not_true,cond_false,Bool.true_and]
  have hz:(List.zip a b).length = a.length:=by rw [List.length_zip]; omega
  have hx:∀ i,i < a.length→(List.zip a b).getD i (ze τ,ze τ) = (a.getD i (ze τ),b.getD i (ze τ)):=fun i hi=>zvE a b i hi (by omega)
  have:=zvD (B:=B) (l:=List.zip a b) (ze τ,ze τ) (p:=fun q=>eqI τ q.1 q.2) (fin:=some (true,())) (bad:=some (false,())) (fun i=>(a,b,(a.length:Int),i)) (by rw [hz]; exact hl) (fun k i x hi hx' _=>?_) (fun k=>?_)
  ·rw [this]
   cases (List.zip a b).all fun q=>eqI τ q.1 q.2 <;> rfl
  ·rw [hz] at hi
   rw [hx i hi] at hx'
   subst hx'
   rw [hB,ltT hi,zD hi,zD (by omega),qj,qj]
   simp only [cond_true]
   cases eqI τ (a.getD i (ze τ)) (b.getD i (ze τ)) <;> rfl
  ·rw [hB,hz,ltF]; rfl
 ·rw [decide_eq_false h]; rfl
theorem yc {x:Option (List τ.I × Unit)} (h:l.length * τ.bts ≤ zCr) (hx:x = bif jZ true τ (List.length (List.replicate 0 (ze τ)) + List.length l) then some (List.replicate 0 (ze τ) ++ l,()) else none) :
 (bif List.isEmpty l then zep (some ([],())) x else x) = some (l,()):=by
 have e0:jZ true τ (List.length (List.replicate 0 (ze τ)) + List.length l) = true:=by
  show decide ((0 + List.length l) * τ.bts ≤ zCr) = true
  rw [Nat.zero_add]
  exact decide_eq_true h
 have e:x = some (l,()):=by rw [hx,e0]; rfl
 rw [e]
 cases l with
 | nil=>exact zII _
 | cons y l=>rfl
end
end Go.Ev
end
section
namespace Go.Ev
open Go.RowKit
def zkh (p:Int × Unit→Option (Bool × Unit)) (x:Int):Bool:=match p (x,()) with | some (b,_)=>b | none=>false
def zLA (p:Int × Unit→Option (Bool × Unit)) (xs:List Int):Option (List Int) :=
 cond (xs.all fun x=>(p (x,())).isSome) (cond (decide (xs.length ≤ 9223372036854775807)) (some (xs.filter fun x=>!zkh p x)) none) none
def zzg (R:Type) (args:List AV) (h:List Obj) (k:AV→List Obj→Option R):Option R :=
 match args with
 | [.ow id,.dat (.fn (.pair (.int .i64) .unit) (.pair .bool .unit)) (some p)]=>match atN h id with
  | some (.row (.int .i64) xs false)=>(zLA p xs).bind fun ys=>k (.ow h.length) (zf h id .gone ++ [.row (.int .i64) ys false])
  | _=>none
 | _=>none
theorem zJ0 (R:Type) (args:List AV) (h:List Obj) (k:AV→List Obj→Option R):zzg R args h k = (zzg (AV × List Obj) args h fun v h=>some (v,h)).bind fun p=>k p.1 p.2:=by
 unfold zzg
 split
 ·split
  ·rw [Option.bind_assoc]; rfl
  ·rfl
 ·rfl
def zxq:Hd:=⟨zzg,zJ0,false,fun h=>by cases h⟩
section
variable {P:Program} {nt:Up} {F0 F:FH} {w0 w:World} {st:St} {m:MM} {a:Act}
theorem zDc {F:FH}:∀ {xs:List Int} {c:List Value},RepL (Rep P F (.int .i64)) xs c→c = xs.map (Value.int .i64)
 | [],_,h=>h
 | x :: xs,_,⟨c,d,e,h1,h2⟩=>by
  have h1:c = [.int .i64 x]:=h1
  rw [e,h1,zDc h2]; rfl
theorem zm0 {F:FH}:∀ (xs:List Int),RepL (Rep P F (.int .i64)) xs (xs.map (Value.int .i64))
 | []=>rfl
 | x :: xs=>⟨[.int .i64 x],xs.map (Value.int .i64),rfl,rfl,zm0 xs⟩
theorem zqe {α:Type}:∀ (l:List α) (i:Nat) (x:α),atN l i = some x→zf l i x = l
 | [],_,_,h=>rfl
 | y :: _,0,x,h=>by simp only [atN,Option.some.injEq] at h; simp only [zf,h]
 | _ :: l,i + 1,x,h=>by simp only [atN] at h; simp only [zf,zqe l i x h]
theorem zjN {α:Type} (l:List α) (i:Nat) (x:α):(zf l i x).length = l.length:=by rw [qR]; simp
theorem Rel.ints (h:Rel P nt F0 w0 st m F a w) {id b n:Nat} {xs:List Int} (ho:atN st.h id = some (.row (.int .i64) xs false)) (hm:m id = some (b,n)) :
 ∃ el cs,w.heap[b]? = some (.cells cs el (0,0)) ∧ cs.size = n ∧ F b = none ∧ xs.length ≤ n ∧ (∃ d,cs.toList = xs.map (Value.int .i64) ++ d) ∧
  ∀ j,j < xs.length→w.cell? ⟨b,j,none⟩ = some (.int .i64 (xs.getD j 0)) ∧ w.frozen? ⟨b,j,none⟩ = false:=by
 have hO:=h.obs _ _ ho
 simp only [z6,hm] at hO
 obtain ⟨el,fr,cs,c,d,h1,h2,h3,h4,h5,rfl⟩:=hO
 obtain rfl:=zDc h4
 have hl:xs.length ≤ n:=by
  have:=congrArg List.length h3
  simp at this; omega
 refine ⟨el,cs,h1,h2,h5,hl,⟨d,h3⟩,fun j hj=>⟨?_,?_⟩⟩
 ·have:cs.toList[j]? = some (.int .i64 (xs.getD j 0)):=by
   rw [h3,List.getElem?_append_left (by simpa using hj)]
   simp [List.getD,hj]
  simp only [World.cell?,h1]
  simpa using this
 ·simp [World.frozen?,h1]
theorem Rel.intsSet (h:Rel P nt F0 w0 st m F a w) {id b n:Nat} {xs:List Int} (ho:atN st.h id = some (.row (.int .i64) xs false)) (hm:m id = some (b,n)) {i:Nat} (hi:i < xs.length) (v:Int) :
 Rel P nt F0 w0 ⟨st.fr,zf st.h id (.row (.int .i64) (xs.set i v) false)⟩ m F a (w.setCell ⟨b,i,none⟩ (.int .i64 v)):=by
 obtain ⟨el,cs,h1,h2,h3,hl,⟨d,h4⟩,-⟩:=h.ints ho hm
 refine h.turn ho ?_ (fun _=>rfl) rfl rfl rfl (by simp) ?_ ?_ ?_
 ·refine .inr ?_
  simp [Obj.like1,rowTL]
 ·intro b' hb'
  simp only [World.setCell]
  rw [Array.getElem?_modify]
  have:b ≠ b':=fun e=>hb' n (e ▸ hm)
  simp [this]
 ·intro b' n' e
  rw [hm] at e
  cases e
  exact h3
 ·simp only [z6,hm]
  have hw:(w.setCell ⟨b,i,none⟩ (.int .i64 v)).heap[b]? = some (.cells (cs.setIfInBounds i (.int .i64 v)) el (0,0)):=by
   simp only [World.setCell]
   rw [Array.getElem?_modify]
   simp [h1]
  refine ⟨el,(0,0),_,(xs.set i v).map (Value.int .i64),d,hw,by simpa using h2,?_,zm0 _,h3,rfl⟩
  rw [Array.toList_setIfInBounds,h4,List.set_append_left _ _ (by simpa using hi),List.map_set]
theorem Rel.intsClear {id b n:Nat} (hm:m id = some (b,n)):∀ (k i:Nat) (w:World) (st:St) (xs:List Int),Rel P nt F0 w0 st m F a w→atN st.h id = some (.row (.int .i64) xs false)→i + k ≤ xs.length →
 ∃ xs':List Int,xs'.length = xs.length ∧ xs'.take i = xs.take i ∧ Rel P nt F0 w0 ⟨st.fr,zf st.h id (.row (.int .i64) xs' false)⟩ m F a (w.setCells b i (List.replicate k (.int .i64 0)))
 | 0,i,w,st,xs,h,ho,_=>⟨xs,rfl,rfl,by rw [zqe _ _ _ ho]; exact h⟩
 | k + 1,i,w,st,xs,h,ho,hl=>by
  have h1:=h.intsSet ho hm (i:=i) (by omega) 0
  obtain ⟨xs',e1,e2,h2⟩:=Rel.intsClear hm k (i + 1) _ _ (xs.set i 0) h1 (vp ho) (by simp; omega)
  refine ⟨xs',by simpa using e1,?_,?_⟩
  ·have:=congrArg (List.take i) e2
   rw [List.take_take,List.take_take,Nat.min_eq_left (by omega),List.take_set,List.set_eq_of_length_le (by simp; omega)] at this
   exact this
  ·rw [zel] at h2
   exact h2
structure zeA (q:Int→Bool) (xs:List Int) (j i:Nat) (ys:List Int):Prop where
 len:ys.length = xs.length
 pre:ys.take i = (xs.take j).filter fun x=>!q x
 high:ys.drop j = xs.drop j
 lt:i < j
 le:j ≤ xs.length
theorem zeA.get {q:Int→Bool} {xs ys:List Int} {j i:Nat} (h:zeA q xs j i ys) {t:Nat} (ht:j ≤ t):ys.getD t 0 = xs.getD t 0:=by
 have:=congrArg (fun l=>l.getD (t - j) 0) h.high
 simpa [List.getD,List.getElem?_drop,show j + (t - j) = t by omega] using this
theorem zeA.start {q:Int→Bool} {xs:List Int} {k:Nat} (hk:k < xs.length) (ht:q (xs.getD k 0) = true) (ha:∀ j,j < k→q (xs.getD j 0) = false):zeA q xs (k + 1) k xs:=by
 refine ⟨rfl,?_,rfl,by omega,by omega⟩
 have hg:xs[k]? = some (xs.getD k 0):=by simp [List.getD,hk]
 have e:xs.take (k + 1) = xs.take k ++ [xs.getD k 0]:=by rw [List.take_add_one,hg]; rfl
 have:(xs.take k).filter (fun x=>!q x) = xs.take k:=by
  rw [List.filter_eq_self]
  intro x hx
  obtain ⟨j,hj,rfl⟩:=List.getElem_of_mem hx
  rw [List.length_take] at hj
  have:=ha j (by omega)
  rw [List.getElem_take]
  have e2:xs.getD j 0 = xs[j]'(by omega):=by simp [List.getD,show j < xs.length by omega]
  rw [e2] at this
  simp [this]
 rw [e,List.filter_append,this]
 generalize xs.getD k 0 = z at ht ⊢
 simp [List.filter_cons,ht]
theorem zeA.skip {q:Int→Bool} {xs ys:List Int} {j i:Nat} (h:zeA q xs j i ys) (hj:j < xs.length) (ht:q (xs.getD j 0) = true):zeA q xs (j + 1) i ys:=by
 have hg:xs[j]? = some (xs.getD j 0):=by simp [List.getD,hj]
 refine ⟨h.len,?_,?_,by have:=h.lt; omega,by omega⟩
 ·rw [h.pre,List.take_add_one,hg,List.filter_append]
  generalize xs.getD j 0 = z at ht ⊢
  simp [List.filter_cons,ht]
 ·have:=congrArg (List.drop 1) h.high
  simpa [List.drop_drop] using this
theorem zeA.keep {q:Int→Bool} {xs ys:List Int} {j i:Nat} (h:zeA q xs j i ys) (hj:j < xs.length) (ht:q (xs.getD j 0) = false):zeA q xs (j + 1) (i + 1) (ys.set i (xs.getD j 0)):=by
 have hg:xs[j]? = some (xs.getD j 0):=by simp [List.getD,hj]
 have hl:=h.lt
 refine ⟨by simpa using h.len,?_,?_,by omega,by omega⟩
 ·rw [List.take_add_one,List.take_set,List.set_eq_of_length_le (by simp; omega),h.pre,List.take_add_one (l:=xs),hg,List.filter_append]
  generalize xs.getD j 0 = z at ht ⊢
  simp [List.filter_cons,ht,h.len,show i < xs.length by omega]
 ·rw [List.drop_set_of_lt (by omega)]
  have:=congrArg (List.drop 1) h.high
  simpa [List.drop_drop] using this
theorem zeA.done {q:Int→Bool} {xs ys:List Int} {i:Nat} (h:zeA q xs xs.length i ys):ys.take i = xs.filter fun x=>!q x:=by rw [h.pre,List.take_length]
theorem Rel.stepF (h:Rel P nt F0 w0 st m F a w) {F2:FH} {w':World} (hb:Below w.heap.size w w') (h2:∀ k c,F2 k = some c→w.heap.size ≤ k→∃ el fz,w'.heap[k]? = some (.cells c el fz)) :
 ∃ F',F.grow F' w.heap.size ∧ Rel P nt F0 w0 st m F' a w':=by
 have hlow:∀ k c',F k = some c'→k < w.heap.size:=fun k c' hk'=>by
  obtain ⟨el,fz,hw⟩:=h.fok _ _ hk'
  exact (Array.getElem?_eq_some_iff.1 hw).1
 have hg:F.grow (fun k=>if k < w.heap.size then F k else F2 k) w.heap.size:=⟨fun k c hk=>by
  show (if k < w.heap.size then F k else F2 k) = some c
  rw [if_pos (hlow k c hk)]; exact hk,fun k hk=>by
  show (if k < w.heap.size then F k else F2 k) = F k
  rw [if_pos hk]⟩
 refine ⟨_,hg,h.step hb hg fun k c hk=>?_⟩
 have hk:(if k < w.heap.size then F k else F2 k) = some c:=hk
 by_cases e:k < w.heap.size
 ·rw [if_pos e] at hk
  obtain ⟨el,fz,hw⟩:=h.fok _ _ hk
  exact ⟨el,fz,(hb.block k e).trans hw⟩
 ·rw [if_neg e] at hk
  exact h2 k c hk (by omega)
theorem Rel.handed (h:Rel P nt F0 w0 st m F a w) {id b n i:Nat} {xs ys:List Int} (ho:atN st.h id = some (.row (.int .i64) xs false)) (hm:m id = some (b,n)) (hy:xs.take i = ys) :
 ∃ m',Rel P nt F0 w0 ⟨st.fr,zf st.h id .gone ++ [.row (.int .i64) ys false]⟩ m' F a w ∧ zh P (zf st.h id .gone ++ [.row (.int .i64) ys false]) m' F (.ow st.h.length) (.slice (some ⟨b,0,none⟩) ys.length n):=by
 obtain ⟨el,cs,h1,h2,h3,hl,⟨d,h4⟩,-⟩:=h.ints ho hm
 have hr:=h.rng _ _ _ hm
 have hk:=(h.kill ho).1
 have hle:ys.length ≤ xs.length:=by rw [← hy]; simp; omega
 have hn:z6 P (zf st.h id .gone ++ [.row (.int .i64) ys false]) ((m.kill id).put2 (zf st.h id .gone).length (some (b,n)) fun _ _=>none) F w (zf st.h id .gone).length (.row (.int .i64) ys false):=by
  simp only [z6,MM.put2_f]
  refine ⟨el,(0,0),cs,ys.map (Value.int .i64),(xs.drop i).map (Value.int .i64) ++ d,h1,h2,?_,zm0 _,h3,rfl⟩
  rw [h4,← List.append_assoc,← List.map_append,← hy,List.take_append_drop]
 have ha:=hk.adopt (o:=.row (.int .i64) ys false) (w':=w) (x:=some (b,n)) (D:=fun _ _=>none) rfl rfl rfl (Nat.le_refl _) (fun _ _ _=>rfl) (fun b' n' e=>by
  cases e
  refine ⟨hr.2.1,hr.2.2,h3,fun i n' hi=>?_,fun i j p n' hp=>?_⟩
  ·obtain ⟨hne,hi⟩:=MM.kill_f hi
   exact hne (h.inj _ _ _ _ _ hi hm)
  ·exact (h.dok _ _ _ _ _ (MM.kill_d hp).2).2.2.2.2 _ _ hm) (fun _ _ _ _ e=>by cases e) (fun _ _ _ _ _ _ _ e=>by cases e) hn
 refine ⟨_,ha.1,.inr ⟨.row (.int .i64) ys false,.int .i64,ys.length,?_,rfl,?_⟩⟩
 ·have:=jp (zf st.h id .gone) (.row (.int .i64) ys false)
  rwa [zjN] at this
 ·rw [← zjN st.h id .gone,MM.put2_f]
  exact ⟨n,by simp [nc],by omega,rfl⟩
theorem Rel.handed0 (h:Rel P nt F0 w0 st m F a w) {id:Nat} (ho:atN st.h id = some (.row (.int .i64) [] false)) :
 ∃ m',Rel P nt F0 w0 ⟨st.fr,zf st.h id .gone ++ [.row (.int .i64) [] false]⟩ m' F a w ∧ ∀ ad,zh P (zf st.h id .gone ++ [.row (.int .i64) [] false]) m' F (.ow st.h.length) (.slice ad 0 0):=by
 have hk:=(h.kill ho).1
 have ha:=hk.adopt (o:=.row (.int .i64) [] false) (w':=w) (x:=none) (D:=fun _ _=>none) rfl rfl rfl (Nat.le_refl _) (fun _ _ _=>rfl) (fun b' n' e=>by cases e) (fun _ _ _ _ e=>by cases e) (fun _ _ _ _ _ _ _ e=>by cases e) (by simp only [z6,MM.put2_f])
 refine ⟨_,ha.1,fun ad=>.inr ⟨.row (.int .i64) [] false,.int .i64,0,?_,rfl,?_⟩⟩
 ·have:=jp (zf st.h id .gone) (.row (.int .i64) [] false)
  rwa [zjN] at this
 ·rw [← zjN st.h id .gone,MM.put2_f]
  exact ⟨rfl,ad,rfl⟩
end
abbrev Env.del (E:Env) (f:Nat):Env:={ E with hnd:=fun i=>cond (Nat.beq f i) (some zxq) none }
theorem EnvOk.del {P:Program} {G:FH} {E:Env} {f:Nat} (hE:EnvOk P G E) (h:zCE P G f zxq):EnvOk P G (E.del f):=⟨hE.types,hE.funs,hE.glob,hE.ext,fun i H e=>by
 have e:cond (Nat.beq f i) (some zxq) none = some H:=e
 cases hb:Nat.beq f i with
 | false=>rw [hb] at e; cases e
 | true =>
  rw [hb] at e
  cases e
  rw [← Nat.eq_of_beq_eq_true hb]
  exact h⟩
theorem zDd {p:Int→Bool}:∀ (l:List Int) (i:Nat),(qB p l (i:Int) = -1 ∧ ∀ j,j < l.length→p (l.getD j 0) = false) ∨ ∃ k:Nat,k < l.length ∧ qB p l (i:Int) = ((i + k:Nat):Int) ∧ p (l.getD k 0) = true ∧ ∀ j,j < k→p (l.getD j 0) = false
 | [],_=>.inl ⟨rfl,fun j hj=>by simp at hj⟩
 | x :: l,i=>by
  simp only [qB]
  cases hp:p x with
  | true=>exact .inr ⟨0,by simp,rfl,hp,fun j hj=>by omega⟩
  | false =>
   simp only [cond_false]
   have e:((i:Int) + 1) = ((i + 1:Nat):Int):=by omega
   rw [e]
   rcases zDd l (i + 1) with ⟨h1,h2⟩ | ⟨k,h1,h2,h3,h4⟩
   ·refine .inl ⟨h1,fun j hj=>?_⟩
    cases j with
    | zero=>exact hp
    | succ j=>exact h2 j (by simpa using hj)
   ·refine .inr ⟨k + 1,by simpa using h1,by rw [h2]; omega,h3,fun j hj=>?_⟩
    cases j with
    | zero=>exact hp
    | succ j=>exact h4 j (by omega)
end Go.Ev
end
section
namespace Go.Proofs.YtkcakhbkoeimdaaGreatDoor
open Go.Ev
abbrev tMe:Ty:=.st (.pair (.int .i64) (.pair (.int .i64) (.pair (.int .i64) .unit)))
abbrev pMe:Type:=(Int × (Int × (Int × Unit)))
abbrev jE:Ty:=.st (.pair (.int .i64) (.pair (.int .i64) (.pair (.int .i64) (.pair (.int .i64) (.pair .str .unit)))))
abbrev yz:Type:=(Int × (Int × (Int × (Int × (ByteArray × Unit)))))
abbrev zy:Ty:=.st (.pair .bool (.pair (.int .i64) (.pair (.int .i64) (.pair (.int .i64) (.pair .str .unit)))))
abbrev zw:Type:=(Bool × (Int × (Int × (Int × (ByteArray × Unit)))))
abbrev zcL:zw:=ze zy
abbrev zp:Ty:=.st (.pair (.int .i64) (.pair (.int .u64) .unit))
abbrev zr:Type:=(Int × (Int × Unit))
abbrev zC:zr:=ze zp
abbrev zo:Ty:=.st (.pair .bool (.pair (.int .i64) (.pair (.int .i64) (.pair (.int .i64) (.pair (.int .i64) (.pair (.int .i64) (.pair (.int .u64) (.pair (.int .u64) (.pair (.int .u64) (.pair (.int .i64) .unit))))))))))
abbrev zq:Type:=(Bool × (Int × (Int × (Int × (Int × (Int × (Int × (Int × (Int × (Int × Unit))))))))))
abbrev qs:zq:=ze zo
abbrev zx:Ty:=.st (.pair (.int .u64) (.pair (.int .i64) (.pair (.int .i64) (.pair (.int .i64) (.pair (.int .i64) (.pair (.int .i64) (.pair (.int .i64) (.pair (.int .u64) (.pair (.int .u64) (.pair (.int .i64) .unit))))))))))
abbrev zG:Type:=(Int × (Int × (Int × (Int × (Int × (Int × (Int × (Int × (Int × (Int × Unit))))))))))
abbrev zhz:zG:=ze zx
abbrev qk:Ty:=.st (.pair .bool (.pair .str .unit))
abbrev qZ:Type:=(Bool × (ByteArray × Unit))
abbrev ztV:qZ:=ze qk
abbrev zR:Ty:=.st (.pair (.int .i64) (.pair (.int .i64) .unit))
abbrev j3:Type:=(Int × (Int × Unit))
abbrev zMe:j3:=ze zR
abbrev z3:Ty:=.st (.pair .bool (.pair zR (.pair zR (.pair (.int .i64) .unit))))
abbrev qe:Type:=(Bool × (j3 × (j3 × (Int × Unit))))
abbrev vN:qe:=ze z3
abbrev zX:Ty:=.st (.pair .bool (.pair .str (.pair (.int .i64) (.pair (.int .i64) (.pair zR .unit)))))
abbrev qc:Type:=(Bool × (ByteArray × (Int × (Int × (j3 × Unit)))))
abbrev zdD:qc:=ze zX
abbrev zdE:Ty:=.st (.pair (.int .i64) (.pair (.int .u64) (.pair (.int .i64) .unit)))
abbrev zkW:Type:=(Int × (Int × (Int × Unit)))
abbrev zA:Ty:=.st (.pair .bool (.pair (.int .i64) (.pair (.int .i64) (.pair zdE (.pair zdE .unit)))))
abbrev zv:Type:=(Bool × (Int × (Int × (zkW × (zkW × Unit)))))
abbrev qS:zv:=ze zA
abbrev jc:Ty:=.st (.pair (.int .i64) (.pair (.int .i64) .unit))
abbrev zN:Type:=(Int × (Int × Unit))
abbrev zJ:zN:=ze jc
abbrev zcX:Ty:=.st (.pair (.int .i64) (.pair (.int .i64) (.pair (.int .i64) (.pair (.int .i64) (.pair (.int .i64) (.pair (.int .u64) .unit))))))
abbrev zbQ:Type:=(Int × (Int × (Int × (Int × (Int × (Int × Unit))))))
abbrev j4:zbQ:=ze zcX
abbrev qM:Ty:=.st (.pair .str (.pair .str (.pair (.int .i64) (.pair .bool .unit))))
abbrev qN:Type:=(ByteArray × (ByteArray × (Int × (Bool × Unit))))
abbrev zeU:qN:=ze qM
abbrev jT:Ty:=.st (.pair (.sl zy) (.pair (.fn (.pair zy .unit) (.pair .bool .unit)) .unit))
abbrev yd:Type:=((List zw) × ((Option ((zw × Unit)→Option (Bool × Unit))) × Unit))
abbrev vO:Ty:=.st (.pair (.sl zA) (.pair (.fn (.pair zA .unit) (.pair .bool .unit)) .unit))
abbrev zbR:Type:=((List zv) × ((Option ((zv × Unit)→Option (Bool × Unit))) × Unit))
abbrev ztW:Ty:=.st (.pair (.int .i64) (.pair (.int .i64) (.pair zR .unit)))
abbrev ztX:Type:=(Int × (Int × (j3 × Unit)))
abbrev zky:Ty:=.st (.pair (.int .u8) (.pair (.int .u8) .unit))
abbrev yK:Ty:=.st (.pair (.sl zo) (.pair (.fn (.pair zo .unit) (.pair .bool .unit)) .unit))
abbrev zdF:Type:=((List zq) × ((Option ((zq × Unit)→Option (Bool × Unit))) × Unit))
abbrev zm:Ty:=.st (.pair (.sl zp) (.pair (.sl (.int .i64)) (.pair (.sl qM) (.pair (.sl jc) (.pair (.sl zcX) (.pair (.int .i64) (.pair (.int .i64) (.pair (.int .i64) (.pair (.int .i64) .unit)))))))))
abbrev za:Type:=((List zr) × ((List Int) × ((List qN) × ((List zN) × ((List zbQ) × (Int × (Int × (Int × (Int × Unit)))))))))
abbrev zn:Ty:=.st (.pair (.sl qk) (.pair (.sl z3) (.pair (.sl zX) (.pair (.sl zy) (.pair (.sl zA) (.pair (.sl (.arr 4 (.int .u64))) (.pair (.sl zR) (.pair (.arr 4 (.int .u64)) (.pair (.arr 4 (.int .u64)) .unit)))))))))
abbrev zi:Type:=((List qZ) × ((List qe) × ((List qc) × ((List zw) × ((List zv) × ((List (List Int)) × ((List j3) × ((List Int) × ((List Int) × Unit)))))))))
abbrev zg:zi:=ze zn
abbrev zz:Ty:=.st (.pair (.int .u64) (.pair (.sl zn) (.pair (.sl (.sl (.int .i64))) (.pair (.sl zo) (.pair (.sl zx) (.pair (.sl (.int .i64)) .unit))))))
abbrev zd:Type:=(Int × ((List zi) × ((List (List Int)) × ((List zq) × ((List zG) × ((List Int) × Unit))))))
abbrev qf:Ty:=.st (.pair zm (.pair zz .unit))
abbrev qJ:Type:=(za × (zd × Unit))
def types:TT:=(.node (.node (.node (.node (.node (.node (.node (.node (.node .nil 1 (.fn .unit .unit) .nil) 2 (.int .i64) .nil) 3 (.int .i64) (.node .nil 4 .bool .nil)) 5 (.int .u8) (.node (.node (.node .nil 6 (.int .u8) .nil) 7 (.st (.pair (.int .i64) (.pair (.int .i64) (.pair .bool (.pair (.int .u8) .unit))))) .nil) 8 (.st (.pair (.int .i64) (.pair (.int .i64) (.pair .bool (.pair (.int .u8) .unit))))) (.node .nil 9 .str .nil))) 10 .str (.node (.node (.node (.node .nil 11 .str .nil) 12 (.int .u64) .nil) 21 (.int .i32) (.node .nil 22 (.sl zp) .nil)) 23 (.sl (.int .i64)) (.node (.node (.node .nil 24 (.sl qM) .nil) 25 (.sl jc) .nil) 26 (.sl zcX) (.node .nil 27 (.st (.pair (.sl zp) (.pair (.sl (.int .i64)) (.pair (.sl qM) (.pair (.sl jc) (.pair (.sl zcX) (.pair (.int .i64) (.pair (.int .i64) (.pair (.int .i64) (.pair (.int .i64) .unit)))))))))) .nil)))) 28 zm (.node (.node (.node (.node (.node .nil 29 (.int .u64) .nil) 30 (.sl zn) .nil) 31 (.sl (.sl (.int .i64))) (.node .nil 32 (.sl zo) .nil)) 33 (.sl zx) (.node (.node (.node .nil 34 (.st (.pair (.int .u64) (.pair (.sl zn) (.pair (.sl (.sl (.int .i64))) (.pair (.sl zo) (.pair (.sl zx) (.pair (.sl (.int .i64)) .unit))))))) .nil) 35 zz .nil) 36 (.st (.pair (.int .i64) (.pair (.int .i64) (.pair (.int .i64) .unit)))) (.node .nil 37 tMe .nil))) 38 (.st (.pair (.int .i64) (.pair (.int .i64) (.pair (.int .i64) (.pair (.int .i64) (.pair .str .unit)))))) (.node (.node (.node (.node .nil 39 jE .nil) 40 (.fn (.pair zz .unit) (.pair zz .unit)) .nil) 41 (.int .i64) (.node .nil 43 (.fn (.pair zm (.pair zz (.pair tMe (.pair (.int .i64) (.pair (.int .i64) (.pair .str .unit)))))) (.pair zz (.pair (.int .i64) .unit))) .nil)) 44 (.fn (.pair zm (.pair zz (.pair tMe (.pair (.int .i64) .unit)))) (.pair zz (.pair (.int .i64) .unit))) (.node (.node (.node .nil 45 (.st (.pair .bool (.pair (.int .i64) (.pair (.int .i64) (.pair (.int .i64) (.pair .str .unit)))))) .nil) 46 zy .nil) 48 (.fn (.pair zm (.pair zz (.pair tMe (.pair (.int .i64) .unit)))) (.pair zy (.pair (.int .i64) .unit))) (.node .nil 50 (.fn (.pair zm (.pair zz (.pair tMe .unit))) (.pair (.sl (.int .i64)) (.pair (.int .i64) .unit))) .nil))))) 51 (.fn (.pair zm (.pair zz (.pair tMe .unit))) (.pair .bool .unit)) (.node (.node (.node (.node (.node (.node .nil 52 (.fn (.pair (.sl (.int .i64)) (.pair (.sl (.int .i64)) .unit)) (.pair .bool .unit)) .nil) 53 (.fn (.pair (.sl zy) (.pair (.int .i64) .unit)) (.pair (.sl (.int .i64)) .unit)) .nil) 54 (.sl qk) (.node .nil 55 (.sl z3) .nil)) 56 (.sl zX) (.node (.node (.node .nil 57 (.sl zy) .nil) 58 (.sl zA) .nil) 59 (.sl (.arr 4 (.int .u64))) (.node .nil 60 (.sl zR) .nil))) 61 (.arr 4 (.int .u64)) (.node (.node (.node (.node .nil 62 (.st (.pair (.sl qk) (.pair (.sl z3) (.pair (.sl zX) (.pair (.sl zy) (.pair (.sl zA) (.pair (.sl (.arr 4 (.int .u64))) (.pair (.sl zR) (.pair (.arr 4 (.int .u64)) (.pair (.arr 4 (.int .u64)) .unit)))))))))) .nil) 63 zn .nil) 64 (.fn .unit (.pair .bool .unit)) (.node .nil 65 (.fn (.pair zz (.pair zz .unit)) (.pair .bool .unit)) .nil)) 66 (.fn (.pair zm (.pair zz (.pair tMe (.pair jE .unit)))) (.pair .bool .unit)) (.node (.node (.node .nil 67 (.fn (.pair zm (.pair zz (.pair tMe (.pair .str .unit)))) (.pair (.sl (.int .i64)) (.pair (.int .i64) .unit))) .nil) 68 (.fn (.pair zm (.pair zz (.pair tMe (.pair (.int .i64) (.pair .str .unit))))) (.pair (.sl (.int .i64)) (.pair (.int .i64) .unit))) .nil) 69 (.fn (.pair zm (.pair zz (.pair tMe (.pair (.int .i64) (.pair (.int .i64) .unit))))) (.pair zz (.pair (.int .i64) .unit))) (.node .nil 70 (.fn (.pair zm (.pair zz (.pair tMe (.pair (.int .i64) .unit)))) (.pair (.sl (.int .i64)) (.pair (.int .i64) .unit))) .nil)))) 71 (.st (.pair (.int .i64) (.pair (.int .u64) .unit))) (.node (.node (.node (.node (.node .nil 72 zp .nil) 73 (.fn (.pair zm (.pair zz (.pair tMe (.pair jE .unit)))) (.pair zz (.pair (.int .i64) .unit))) .nil) 74 (.fn (.pair zm (.pair zz .unit)) (.pair .bool .unit)) (.node .nil 75 (.fn (.pair zp (.pair zp .unit)) (.pair .bool .unit)) .nil)) 76 (.fn (.pair zp .unit) (.pair .bool .unit)) (.node (.node (.node .nil 77 (.fn (.pair zm (.pair zz (.pair zz (.pair zp .unit)))) (.pair .bool .unit)) .nil) 78 (.fn (.pair zm (.pair (.sl (.int .i64)) (.pair zp .unit))) (.pair (.sl (.int .i64)) .unit)) .nil) 79 (.fn (.pair zm (.pair zz (.pair tMe (.pair jE (.pair zp .unit))))) (.pair .bool .unit)) (.node .nil 80 (.fn (.pair zm (.pair zz (.pair zz (.pair tMe (.pair jE (.pair zp .unit)))))) (.pair .bool .unit)) .nil))) 81 (.fn (.pair (.sl zo) .unit) (.pair (.sl zo) .unit)) (.node (.node (.node (.node .nil 82 (.st (.pair .bool (.pair (.int .i64) (.pair (.int .i64) (.pair (.int .i64) (.pair (.int .i64) (.pair (.int .i64) (.pair (.int .u64) (.pair (.int .u64) (.pair (.int .u64) (.pair (.int .i64) .unit))))))))))) .nil) 83 zo .nil) 84 (.fn (.pair (.sl zx) .unit) (.pair (.sl zx) .unit)) (.node .nil 85 (.st (.pair (.int .u64) (.pair (.int .i64) (.pair (.int .i64) (.pair (.int .i64) (.pair (.int .i64) (.pair (.int .i64) (.pair (.int .i64) (.pair (.int .u64) (.pair (.int .u64) (.pair (.int .i64) .unit))))))))))) .nil)) 86 zx (.node (.node (.node .nil 87 (.fn (.pair (.sl (.int .i64)) .unit) (.pair (.sl (.int .i64)) .unit)) .nil) 88 (.fn (.pair (.sl (.sl (.int .i64))) .unit) (.pair (.sl (.sl (.int .i64))) .unit)) .nil) 89 (.fn (.pair (.sl zn) .unit) (.pair (.sl zn) .unit)) (.node .nil 90 (.fn (.pair (.sl qk) .unit) (.pair (.sl qk) .unit)) .nil)))))) 91 (.st (.pair .bool (.pair .str .unit))) (.node (.node (.node (.node (.node (.node (.node .nil 92 qk .nil) 93 (.fn (.pair (.sl z3) .unit) (.pair (.sl z3) .unit)) .nil) 94 (.st (.pair (.int .i64) (.pair (.int .i64) .unit))) (.node .nil 95 zR .nil)) 96 (.st (.pair .bool (.pair zR (.pair zR (.pair (.int .i64) .unit))))) (.node (.node (.node .nil 97 z3 .nil) 98 (.fn (.pair (.sl zX) .unit) (.pair (.sl zX) .unit)) .nil) 99 (.st (.pair .bool (.pair .str (.pair (.int .i64) (.pair (.int .i64) (.pair zR .unit)))))) (.node .nil 100 zX .nil))) 101 (.fn (.pair (.sl zy) .unit) (.pair (.sl zy) .unit)) (.node (.node (.node (.node .nil 102 (.fn (.pair (.sl zA) .unit) (.pair (.sl zA) .unit)) .nil) 103 (.st (.pair (.int .i64) (.pair (.int .u64) (.pair (.int .i64) .unit)))) .nil) 104 zdE (.node .nil 105 (.st (.pair .bool (.pair (.int .i64) (.pair (.int .i64) (.pair zdE (.pair zdE .unit)))))) .nil)) 106 zA (.node (.node (.node .nil 107 (.fn (.pair (.sl (.arr 4 (.int .u64))) .unit) (.pair (.sl (.arr 4 (.int .u64))) .unit)) .nil) 108 (.fn (.pair (.sl zR) .unit) (.pair (.sl zR) .unit)) .nil) 109 (.fn (.pair zm (.pair (.int .i64) (.pair (.int .i64) .unit))) (.pair .bool .unit)) (.node .nil 111 (.fn (.pair (.sl zy) (.pair zy .unit)) (.pair (.sl zy) (.pair (.int .i64) (.pair (.int .i64) .unit)))) .nil)))) 112 (.fn (.pair .str .unit) (.pair .bool .unit)) (.node (.node (.node (.node (.node .nil 113 (.fn (.pair zz (.pair (.int .i64) (.pair zn .unit))) (.pair zz .unit)) .nil) 115 (.fn (.pair (.sl zy) (.pair (.int .i64) (.pair (.int .i64) .unit))) (.pair (.sl zy) (.pair (.int .i64) .unit))) .nil) 116 (.fn (.pair zz (.pair tMe .unit)) (.pair (.sl zy) .unit)) (.node .nil 117 (.fn (.pair (.sl zy) (.pair (.int .i64) (.pair (.int .i64) .unit))) (.pair zy (.pair (.int .i64) .unit))) .nil)) 118 (.fn (.pair (.sl zy) (.pair (.int .i64) (.pair (.int .i64) .unit))) (.pair .bool .unit)) (.node (.node (.node .nil 119 (.fn (.pair zm (.pair tMe .unit)) (.pair .bool .unit)) .nil) 120 (.fn .unit (.pair zm .unit)) .nil) 121 (.fn (.pair zm .unit) (.pair zz (.pair (.int .i64) .unit))) (.node .nil 122 (.fn (.pair (.sl (.sl (.int .i64))) (.pair (.sl (.sl (.int .i64))) .unit)) (.pair .bool .unit)) .nil))) 123 (.fn (.pair (.sl zo) (.pair (.sl zo) .unit)) (.pair .bool .unit)) (.node (.node (.node (.node .nil 124 (.fn (.pair (.sl zx) (.pair (.sl zx) .unit)) (.pair .bool .unit)) .nil) 125 (.fn (.pair zn (.pair zn .unit)) (.pair .bool .unit)) .nil) 126 (.fn (.pair tMe .unit) (.pair zR .unit)) (.node .nil 127 (.fn (.pair zm (.pair zz (.pair tMe (.pair (.fn (.pair tMe .unit) (.pair .bool .unit)) .unit)))) (.pair (.sl (.int .i64)) .unit)) .nil)) 128 (.fn (.pair tMe .unit) (.pair .bool .unit)) (.node (.node (.node .nil 129 (.fn (.pair zm (.pair zz (.pair tMe (.pair .bool .unit)))) (.pair (.sl (.int .i64)) .unit)) .nil) 130 (.fn (.pair zm (.pair (.int .i64) .unit)) (.pair .bool .unit)) .nil) 131 (.fn (.pair (.sl (.int .i64)) (.pair (.int .i64) .unit)) (.pair .bool .unit)) (.node .nil 132 (.fn (.pair zm (.pair (.int .i64) .unit)) (.pair (.sl (.int .i64)) .unit)) .nil))))) 133 (.fn (.pair zp (.pair (.int .i64) .unit)) (.pair .bool .unit)) (.node (.node (.node (.node (.node (.node .nil 134 (.st (.pair (.int .i64) (.pair (.int .i64) .unit))) .nil) 135 jc .nil) 137 (.fn (.pair zm (.pair (.sl (.sl (.int .i64))) (.pair (.int .i64) (.pair (.int .i64) (.pair (.int .i64) .unit))))) (.pair (.sl (.sl (.int .i64))) (.pair (.int .i64) .unit))) (.node .nil 138 (.fn (.pair zm (.pair (.sl (.sl (.int .i64))) (.pair (.int .i64) (.pair (.int .i64) (.pair (.int .i64) (.pair (.int .i64) .unit)))))) (.pair (.sl (.sl (.int .i64))) (.pair (.int .i64) .unit))) .nil)) 139 (.fn (.pair zm (.pair (.int .i64) .unit)) (.pair (.int .i64) .unit)) (.node (.node (.node .nil 140 (.st (.pair zm (.pair zz .unit))) .nil) 141 qf .nil) 142 (.sl (.fn .unit (.pair .bool .unit))) (.node .nil 143 (.fn (.pair zm (.pair zz (.pair zp .unit))) (.pair zz (.pair (.int .i64) .unit))) .nil))) 144 (.fn (.pair zm (.pair (.int .i64) (.pair zp .unit))) (.pair .bool .unit)) (.node (.node (.node (.node .nil 145 (.fn (.pair (.sl zy) .unit) (.pair .bool .unit)) .nil) 146 (.fn (.pair zy .unit) (.pair .bool .unit)) .nil) 147 (.ptr jT) (.node .nil 148 (.fn (.pair (.sl zy) .unit) (.pair (.ptr jT) .unit)) .nil)) 149 (.fn (.pair zy .unit) (.pair (.sl zy) (.pair (.int .i64) (.pair (.int .i64) .unit)))) (.node (.node (.node .nil 150 (.fn (.pair (.int .u8) .unit) (.pair .bool .unit)) .nil) 151 (.fn (.pair (.int .i64) .unit) (.pair .bool .unit)) .nil) 152 (.fn (.pair (.int .i64) (.pair zy .unit)) (.pair (.sl zy) (.pair (.int .i64) .unit))) (.node .nil 153 (.fn (.pair (.sl (.int .i64)) (.pair (.fn (.pair (.int .i64) .unit) (.pair .bool .unit)) .unit)) (.pair (.sl (.int .i64)) .unit)) .nil)))) 154 (.fn .unit (.pair (.sl (.int .i64)) .unit)) (.node (.node (.node (.node (.node .nil 155 (.fn (.pair zm .unit) (.pair .bool .unit)) .nil) 156 (.fn (.pair zm (.pair zz (.pair (.int .i64) .unit))) (.pair .bool .unit)) .nil) 157 (.st (.pair (.int .i64) (.pair (.int .i64) (.pair (.int .i64) (.pair (.int .i64) (.pair (.int .i64) (.pair (.int .u64) .unit))))))) (.node .nil 158 zcX .nil)) 160 (.fn (.pair zz (.pair (.int .i64) .unit)) (.pair (.int .u64) (.pair (.int .i64) .unit))) (.node (.node (.node .nil 161 (.st (.pair .str (.pair .str (.pair (.int .i64) (.pair .bool .unit))))) .nil) 162 qM .nil) 163 (.fn (.pair zm .unit) (.pair (.sl (.sl (.int .i64))) .unit)) (.node .nil 164 (.fn (.pair zm (.pair zcX .unit)) (.pair zn .unit)) .nil))) 165 (.fn (.pair (.sl qk) (.pair (.sl qk) .unit)) (.pair .bool .unit)) (.node (.node (.node (.node .nil 166 (.fn (.pair (.sl z3) (.pair (.sl z3) .unit)) (.pair .bool .unit)) .nil) 167 (.fn (.pair (.sl zX) (.pair (.sl zX) .unit)) (.pair .bool .unit)) .nil) 168 (.fn (.pair (.sl zy) (.pair (.sl zy) .unit)) (.pair .bool .unit)) (.node .nil 169 (.fn (.pair (.sl zA) (.pair (.sl zA) .unit)) (.pair .bool .unit)) .nil)) 170 (.fn (.pair .str (.pair (.fn (.pair (.int .u8) .unit) (.pair .bool .unit)) .unit)) (.pair .bool .unit)) (.node (.node .nil 171 (.fn (.pair .str (.pair .str .unit)) (.pair .str .unit)) .nil) 172 (.fn (.pair zm (.pair zz (.pair tMe (.pair (.int .i64) (.pair .bool .unit))))) (.pair .bool .unit)) (.node .nil 173 (.fn (.pair (.sl (.int .i64)) (.pair (.int .i64) .unit)) (.pair (.int .i64) .unit)) .nil))))))) 174 (.fn (.pair zp .unit) (.pair (.sl (.int .i64)) .unit)) (.node (.node (.node (.node (.node (.node (.node (.node .nil 175 (.int .u64) .nil) 176 (.fn (.pair zm (.pair (.sl (.sl (.int .i64))) (.pair (.int .i64) (.pair (.int .i64) (.pair (.int .i64) (.pair (.fn (.pair (.int .i64) (.pair .bool .unit)) (.pair (.int .i64) (.pair (.int .i64) .unit))) .unit)))))) (.pair (.sl (.sl (.int .i64))) (.pair (.int .i64) .unit))) .nil) 177 (.fn (.pair (.int .i64) (.pair .bool .unit)) (.pair (.int .i64) (.pair (.int .i64) .unit))) (.node .nil 178 (.fn (.pair zm (.pair (.sl (.sl (.int .i64))) .unit)) (.pair .bool .unit)) .nil)) 179 (.fn (.pair zm (.pair (.sl (.sl (.int .i64))) (.pair (.int .i64) (.pair (.int .i64) .unit)))) (.pair .bool .unit)) (.node (.node (.node .nil 180 (.fn (.pair (.sl (.sl (.int .i64))) (.pair (.int .i64) (.pair (.int .i64) (.pair (.int .i64) .unit)))) (.pair (.sl (.sl (.int .i64))) .unit)) .nil) 181 (.fn (.pair (.int .i64) (.pair (.int .i64) (.pair (.int .i64) .unit))) (.pair .bool .unit)) .nil) 183 (.fn (.pair (.int .i64) .unit) (.pair zp (.pair (.int .i64) .unit))) (.node .nil 184 (.fn (.pair zm (.pair zp .unit)) (.pair (.int .i64) .unit)) .nil))) 185 (.fn (.pair (.sl zn) (.pair (.fn (.pair zn .unit) (.pair .bool .unit)) .unit)) (.pair .bool .unit)) (.node (.node (.node (.node .nil 186 (.fn (.pair (.sl qk) .unit) (.pair .bool .unit)) .nil) 187 (.fn (.pair (.sl z3) .unit) (.pair .bool .unit)) .nil) 188 (.fn (.pair (.sl zX) .unit) (.pair .bool .unit)) (.node .nil 189 (.fn (.pair (.sl zA) .unit) (.pair .bool .unit)) .nil)) 190 (.fn (.pair zn .unit) (.pair .bool .unit)) (.node (.node (.node .nil 191 (.fn (.pair (.sl zo) .unit) (.pair .bool .unit)) .nil) 192 (.fn (.pair (.sl zx) .unit) (.pair .bool .unit)) .nil) 193 (.fn (.pair zz (.pair zR .unit)) (.pair .bool .unit)) (.node .nil 194 (.fn (.pair (.sl zo) (.pair (.fn (.pair zo .unit) (.pair .bool .unit)) .unit)) (.pair .bool .unit)) .nil)))) 195 (.fn (.pair zo .unit) (.pair .bool .unit)) (.node (.node (.node (.node (.node .nil 196 (.fn (.pair (.sl zx) (.pair (.fn (.pair zx .unit) (.pair .bool .unit)) .unit)) (.pair .bool .unit)) .nil) 197 (.fn (.pair zx .unit) (.pair .bool .unit)) .nil) 198 (.fn (.pair (.sl (.int .i64)) (.pair (.fn (.pair (.int .i64) .unit) (.pair .bool .unit)) .unit)) (.pair .bool .unit)) (.node .nil 199 (.fn (.pair zR .unit) (.pair .bool .unit)) .nil)) 200 (.fn (.pair (.int .i64) .unit) (.pair (.fn (.pair zR .unit) (.pair .bool .unit)) .unit)) (.node (.node (.node .nil 201 (.fn (.pair (.sl z3) (.pair (.fn (.pair z3 .unit) (.pair .bool .unit)) .unit)) (.pair .bool .unit)) .nil) 202 (.fn (.pair z3 .unit) (.pair .bool .unit)) .nil) 203 (.fn (.pair (.sl zX) (.pair (.fn (.pair zX .unit) (.pair .bool .unit)) .unit)) (.pair .bool .unit)) (.node .nil 204 (.fn (.pair zX .unit) (.pair .bool .unit)) .nil))) 205 (.fn (.pair (.sl zR) (.pair (.fn (.pair zR .unit) (.pair .bool .unit)) .unit)) (.pair .bool .unit)) (.node (.node (.node (.node .nil 206 (.fn (.pair (.sl zy) (.pair (.fn (.pair zy .unit) (.pair .bool .unit)) .unit)) (.pair .bool .unit)) .nil) 207 (.fn (.pair (.int .i64) (.pair (.int .i64) .unit)) (.pair .bool .unit)) .nil) 208 (.fn (.pair (.sl zA) (.pair (.fn (.pair zA .unit) (.pair .bool .unit)) .unit)) (.pair .bool .unit)) (.node .nil 209 (.fn (.pair zA .unit) (.pair .bool .unit)) .nil)) 210 (.ptr vO) (.node (.node (.node .nil 211 (.fn (.pair (.sl zA) (.pair (.fn (.pair zA .unit) (.pair .bool .unit)) .unit)) (.pair (.ptr vO) .unit)) .nil) 212 (.fn (.pair (.sl zn) (.pair (.sl zn) (.pair (.fn (.pair (.int .i64) .unit) (.pair .bool .unit)) .unit))) (.pair (.sl zn) .unit)) .nil) 213 (.fn (.pair (.sl (.sl (.int .i64))) (.pair (.sl (.sl (.int .i64))) (.pair (.fn (.pair (.int .i64) .unit) (.pair .bool .unit)) .unit))) (.pair (.sl (.sl (.int .i64))) .unit)) (.node .nil 214 (.fn (.pair (.sl (.int .i64)) (.pair (.sl (.int .i64)) (.pair (.fn (.pair (.int .i64) .unit) (.pair .bool .unit)) .unit))) (.pair (.sl (.int .i64)) .unit)) .nil))))) 215 (.fn (.pair (.sl zn) (.pair (.sl zn) (.pair (.fn (.pair zn (.pair zn .unit)) (.pair .bool .unit)) .unit))) (.pair .bool .unit)) (.node (.node (.node (.node (.node (.node .nil 216 (.fn (.pair (.sl (.sl (.int .i64))) (.pair (.sl (.sl (.int .i64))) (.pair (.fn (.pair (.sl (.int .i64)) (.pair (.sl (.int .i64)) .unit)) (.pair .bool .unit)) .unit))) (.pair .bool .unit)) .nil) 217 (.fn (.pair zm (.pair zp .unit)) (.pair (.sl (.int .i64)) .unit)) .nil) 218 (.fn (.pair (.sl zy) (.pair (.fn (.pair zy .unit) (.pair .bool .unit)) .unit)) (.pair (.ptr jT) .unit)) (.node .nil 220 (.fn .unit (.pair (.int .i64) (.pair (.int .i64) .unit))) .nil)) 221 (.st (.pair (.sl zy) (.pair (.fn (.pair zy .unit) (.pair .bool .unit)) .unit))) (.node (.node (.node .nil 222 jT .nil) 223 (.fn (.pair (.sl (.int .i64)) (.pair (.fn (.pair (.int .i64) .unit) (.pair .bool .unit)) .unit)) (.pair (.int .i64) .unit)) .nil) 224 (.fn (.pair (.sl zp) .unit) (.pair .bool .unit)) (.node .nil 225 (.fn (.pair (.sl qM) .unit) (.pair .bool .unit)) .nil))) 226 (.fn (.pair (.sl jc) (.pair (.sl zp) (.pair (.int .i64) .unit))) (.pair .bool .unit)) (.node (.node (.node (.node .nil 227 (.fn (.pair (.sl zcX) .unit) (.pair .bool .unit)) .nil) 228 (.fn (.pair zm (.pair zz (.pair zR (.pair (.int .i64) .unit)))) (.pair .bool .unit)) .nil) 229 (.fn (.pair zm (.pair zz (.pair (.int .i64) (.pair (.int .i64) .unit)))) (.pair .bool .unit)) (.node .nil 230 (.fn (.pair zm (.pair zn (.pair (.int .i64) .unit))) (.pair .bool .unit)) .nil)) 231 (.fn (.pair (.sl zo) (.pair (.int .i64) .unit)) (.pair (.int .u64) (.pair (.int .i64) .unit))) (.node (.node (.node .nil 232 (.fn (.pair (.sl zA) (.pair (.int .i64) .unit)) (.pair (.int .u64) (.pair (.int .i64) .unit))) .nil) 233 (.fn (.pair (.int .u64) (.pair (.int .u64) .unit)) (.pair (.int .u64) (.pair (.int .i64) .unit))) .nil) 234 (.sl (.fn (.pair zm .unit) (.pair .bool .unit))) (.node .nil 235 (.fn (.pair (.sl (.int .u8)) (.pair (.fn (.pair (.int .u8) .unit) (.pair .bool .unit)) .unit)) (.pair .bool .unit)) .nil)))) 236 (.sl (.int .u8)) (.node (.node (.node (.node (.node .nil 237 (.fn (.pair .str (.pair (.int .u8) .unit)) (.pair .str .unit)) .nil) 238 (.arr 256 .bool) .nil) 239 (.arr 256 .bool) (.node .nil 241 (.fn (.pair .str .unit) (.pair (.arr 256 .bool) (.pair .bool .unit))) .nil)) 242 (.fn (.pair .str (.pair (.ptr (.arr 256 .bool)) .unit)) (.pair .str .unit)) (.node (.node (.node .nil 243 (.ptr (.arr 256 .bool)) .nil) 244 (.fn (.pair zz (.pair tMe .unit)) (.pair zR .unit)) .nil) 245 (.fn (.pair (.fn (.pair (.int .i64) .unit) (.pair .bool .unit)) .unit) .unit) (.node .nil 246 (.fn (.pair (.fn (.pair (.int .i64) .unit) (.pair .bool .unit)) .unit) .unit) .nil))) 247 (.fn (.pair zp .unit) (.pair (.fn (.pair (.fn (.pair (.int .i64) .unit) (.pair .bool .unit)) .unit) .unit) .unit)) (.node (.node (.node (.node .nil 248 (.fn (.pair (.sl zp) (.pair zp .unit)) (.pair (.int .i64) .unit)) .nil) 249 (.fn (.pair (.sl qk) (.pair (.fn (.pair qk .unit) (.pair .bool .unit)) .unit)) (.pair .bool .unit)) .nil) 250 (.fn (.pair qk .unit) (.pair .bool .unit)) (.node .nil 251 (.fn (.pair (.sl z3) (.pair zR (.pair (.int .i64) .unit))) (.pair (.int .i64) .unit)) .nil)) 252 (.pair (.int .i64) (.int .i64)) (.node (.node .nil 253 (.fn (.pair zx (.pair zx .unit)) (.pair (.int .i64) .unit)) .nil) 254 (.st (.pair (.sl zA) (.pair (.fn (.pair zA .unit) (.pair .bool .unit)) .unit))) (.node .nil 255 vO .nil)))))) 256 (.sl (.int .u64)) (.node (.node (.node (.node (.node (.node (.node .nil 257 (.fn (.pair (.sl (.int .u64)) .unit) (.pair (.int .u64) (.pair (.int .i64) .unit))) .nil) 258 (.fn (.pair zz (.pair (.int .i64) (.pair (.fn (.pair zn .unit) (.pair (.arr 4 (.int .u64)) .unit)) .unit))) (.pair (.int .u64) (.pair (.int .i64) .unit))) .nil) 259 (.fn (.pair zn .unit) (.pair (.arr 4 (.int .u64)) .unit)) (.node .nil 260 (.fn (.pair (.sl (.arr 4 (.int .u64))) (.pair (.sl (.arr 4 (.int .u64))) .unit)) (.pair .bool .unit)) .nil)) 261 (.fn (.pair (.sl zR) (.pair (.sl zR) .unit)) (.pair .bool .unit)) (.node (.node (.node .nil 262 (.fn (.pair (.sl zy) (.pair (.fn (.pair zy .unit) (.pair .bool .unit)) .unit)) (.pair (.int .i64) .unit)) .nil) 263 (.fn (.pair zp (.pair zp .unit)) (.pair (.int .i64) .unit)) .nil) 264 (.fn (.pair (.int .i64) .unit) (.pair zp .unit)) (.node .nil 265 (.fn (.pair (.sl jc) (.pair (.int .i64) .unit)) (.pair .bool .unit)) .nil))) 266 (.fn (.pair (.sl zo) (.pair (.int .i64) (.pair (.int .i64) .unit))) (.pair .bool .unit)) (.node (.node (.node (.node .nil 267 (.fn (.pair zx (.pair zx .unit)) (.pair .bool .unit)) .nil) 268 (.fn (.pair zo (.pair (.int .i64) .unit)) (.pair (.int .u64) .unit)) .nil) 269 (.fn (.pair (.sl zp) (.pair (.fn (.pair zp .unit) (.pair .bool .unit)) .unit)) (.pair .bool .unit)) (.node .nil 270 (.fn (.pair qM .unit) (.pair .bool .unit)) .nil)) 271 (.fn (.pair (.sl qM) (.pair (.fn (.pair qM .unit) (.pair .bool .unit)) .unit)) (.pair .bool .unit)) (.node (.node (.node .nil 272 (.fn (.pair (.sl .str) .unit) (.pair .bool .unit)) .nil) 273 (.sl .str) .nil) 274 (.fn (.pair zm .unit) (.pair (.sl .str) .unit)) (.node .nil 275 (.fn (.pair (.sl zp) (.pair zp .unit)) (.pair .bool .unit)) .nil)))) 276 (.fn (.pair zcX .unit) (.pair (.sl (.int .i64)) .unit)) (.node (.node (.node (.node (.node .nil 277 (.fn (.pair (.sl (.int .u8)) (.pair (.fn (.pair (.int .u8) .unit) (.pair .bool .unit)) .unit)) (.pair (.int .i64) .unit)) .nil) 279 (.fn (.pair .str .unit) (.pair (.int .i32) (.pair (.int .i64) .unit))) .nil) 280 (.fn (.pair .str (.pair (.int .i32) .unit)) (.pair .bool .unit)) (.node .nil 281 (.fn (.pair (.int .u64) .unit) (.pair (.int .i64) .unit)) .nil)) 282 (.fn (.pair (.sl jc) (.pair (.fn (.pair jc .unit) (.pair .bool .unit)) .unit)) (.pair (.int .i64) .unit)) (.node (.node (.node .nil 283 (.fn (.pair jc .unit) (.pair .bool .unit)) .nil) 284 (.fn (.pair (.sl zn) (.pair (.fn (.pair zn .unit) (.pair .bool .unit)) .unit)) (.pair (.int .i64) .unit)) .nil) 285 (.fn (.pair (.sl qk) (.pair (.fn (.pair qk .unit) (.pair .bool .unit)) .unit)) (.pair (.int .i64) .unit)) (.node .nil 286 (.fn (.pair (.sl z3) (.pair (.fn (.pair z3 .unit) (.pair .bool .unit)) .unit)) (.pair (.int .i64) .unit)) .nil))) 287 (.fn (.pair (.sl zX) (.pair (.fn (.pair zX .unit) (.pair .bool .unit)) .unit)) (.pair (.int .i64) .unit)) (.node (.node (.node (.node .nil 288 (.st (.pair (.int .i64) (.pair (.int .i64) (.pair zR .unit)))) .nil) 289 ztW .nil) 290 (.fn (.pair zX .unit) (.pair ztW .unit)) (.node .nil 291 (.fn (.pair (.sl zA) (.pair (.fn (.pair zA .unit) (.pair .bool .unit)) .unit)) (.pair (.int .i64) .unit)) .nil)) 292 (.fn (.pair zdE .unit) (.pair .bool .unit)) (.node (.node (.node .nil 293 (.fn (.pair (.int .i64) (.pair (.int .u64) (.pair (.int .u64) .unit))) (.pair (.int .u64) (.pair (.int .i64) .unit))) .nil) 294 (.fn (.pair (.sl (.int .i64)) .unit) (.pair (.int .i64) .unit)) .nil) 295 (.fn (.pair (.int .u64) (.pair (.int .u64) .unit)) (.pair (.int .i64) .unit)) (.node .nil 296 (.fn (.pair (.int .i64) (.pair (.int .i64) .unit)) (.pair (.int .i64) .unit)) .nil))))) 297 (.fn (.pair (.sl zo) (.pair (.fn (.pair zo .unit) (.pair .bool .unit)) .unit)) (.pair (.int .i64) .unit)) (.node (.node (.node (.node (.node (.node .nil 298 (.fn (.pair (.sl zx) (.pair (.fn (.pair zx .unit) (.pair .bool .unit)) .unit)) (.pair (.int .i64) .unit)) .nil) 299 (.fn (.pair (.sl zR) (.pair (.fn (.pair zR .unit) (.pair .bool .unit)) .unit)) (.pair (.int .i64) .unit)) .nil) 300 (.fn (.pair (.sl zo) .unit) (.pair (.sl (.int .i64)) .unit)) (.node .nil 301 (.fn (.pair zo .unit) (.pair (.int .i64) .unit)) .nil)) 302 (.fn (.pair (.sl zA) .unit) (.pair (.ptr vO) .unit)) (.node (.node (.node .nil 304 (.fn (.pair (.int .u64) (.pair (.int .u64) (.pair (.int .u64) .unit))) (.pair (.int .u64) (.pair (.int .u64) .unit))) .nil) 305 (.fn (.pair (.sl zp) (.pair (.fn (.pair zp .unit) (.pair .bool .unit)) .unit)) (.pair (.int .i64) .unit)) .nil) 306 (.fn (.pair (.sl qM) (.pair (.fn (.pair qM .unit) (.pair .bool .unit)) .unit)) (.pair (.int .i64) .unit)) (.node .nil 307 (.pair .str (.int .i64)) .nil))) 308 (.fn (.pair .str (.pair (.int .i32) .unit)) (.pair (.int .i64) .unit)) (.node (.node (.node (.node .nil 309 (.arr 64 (.int .u8)) .nil) 310 (.fn (.pair (.int .u64) .unit) (.pair .bool .unit)) .nil) 311 (.ptr yK) (.node .nil 312 (.fn (.pair (.sl zo) .unit) (.pair (.ptr yK) .unit)) .nil)) 313 (.arr 256 (.int .u8)) (.node (.node (.node .nil 314 (.st (.pair (.int .u8) (.pair (.int .u8) .unit))) .nil) 315 zky .nil) 316 (.arr 16 zky) (.node .nil 317 (.fn (.pair .str (.pair (.int .u8) .unit)) (.pair (.int .i64) .unit)) .nil)))) 318 (.fn (.pair (.int .i32) .unit) (.pair .bool .unit)) (.node (.node (.node (.node (.node .nil 319 (.fn (.pair (.int .i64) .unit) (.pair (.int .i64) .unit)) .nil) 320 (.fn (.pair .str (.pair .str .unit)) (.pair (.int .i64) .unit)) .nil) 321 (.fn (.pair (.int .u64) (.pair (.int .u64) .unit)) (.pair (.int .u64) (.pair (.int .u64) .unit))) (.node .nil 322 (.fn (.pair (.sl zo) (.pair (.fn (.pair zo .unit) (.pair .bool .unit)) .unit)) (.pair (.ptr yK) .unit)) .nil)) 323 (.st (.pair (.sl zo) (.pair (.fn (.pair zo .unit) (.pair .bool .unit)) .unit))) (.node (.node (.node .nil 324 yK .nil) 325 (.fn .unit (.pair .str .unit)) .nil) 331 (.fn .unit (.pair (.int .i64) .unit)) (.node .nil 332 (.int .u32) .nil))) 333 (.int .u8) (.node (.node (.node (.node .nil 334 (.int .u8) .nil) 336 (.ptr (.int .u8)) .nil) 337 (.int .i32) (.node .nil 338 (.int .i32) .nil)) 341 (.fn (.pair zA .unit) (.pair (.sl zA) (.pair (.int .i64) (.pair (.int .i64) .unit)))) (.node (.node .nil 342 (.fn (.pair (.int .i64) (.pair zA .unit)) (.pair (.sl zA) (.pair (.int .i64) .unit))) .nil) 343 (.fn (.pair zo .unit) (.pair (.sl zo) (.pair (.int .i64) (.pair (.int .i64) .unit)))) (.node .nil 344 (.fn (.pair (.int .i64) (.pair zo .unit)) (.pair (.sl zo) (.pair (.int .i64) .unit))) .nil))))))))
def glob:List (Nat × AV):=[(0,.dat (.ptr (.arr 64 (.int .u8))) (some [0,1,56,2,57,49,28,3,61,58,42,50,38,29,17,4,62,47,59,36,45,43,51,22,53,39,33,30,24,18,12,5,63,55,48,27,60,41,37,16,46,35,44,21,52,32,23,11,54,26,40,15,34,20,31,10,25,14,19,9,13,8,7,6]))]
abbrev A_law31_TalkRests:Ty:=(.pair zm (.pair zz (.pair tMe (.pair jE (.pair zp .unit)))))
abbrev zst:Ty:=(.pair zp .unit)
abbrev zsu:Ty:=(.pair (.sl (.int .i64)) .unit)
abbrev zDe:Type:=(zr × Unit)→Option ((List Int) × Unit)
abbrev zA8 (g:Fnc zst zsu):Fun:=⟨126,zst,zsu,0,g⟩
def ext:List (Nat × Bool):=[(350,false),(368,true)]
def E0:Env:=⟨types,[],glob,0,false,ext,[],fun _=>none,false,false⟩
theorem zHg:Tryz.prog.follows .mixedOrders = true:=by kernel_rfl
theorem mkS {l:List Fun} {d:Bool} {F:Fun} {f:Go.Func} {K:Nat} (hl:Sds Tryz.prog E0 l) (hf:Tryz.prog.funcs[F.id]? = some f) (ho:jz f = true) (h:evF (En E0 d l) K f F.md F.a F.r = F.spec):Sd Tryz.prog E0 F:=Sd.mk zHg hl hf ho h
theorem zMf {l:List Fun} {d:Bool} {js:List Nat} {F:Fun} {f:Go.Func} {K:Nat} (hl:Sds Tryz.prog E0 l) (hf:Tryz.prog.funcs[F.id]? = some f) (ho:jz f = true) (h:evF (Ej E0 d js l) K f F.md F.a F.r = F.spec):Sd Tryz.prog E0 F:=Sd.mkJ zHg hl hf ho h
end Go.Proofs.YtkcakhbkoeimdaaGreatDoor
end
section
namespace Go.Proofs.YtkcakhbkoeimdaaGreatDoor
open Go.Ev Go.RowKit Go.Shelf Go.Proofs
attribute [local go_sem] Oper.semAt_some
def jM (c:Nat):List Nat:=(List.range 64).filter c.testBit
theorem zsv (p q:Nat→Bool) (k:Nat) (hp:∀ i,i < k→p i = false ∧ q i = false) (hk:p k = true ∧ q k = false) (hq:∀ i,k < i→p i = q i):∀ n,(List.range n).filter p = (if k < n then [k] else []) ++ (List.range n).filter q
 | 0=>rfl
 | n + 1=>by
  rw [List.range_succ,List.filter_append,List.filter_append,zsv p q k hp hk hq n]
  by_cases h1:k < n
  ·rw [if_pos h1,if_pos (by omega),List.append_assoc]
   have:=hq n h1
   simp [List.filter_cons,this]
  ·by_cases h2:k = n
   ·subst h2
    rw [if_neg h1,if_pos (by omega)]
    have e:(List.range k).filter q = []:=by
     rw [List.filter_eq_nil_iff]
     intro i hi
     rw [(hp i (by simpa using hi)).2]; simp
    simp [hk.1,hk.2,e]
   ·rw [if_neg h1,if_neg (by omega)]
    have:=hp n (by omega)
    simp [this.1,this.2]
theorem zlt {k m i:Nat}:(2 ^ k * (2 * m + 1)).testBit i = (decide (k ≤ i) && (decide (i = k) || (2 ^ k * (2 * m)).testBit i)) ∧ ((2 ^ k * (2 * m)).testBit i = true→k < i):=by
 rw [Nat.mul_comm (2 ^ k),Nat.mul_comm (2 ^ k),Nat.testBit_mul_two_pow,Nat.testBit_mul_two_pow]
 by_cases h:k ≤ i
 ·by_cases e:i = k
  ·subst e
   simp [Nat.testBit_zero]
  ·obtain ⟨j,rfl⟩:∃ j,i = k + (j + 1):=⟨i - k - 1,by omega⟩
   rw [show k + (j + 1) - k = j + 1 by omega,Nat.testBit_succ,Nat.testBit_succ,show (2 * m + 1) / 2 = m by omega,show 2 * m / 2 = m by omega]
   simp
 ·simp [h]
theorem zJ1 {k m:Nat}:(2 ^ k * (2 * m + 1)) &&& (2 ^ k * (2 * m + 1) - 1) = 2 ^ k * (2 * m):=by
 have e:2 ^ k * (2 * m + 1) - 1 = 2 ^ k * (2 * m) + (2 ^ k - 1):=by
  have:=Nat.two_pow_pos k
  rw [Nat.mul_add,Nat.mul_one]; omega
 apply Nat.eq_of_testBit_eq
 intro i
 rw [Nat.testBit_and,e,Nat.testBit_two_pow_mul_add _ (by have:=Nat.two_pow_pos k; omega)]
 have:=@zlt k m i
 rw [this.1]
 by_cases h:i < k
 ·have h2:(2 ^ k * (2 * m)).testBit i = false:=by
   cases hb:(2 ^ k * (2 * m)).testBit i with
   | false=>rfl
   | true=>have:=this.2 hb; omega
  simp [h2,h]
  omega
 ·have h3:(2 ^ k * (2 * m)).testBit i = (2 * m).testBit (i - k):=by
   rw [Nat.mul_comm,Nat.testBit_mul_two_pow]; simp; omega
  rw [if_neg h,h3]
  by_cases e:i = k
  ·subst e; simp [Nat.testBit_zero]
  ·simp [e]; omega
theorem zIY {c:Nat} (h0:c ≠ 0) (h:c < 18446744073709551616):jM c = Lib.ctz 64 c :: jM (c &&& (c - 1)):=by
 obtain ⟨m,hm,hk⟩:=Lib.ctzFrom_spec 64 c (by omega) h
 have e:Lib.ctz 64 c = Lib.ctzFrom 64 c:=by simp [Lib.ctz,h0]
 rw [e]
 generalize Lib.ctzFrom 64 c = k at hm hk
 subst hm
 rw [zJ1]
 unfold jM
 have hlow:∀ i,i ≤ k→(2 ^ k * (2 * m)).testBit i = false:=by
  intro i hi
  cases hb:(2 ^ k * (2 * m)).testBit i with
  | false=>rfl
  | true=>have:=zlt.2 hb; omega
 rw [zsv (2 ^ k * (2 * m + 1)).testBit (2 ^ k * (2 * m)).testBit k (fun i hi=>⟨by rw [zlt.1]; simp; omega,hlow i (by omega)⟩) ⟨by rw [zlt.1]; simp,hlow k (Nat.le_refl _)⟩ (fun i hi=>by rw [zlt.1]; simp [show k ≤ i by omega,show i ≠ k by omega]) 64,if_pos hk]
 rfl
theorem zIZ:jM 0 = []:=by
 unfold jM
 rw [List.filter_eq_nil_iff]
 intro i _
 simp
theorem zDf (c:Nat):(jM c).length ≤ 64:=by
 unfold jM
 have:=List.length_filter_le c.testBit (List.range 64)
 simpa using this
theorem zLB {c:Nat} (h0:c ≠ 0):c &&& (c - 1) < c:=by
 have:=@Nat.and_le_right c (c - 1)
 omega
def zm1 (w:World):Prop:=∀ j,j < Lib.deBruijn64tab.length→w.cell? ⟨0,j,none⟩ = some (.int .u8 (Lib.deBruijn64tab.getD j 0))
theorem zLC (x a:Nat) (hx:x < 18446744073709551616) (hx0:x ≠ 0) (hlow:x &&& (18446744073709551616 - x) = a) :
 IntKind.u64.wrap (bits BinOp.and IntKind.u64 (x:Int) (IntKind.u64.wrap (-(x:Int))) * 285870213051353865) / 288230376151711744 = ((a * 285870213051353865 % 18446744073709551616 / 288230376151711744:Nat):Int):=by
 have e1:IntKind.u64.wrap (-(x:Int)) = ((18446744073709551616 - x:Nat):Int):=by rw [IntKind.wrap_u64]; omega
 rw [e1,bits_and_u64_nat x _ hx (by omega),hlow,IntKind.wrap_u64]
 omega
set_option maxRecDepth 100000 in
set_option maxHeartbeats 1000000 in
theorem zKW (n:Nat) (x k idx:Nat) (w:World) (hx1:((x:Int) == 0) = false)
 (key:IntKind.u64.wrap (bits BinOp.and IntKind.u64 (x:Int) (IntKind.u64.wrap (-(x:Int))) * 285870213051353865) / 288230376151711744 = (idx:Int))
 (hi:idx < 64) (hk:k < 64) (hcell:w.cell? ⟨0,idx,none⟩ = some (.int .u8 k)) :
 CallsIn Fence.wide n Tryz.prog 317 #[.int .u64 x] w fun e w'=>e = .returned (.int .i64 k) ∧ w' = w:=by
 refine callsIn_of_wp Tryz.func317 rfl trivial ?_ rfl
 simp only [show Tryz.f317.ntmps = 14 by kernel_rfl,List.size_toArray,List.length_cons,List.length_nil,Nat.reduceAdd,Nat.reduceSub,Array.replicate_succ,Array.replicate_zero,List.push_toArray,List.append_toArray,List.nil_append,List.cons_append]
 gi_wp2_with (simp only [key])
 go_ret
 exact ⟨rfl,rfl⟩
theorem zL0 (n:Nat) (x:Nat) (hx:x < 18446744073709551616) (hx0:x ≠ 0) (w:World) (hT:zm1 w) :
 CallsIn Fence.wide n Tryz.prog 317 #[.int .u64 x] w fun e w'=>e = .returned (.int .i64 (Lib.ctz 64 x)) ∧ w' = w:=by
 obtain ⟨hlow,hk⟩:=Lib.lowest_bit 64 x hx0 hx
 obtain ⟨hi,htab⟩:=Lib.deBruijn64_at _ hk
 have hcell:=hT _ hi
 rw [htab] at hcell
 exact zKW n x _ _ w (by simp; omega) (zLC x _ hx hx0 hlow) hi hk hcell
theorem zDg {x:Nat} (hx:x < 18446744073709551616):IntKind.u64.wrap (x:Int) = (x:Int):=by rw [IntKind.wrap_u64]; omega
theorem zJ2 (c:Nat) (h0:c ≠ 0) (h:c < 18446744073709551616):bits BinOp.and IntKind.u64 (c:Int) (IntKind.u64.wrap ((c:Int) - 1)) = ((c &&& (c - 1):Nat):Int):=by
 rw [show ((c:Int) - 1) = ((c - 1:Nat):Int) by omega,zDg (by omega),bits_and_u64_nat c _ h (by omega)]
def zKE (v:Value):Nat:=match v with | .int _ n=>n.toNat | _=>0
set_option maxRecDepth 100000 in
set_option maxHeartbeats 1000000 in
theorem zKX (n:Nat) (l Bn n₀:Nat) (lev:Int) (c0:Nat) (h64:c0 < 18446744073709551616) (hn₀:0 + 1 ≤ n₀) (J Jx:List Nat→World→Prop)
 (hY:∀ pre x W,J pre W→pre.length < (jM c0).length→YieldAt Fence.wide (n - 1) Tryz.prog l #[.int .i64 (x:Nat)] W fun e W' =>
  (e = .returned (.bool true) ∧ J (pre ++ [x]) W' ∧ Below n₀ W W') ∨ (e = .returned (.bool false) ∧ Jx (pre ++ [x]) W'))
 (W:World) (hBn:W.cell? ⟨Bn,0,none⟩ = some (.int .i64 lev)) (hBn1:W.cell? ⟨Bn,1,none⟩ = some (.int .u64 c0)) (hT:zm1 W) (h0:J [] W) :
 CallsIn Fence.wide n Tryz.prog 316 #[.func (.yield l) #[] #[],.pointer (some ⟨Bn,0,none⟩)] W fun e W'=>(∃ v,e = .returned v) ∧
  ((∃ ys,ys = jM c0 ∧ J ys W') ∨ (∃ pre,pre <+: jM c0 ∧ Jx pre W')):=by
 refine callsIn_of_wp Tryz.func316 rfl trivial ?_ rfl
 simp only [show Tryz.f316.ntmps = 17 by kernel_rfl,List.size_toArray,List.length_cons,List.length_nil,Nat.reduceAdd,Nat.reduceSub,Array.replicate_succ,Array.replicate_zero,List.push_toArray,List.append_toArray,List.nil_append,List.cons_append]
 gi_wp2
 gi_loopw [3] (fun p wr=>∃ (pre:List Nat) (c:Nat),p = .int .u64 c ∧ c < 18446744073709551616 ∧ jM c0 = pre ++ jM c ∧ zm1 wr ∧ J pre wr)
  (fun p wr=>zKE p)
 case atStart =>
  exact ⟨[],c0,rfl,h64,rfl,hT,h0⟩
 case round =>
  obtain ⟨pre,c,rfl,hc,hx,hTr,hJs⟩:=hrel
  by_cases hz:c = 0
  ·subst hz
   gi_wp2
   go_end0
   exact ⟨⟨_,rfl⟩,.inl ⟨pre,by rw [hx,zIZ,List.append_nil],hJs⟩⟩
  ·have hx':=hx
   rw [zIY hz hc] at hx'
   obtain ⟨fn,tmps,assign,body,hy,hR⟩:=hY pre (Lib.ctz 64 c) wr hJs (by rw [hx']; simp)
   have hz1:((c:Int) == 0) = false:=by simp; omega
   gi_wp2
   refine ⟨trivial,fun h=>(by cases h),(zL0 (n - 1) c hc hz wr hTr).mono ?_⟩
   rintro e w' ⟨rfl,hw'⟩
   subst hw'
   gi_wp2
   refine ⟨fun h=>(by cases h),hR.mono ?_⟩
   rintro e W3 (⟨rfl,hJ3,hk3⟩ | ⟨rfl,hJx3⟩)
   ·have hT3:zm1 W3:=fun j hj=>(hk3.cell (p:=⟨0,j,none⟩) (show 0 < _ by omega)).trans (hTr j hj)
    have hk:bits BinOp.and IntKind.u64 (c:Int) ((c:Int) - 1) = ((c &&& (c - 1):Nat):Int):=by rw [← zJ2 c hz hc,IntKind.wrap_u64]; congr 1; omega
    gi_wp2
    go_roundw
    case rel=>exact ⟨pre ++ [Lib.ctz 64 c],c &&& (c - 1),rfl,Nat.lt_of_le_of_lt Nat.and_le_left hc,by rw [hx',List.append_assoc]; rfl,hT3,hJ3⟩
    case measure=>simp [zKE]; exact zLB hz
   ·gi_wp2
    refine bodyPost_ret (results_none rfl _ _ _) rfl ?_
    exact ⟨⟨_,rfl⟩,.inr ⟨pre ++ [Lib.ctz 64 c],⟨jM (c &&& (c - 1)),by rw [hx',List.append_assoc]; rfl⟩,hJx3⟩⟩
set_option maxHeartbeats 1000000 in
theorem zJ3 (n:Nat) (lev:Int) (c:Nat) (w:World) :
 CallsIn Fence.wide n Tryz.prog 230 #[.agg #[.int .i64 lev,.int .u64 c]] w fun e w'=>e = .returned (.func (.func 316) #[] #[.pointer (some ⟨w.heap.size,0,none⟩)]) ∧ w' = w.alloc (.cells #[.int .i64 lev,.int .u64 c] 72):=by
 refine callsIn_of_wp Tryz.func230 rfl trivial ?_ rfl
 simp only [show Tryz.f230.ntmps = 4 by kernel_rfl,List.size_toArray,List.length_cons,List.length_nil,Nat.reduceAdd,Nat.reduceSub,Array.replicate_succ,Array.replicate_zero,List.push_toArray,List.append_toArray,List.nil_append,List.cons_append]
 gi_wp2
 go_ret
 exact ⟨rfl,rfl⟩
theorem zHh (n:Nat) (Bn n₀:Nat) (lev:Int) (c0:Nat) (h64:c0 < 18446744073709551616) (w:World) (hBn:Bn < w.heap.size) (hn₀:0 + 1 ≤ n₀) (hn1:n₀ ≤ w.heap.size)
 (hc:w.cell? ⟨Bn,0,none⟩ = some (.int .i64 lev)) (hc1:w.cell? ⟨Bn,1,none⟩ = some (.int .u64 c0)) (hT:zm1 w) :
 SeqStopsK Fence.wide n Tryz.prog 316 #[.pointer (some ⟨Bn,0,none⟩)] (fun x:Nat=>#[Value.int .i64 x]) (Below n₀) (fun ys=>ys = jM c0) (fun pre=>pre <+: jM c0) (jM c0).length w:=fun l J Jx W hW _ _ hY h0 =>
 zKX n l Bn n₀ lev c0 h64 hn₀ J Jx hY W ((hW.cell (p:=⟨Bn,0,none⟩) hBn).trans hc) ((hW.cell (p:=⟨Bn,1,none⟩) hBn).trans hc1) (fun j hj=>(hW.cell (p:=⟨0,j,none⟩) (show 0 < _ by omega)).trans (hT j hj)) h0
theorem zL1:(Tryz.prog.info? 3).map (fun i=>(i.zero,i.size,i.bytes)) = some (some (.int .i64 0),1,8):=by kernel_rfl
theorem zL2:Tryz.prog.underlying 23 = some (.slice 3):=by kernel_rfl
set_option maxRecDepth 100000 in
set_option maxHeartbeats 2000000 in
theorem zKY (n:Nat) (hn:1 ≤ n) (lev:Int) (c:Nat) (h64:c < 18446744073709551616) (w:World) (hs:0 + 1 ≤ w.heap.size) (hT:zm1 w) :
 CallsIn Fence.wide n Tryz.prog 126 #[.agg #[.int .i64 lev,.int .u64 c]] w fun e W'=>∃ v,e = .returned v ∧ W'.ownsRow w.heap.size 3 1 v (jM c).length ((jM c).map fun x=>Value.int .i64 (x:Nat)) ∧ Below w.heap.size w W':=by
 obtain ⟨i0,hi,hz0,hz1,hz2⟩:=info_parts zL1
 refine callsIn_of_wp_marks Tryz.func126 rfl trivial ?_ rfl
 simp only [show Tryz.f126.ntmps = 13 by kernel_rfl,List.size_toArray,List.length_cons,List.length_nil,Nat.reduceAdd,Nat.reduceSub,Array.replicate_succ,Array.replicate_zero,List.push_toArray,List.append_toArray,List.nil_append,List.cons_append]
 gi_wp2
 refine ⟨trivial,(zJ3 (n - 1) lev c _).mono ?_⟩
 rintro e w' ⟨rfl,rfl⟩
 gi_wp2
 have bO:Boxed (((w.alloc (.cells #[.int .i64 lev,.int .u64 c] 72)).alloc (.cells #[.slice none 0 0] 23)).alloc (.cells #[.int .i64 lev,.int .u64 c] 72)) (w.heap.size + 1) 23 (.slice none 0 0):=by
  have:=Boxed.new (w.alloc (.cells #[.int .i64 lev,.int .u64 c] 72)) 23 (.slice none 0 0)
  rw [World.size_alloc] at this
  exact this.alloc _
 have hB0:Below w.heap.size w (((w.alloc (.cells #[.int .i64 lev,.int .u64 c] 72)).alloc (.cells #[.slice none 0 0] 23)).alloc (.cells #[.int .i64 lev,.int .u64 c] 72)):=(((Below.refl _ w).alloc (Nat.le_refl _) _).alloc (by simp) _).alloc (by simp; omega) _
 have hz:(((w.alloc (.cells #[.int .i64 lev,.int .u64 c] 72)).alloc (.cells #[.slice none 0 0] 23)).alloc (.cells #[.int .i64 lev,.int .u64 c] 72)).heap.size = w.heap.size + 1 + 1 + 1:=by simp
 have hbx:(((w.alloc (.cells #[.int .i64 lev,.int .u64 c] 72)).alloc (.cells #[.slice none 0 0] 23)).alloc (.cells #[.int .i64 lev,.int .u64 c] 72)).heap[w.heap.size + 1 + 1]? = some (.cells #[.int .i64 lev,.int .u64 c] 72 (0,0)):=by
  have:=World.alloc_heap_new ((w.alloc (.cells #[.int .i64 lev,.int .u64 c] 72)).alloc (.cells #[.slice none 0 0] 23)) (.cells #[.int .i64 lev,.int .u64 c] 72)
  simpa [World.size_alloc] using this
 have hT1:zm1 (((w.alloc (.cells #[.int .i64 lev,.int .u64 c] 72)).alloc (.cells #[.slice none 0 0] 23)).alloc (.cells #[.int .i64 lev,.int .u64 c] 72)):=fun j hj=>(hB0.cell (p:=⟨0,j,none⟩) (show 0 < _ by omega)).trans (hT j hj)
 generalize (((w.alloc (.cells #[.int .i64 lev,.int .u64 c] 72)).alloc (.cells #[.slice none 0 0] 23)).alloc (.cells #[.int .i64 lev,.int .u64 c] 72)) = w1 at bO hB0 hz hbx hT1
 refine wpIn_rangeFunc_ownG rfl (n:=n) hn (gf:=316) (lb:=#[.pointer (some ⟨w.heap.size + 1 + 1,0,none⟩)]) rfl trivial (enters_of Tryz.func316 (by kernel_rfl) rfl)
  (zHh (n - 1) (w.heap.size + 1 + 1) w.heap.size lev c h64 w1 (by omega) hs (by omega) (by simp [World.cell?,hbx]) (by simp [World.cell?,hbx]) hT1) belowK_t (belowK_b (by omega)) (Below.refl _ _) (fun _=>rfl)
  (fun pre W=>(∃ v,Boxed W (w.heap.size + 1) 23 v ∧ W.ownsRow w.heap.size 3 1 v pre.length (pre.map fun x=>Value.int .i64 (x:Nat)) ∧ True) ∧ Below w.heap.size w W)
  (fun _ _ _=>False)
  (OwnFrom.and (Own.from (holdsRow_own w.heap.size (w.heap.size + 1) 23 3 1 (fun pre:List Nat=>pre.length) (fun pre:List Nat=>pre.map fun x=>Value.int .i64 (x:Nat)) (fun _ _=>True)) _) (ownFrom_below (Nat.le_refl _) (by omega)))
  (fun _ _ _ _ _ hs _ _=>hs)
  ⟨⟨_,bO,World.ownsRow_nil _ _ _ _,trivial⟩,hB0⟩
  (fun x=>{ tmps:=#[.agg #[.int .i64 lev,.int .u64 c],.pointer (some ⟨w.heap.size,0,none⟩),.slice none 0 0,.pointer (some ⟨w.heap.size + 1,0,none⟩),.int .i64 (x:Nat),.agg #[.int .i64 lev,.int .u64 c],.func (.func 316) #[] #[.pointer (some ⟨w.heap.size + 1 + 1,0,none⟩)],.int .i64 (x:Nat),undef,undef,undef,undef,undef],defers:=[] }) ?assign ?body ?done ?stop
 case assign =>
  intro l x W K hK
  gi_wp2
  exact hK
 case body =>
  rintro l pre x W ⟨⟨v,hv,hrow,-⟩,hB⟩ hlt
  have hc:=hv.cell
  have hl64:=zDf c
  gi_wp2_with (gi_at_builtin; refine wpListIn_append_own _ rfl _ _ 23 rfl w.heap.size 3 i0 (.int .i64 0) 1 8 zL2 hi hz0 hz1 hz2 rfl (by decide) _ _ _ rfl (hrow.alloc _) ⟨W.heap.size,0,none⟩ 1 1 [.int .i64 (x:Nat)] rfl rfl (cell_one_new _ _ _) (by simp [Value.oneCell']) (by simp only [Go.maxLen]; omega) (by omega) (by have:=hB.size; simp; omega) ?_; intro v' w1' hown' hgrow _; obtain ⟨g',cap',rfl⟩:=ownsRow_succ hown'; obtain ⟨hv1,hv2,hr2,hk2,hb2⟩:=hv.appended (by decide) hrow hB.size (by omega) hown' hgrow; have hc1:=hv1.cell; have hf1:=hv1.frozen)
  exact ⟨hk2.from _,hb2,⟨_,hv2,by simpa using hr2,trivial⟩,hB.trans hb2⟩
 case done =>
  rintro D ys W hD rfl ⟨⟨v,hv,hrow,-⟩,hB⟩ hK
  have hc:=hv.cell
  gi_wp2
  refine ⟨by simp,.inl ⟨_,_,rfl,run_takeDeferred hK,?_⟩⟩
  exact ⟨_,results_tmp rfl _ _ _,v,rfl,ownsRow_putObj hrow _ hK rfl,hB.trans (belowK_b (w:=w) (Nat.le_refl _) W D _ _ (by omega) hK rfl rfl)⟩
 case stop =>
  rintro D c pre W _ _ h _
  exact h.elim
def zeV:zDe:=fun x=>bif decide (0 ≤ x.1.2.1 ∧ x.1.2.1 < 18446744073709551616) then some ((jM x.1.2.1.toNat).map Int.ofNat,()) else none
theorem zJ4 {G F0:FH} {w:World} (hE:EnvOk Tryz.prog G E0) (hG:G.le F0) (hk:F0.ok w):zm1 w ∧ 0 + 1 ≤ w.heap.size:=by
 obtain ⟨τ,x,cs,h1,⟨-,c,h2,h3⟩,h4⟩:=hE.glob 0 _ rfl
 cases h1
 obtain ⟨-,hr⟩:=h4
 obtain ⟨el,fz,hw⟩:=hk _ _ (hG _ _ h2)
 have hlt:=(Array.getElem?_eq_some_iff.1 hw).1
 refine ⟨fun j hj=>?_,hlt⟩
 have key:∀ (l:List Int) (cs:List Value) (j:Nat),RepL ((RR Tryz.prog (.int .u8)).1 G) l cs→j < l.length→cs[j]? = some (.int .u8 (l.getD j 0)):=by
  intro l
  induction l with
  | nil=>intro cs j _ h; simp at h
  | cons x l ih =>
   rintro cs j ⟨d,e,rfl,hd,he⟩ hj
   have hd:d = [.int .u8 x]:=hd
   subst hd
   cases j with
   | zero=>rfl
   | succ j=>simpa using ih e j he (by simpa using hj)
 have h5:=key _ _ j hr (by simpa [Lib.deBruijn64tab] using hj)
 have h6:=h3 j _ h5
 have e:∀ j,j < 64→((([0,1,56,2,57,49,28,3,61,58,42,50,38,29,17,4,62,47,59,36,45,43,51,22,53,39,33,30,24,18,12,5,63,55,48,27,60,41,37,16,46,35,44,21,52,32,23,11,54,26,40,15,34,20,31,10,25,14,19,9,13,8,7,6]:List Int)).getD j 0) = ((Lib.deBruijn64tab.getD j 0:Nat):Int):=by decide +kernel
 rw [e j (by simpa [Lib.deBruijn64tab] using hj)] at h6
 unfold World.cell?
 simp only [hw]
 simpa using h6
theorem zAK (P:Program) (F:FH):∀ l:List Nat,RepL (Rep P F (.int .i64)) (l.map Int.ofNat) (l.map fun x=>Value.int .i64 (x:Nat))
 | []=>rfl
 | x :: l=>⟨[.int .i64 (x:Nat)],l.map fun x=>Value.int .i64 (x:Nat),rfl,rfl,zAK P F l⟩
theorem zDh:Sd Tryz.prog E0 (zA8 zeV):=by
 intro G hE
 refine ⟨⟨Tryz.f126,Tryz.func126,by kernel_rfl,by kernel_rfl⟩,?_⟩
 rintro ⟨⟨(lev:Int),(comps:Int),⟨⟩⟩,⟨⟩⟩ y hy F0 w vs hG hk ⟨v,r,rfl,h1,h2,h3⟩
 obtain ⟨hd,hy⟩:=zb hy
 cases hy
 obtain ⟨hc0,hc1⟩:=of_decide_eq_true hd
 have hc0:0 ≤ comps:=hc0
 have hc1:comps < 18446744073709551616:=hc1
 clear hd
 obtain rfl:r = []:=h3
 obtain ⟨hT,hs⟩:=zJ4 hE hG hk
 obtain ⟨c,rfl⟩:=Int.eq_ofNat_of_zero_le hc0
 have hv:v = .agg #[.int .i64 lev,.int .u64 c]:=by
  obtain ⟨d1,e1,k1,(rfl:d1 = _),d2,e2,rfl,(rfl:d2 = _),(rfl:e2 = _)⟩:=h1
  have h2:isAggV v = true:=h2
  cases v with
  | agg cs =>
   have:cs.toList = [.int .i64 lev,.int .u64 c]:=k1
   rw [← Array.toArray_toList (xs:=cs),this]
  | _=>cases h2
 subst hv
 have hin:=callsIn_wide.1 (zKY 1 (Nat.le_refl _) lev c (by omega) w hs hT)
 refine hin.mono ?_
 rintro e W' ⟨v,rfl,hrow,hB⟩
 have hlow:∀ k c',F0 k = some c'→k < w.heap.size:=fun k c' hk'=>by
  obtain ⟨el,fz,hw⟩:=hk _ _ hk'
  exact (Array.getElem?_eq_some_iff.1 hw).1
 let F':FH:=fun k=>if k < w.heap.size then F0 k else FH.of W' k
 have hF':∀ k c',F' k = some c'→∃ el fz,W'.heap[k]? = some (.cells c' el fz):=by
  intro k c' h
  simp only [F'] at h
  split at h
  ·rename_i hlt
   obtain ⟨el,fz,hw⟩:=hk _ _ h
   exact ⟨el,fz,(hB.block k hlt).trans hw⟩
  ·exact FH.of_ok W' _ _ h
 refine ⟨[v],F',rfl,hB,⟨fun k c' hk'=>?_,fun k hk'=>?_⟩,hF',?_⟩
 ·simp only [F']; rw [if_pos (hlow k c' hk')]; exact hk'
 ·simp only [F']; rw [if_pos hk']
 ·show RepA Tryz.prog F' (.pair (.sl tI) .unit) ((jM c).map Int.ofNat,()) [v]
  have hlen:List.length ((jM c).map Int.ofNat) = (jM c).length:=List.length_map ..
  have hr:=zAK Tryz.prog F' (jM c)
  generalize (jM c).map Int.ofNat = L at hlen hr ⊢
  rcases hrow.2 with ⟨rfl,h0⟩ | ⟨g,cap,cur,rfl,hgb,hw,hnc,-,-,htake⟩
  ·obtain rfl:L = []:=List.eq_nil_of_length_eq_zero (by omega)
   exact ⟨_,[],rfl,⟨none,0,rfl,Nat.le_refl _,fun hne=>absurd rfl hne⟩,rfl,rfl⟩
  ·refine ⟨_,[],rfl,⟨some ⟨g,0,none⟩,cap,?_,(show List.length L ≤ cap by omega),fun _=>⟨_,_,rfl,⟨rfl,cur,?_,fun j u hj=>?_⟩,hr⟩⟩,rfl,rfl⟩
   ·show _ = [Value.slice _ (List.length L) cap]
    rw [hlen]; rfl
   ·show (if g < w.heap.size then F0 g else FH.of W' g) = some cur
    rw [if_neg (by omega)]
    simp only [FH.of,hw]
   ·rw [← htake] at hj
    have:=List.getElem?_eq_some_iff.1 hj
    obtain ⟨h1,h2⟩:=this
    rw [List.getElem_take] at h2
    show cur[0 + j]? = _
    rw [Nat.zero_add,← Array.getElem?_toList,List.getElem?_eq_getElem (by rw [List.length_take] at h1; omega),h2]
end Go.Proofs.YtkcakhbkoeimdaaGreatDoor
end
section
namespace Go.Proofs.YtkcakhbkoeimdaaGreatDoor
open Go.Ev Go.RowKit Go.Shelf Go.Proofs Go.Lib
set_option maxHeartbeats 4000000 in
theorem zJ5 {u1:Value} {g:FuncId} {first caps:Array Value} {w:World} {Q:World→Prop}
 (hIF:Calls Tryz.prog 195 #[u1,.func (.func g) first caps] w fun e w'=>e = .returned (.int .i64 (-1)) ∧ Q w') (hd:∀ w,Q w→Q w.drew) :
 Calls Tryz.prog 104 #[u1,.func (.func g) first caps] w fun e w'=>e = .returned u1 ∧ Q w':=by
 have HD:Aside _:=hd
 clear hd
 go_enter Tryz.func104,Tryz.ntmps104
 go_wp2_with (go_at_call 195; refine hIF.mono ?_; rintro e w' ⟨rfl,hQ⟩)
 go_ret
 exact ⟨rfl,hQ⟩
set_option maxHeartbeats 4000000 in
theorem zJ6 {b cap k0:Nat} {g:FuncId} {first caps:Array Value} {w:World} {xs:List Int} {q:Int→Bool} (R:List Int→World→Prop) (hlen:xs.length ≤ 9223372036854775807) (hcap:xs.length ≤ cap)
 (eg:∀ args w,(callFunc g args).run Tryz.prog w = .ok (.enter g args) w)
 (hIF:Calls Tryz.prog 195 #[.slice (some ⟨b,0,none⟩) xs.length cap,.func (.func g) first caps] w fun e w'=>e = .returned (.int .i64 (k0:Nat)) ∧ R xs w')
 (hcell:∀ ys w,R ys w→∀ j,j < ys.length→w.cell? ⟨b,j,none⟩ = some (.int .i64 (ys.getD j 0)) ∧ w.frozen? ⟨b,j,none⟩ = false)
 (hset:∀ ys w i v,R ys w→i < ys.length→R (ys.set i v) (w.setCell ⟨b,i,none⟩ (.int .i64 v)))
 (hdrew:∀ ys w,R ys w→R ys w.drew)
 (hcall:∀ ys w x,R ys w→x ∈ xs→Calls Tryz.prog g (first ++ #[.int .i64 x] ++ caps) w fun e w'=>e = .returned (.bool (q x)) ∧ R ys w')
 (hclear:∀ ys w i k,R ys w→i + k ≤ ys.length→∃ ys':List Int,ys'.length = ys.length ∧ ys'.take i = ys.take i ∧ R ys' (w.setCells b i (List.replicate k (.int .i64 0))))
 (hk0:k0 < xs.length) (hhit:q (xs.getD k0 0) = true) (hbefore:∀ j,j < k0→q (xs.getD j 0) = false) :
 Calls Tryz.prog 104 #[.slice (some ⟨b,0,none⟩) xs.length cap,.func (.func g) first caps] w fun e w'=>∃ (ys:List Int) (i:Nat),e = .returned (.slice (some ⟨b,0,none⟩) i cap) ∧ R ys w' ∧ ys.take i = xs.filter (fun x=>!q x) ∧ i ≤ ys.length:=by
 have hne1:((k0:Int) == -1) = false:=beq_eq_false_iff_ne.2 (by omega)
 have IS:Aside _:=zeA.start hk0 hhit hbefore
 have A1:Aside _:=hcell
 have A2:Aside _:=hset
 have A3:Aside _:=hdrew
 have A4:Aside _:=hcall
 have A5:Aside _:=hclear
 clear hcell hset hdrew hcall hclear hhit hbefore
 go_enter Tryz.func104,Tryz.ntmps104
 go_wp2_with (go_at_call 195; refine hIF.mono ?_; rintro e w' ⟨rfl,hR0⟩)
 go_loopg [5,6,7] xs.length (fun gg s5 s6 _ wr=>∃ (i j:Nat) (ys:List Int),s5 = .int .i64 i ∧ s6 = .int .i64 j ∧ xs.length - j ≤ gg ∧ Aside (R ys wr ∧ zeA q xs j i ys))
 case atStart=>exact ⟨k0,k0 + 1,xs,rfl,by go_num,by omega,⟨hR0,IS.out⟩⟩
 case round =>
  obtain ⟨i,j,ys,rfl,rfl,hgg,B⟩:=hrel
  have hij:=B.out.2.lt
  have hje:=B.out.2.le
  have hyl:=B.out.2.len
  by_cases hlt:j < xs.length
  ·have hltz:(j:Int) < (xs.length:Int):=by omega
   obtain ⟨cj,_⟩:=A1.out ys wr B.out.1 j (by omega)
   rw [B.out.2.get (Nat.le_refl j)] at cj
   have hmem:xs.getD j 0 ∈ xs:=by
    have e2:xs.getD j 0 = xs[j]'hlt:=by simp [List.getD,hlt]
    rw [e2]; exact List.getElem_mem _
   have hcall:=A4.out ys wr _ B.out.1 hmem
   generalize hu:xs.getD j 0 = u at cj hcall
   have C:Aside (xs.getD j 0 = u):=hu
   clear hu hmem
   cases hq:q u with
   | false =>
    rw [hq] at hcall
    go_wp2_with (go_at_fn g; refine hcall.mono ?_; rintro e w' ⟨rfl,hR1⟩; obtain ⟨ci,fi⟩:=A1.out ys w' hR1 i (by omega); generalize ys.getD i 0 = old at ci)
    go_roundg (xs.length - (j + 1))
    case measure=>omega
    case rel =>
     refine ⟨i + 1,j + 1,_,by go_num,by go_num,Nat.le_refl _,⟨?_,B.out.2.keep hlt (by rw [C.out]; exact hq)⟩⟩
     rw [C.out]
     exact A2.out _ _ _ _ hR1 (by omega)
   | true =>
    rw [hq] at hcall
    go_wp2_with (go_at_fn g; refine hcall.mono ?_; rintro e w' ⟨rfl,hR1⟩)
    go_roundg (xs.length - (j + 1))
    case measure=>omega
    case rel=>exact ⟨i,j + 1,ys,rfl,by go_num,Nat.le_refl _,⟨hR1,B.out.2.skip hlt (by rw [C.out]; exact hq)⟩⟩
  ·obtain rfl:j = xs.length:=by omega
   have hltz:¬ (xs.length:Int) < (xs.length:Int):=by omega
   have hcl:∀ ty,(Builtin.clear_ #[23] ty #[.slice (some ⟨b,i,none⟩) (xs.length - i) (cap - i)]).run Tryz.prog wr = .ok (.tuple #[]) (wr.setCells b i (List.replicate (xs.length - i) (.int .i64 0))) :=
    fun ty=>Lib.run_clear_slice wr 23 3 ty _ Tryz.underlying23 Tryz.zeroValue3 rfl rfl b i _ _ (by omega) (fun t ht=>by
     have:=A1.out ys wr B.out.1 (i + t) (by omega)
     rw [this.1]; rfl) (fun t ht=>by exact (A1.out ys wr B.out.1 (i + t) (by omega)).2)
   go_wp2
   go_ret
   obtain ⟨ys',e1,e2,hR'⟩:=A5.out ys wr i (xs.length - i) B.out.1 (by omega)
   exact ⟨ys',i,rfl,hR',by rw [e2]; exact B.out.2.done,by omega⟩
set_option maxHeartbeats 4000000 in
theorem zJ7 {G:FH} {specI:(List Int × Option (Int × Unit→Option (Bool × Unit)) × Unit)→Option (Int × Unit)}
 (hI:zkd Tryz.prog G 195 ⟨195,.pair (.sl (.int .i64)) (.pair (.fn (.pair (.int .i64) .unit) (.pair .bool .unit)) .unit),.pair (.int .i64) .unit,0,specI⟩)
 (hs:∀ (xs:List Int) (p:Int × Unit→Option (Bool × Unit)),(∀ x ∈ xs,(p (x,())).isSome = true)→xs.length ≤ 9223372036854775807→∃ i:Int,specI (xs,some p,()) = some (i,()) ∧
  ((i = -1 ∧ ∀ j,j < xs.length→zkh p (xs.getD j 0) = false) ∨ ∃ k:Nat,k < xs.length ∧ i = (k:Int) ∧ zkh p (xs.getD k 0) = true ∧ ∀ j,j < k→zkh p (xs.getD j 0) = false)):zCE Tryz.prog G 104 zxq:=by
 refine ⟨⟨Tryz.f104,Tryz.func104,by kernel_rfl,by kernel_rfl⟩,?_⟩
 intro args h h' v he nt F0 w0 fr m F a w vs hG hR hv
 change zzg (AV × List Go.Ev.Obj) args h (fun v h=>some (v,h)) = some (v,h') at he
 unfold zzg at he
 split at he
 case h_2=>cases he
 rename_i id p
 split at he
 case h_2=>cases he
 rename_i xs ho
 obtain ⟨ys,hys,he⟩:=Option.bind_eq_some_iff.1 he
 simp only [Option.some.injEq,Prod.mk.injEq] at he
 obtain ⟨rfl,rfl⟩:=he
 obtain ⟨hall,hys⟩:=zb hys
 obtain ⟨hlen,hys⟩:=zb hys
 have hlen:=of_decide_eq_true hlen
 simp only [Option.some.injEq] at hys
 rw [List.all_eq_true] at hall
 obtain ⟨u1,r1,rfl,hv1,u2,r2,rfl,hv2,rfl⟩:=hv
 obtain ⟨g,first,caps,e,hen,hcall⟩:=zh.one (st:=⟨fr,h⟩) (m:=m) rfl hv2
 obtain rfl:u2 = .func (.func g) first caps:=by simpa using e
 have hcallAt:∀ x,x ∈ xs→∀ (F':FH) (w':World),F.le F'→F'.ok w'→Calls Tryz.prog g (first ++ #[.int .i64 x] ++ caps) w' fun e w''=>e = .returned (.bool (zkh p x)) ∧ Below w'.heap.size w' w'' ∧ ∃ F'',F'.grow F'' w'.heap.size ∧ F''.ok w'':=by
  intro x hx F' w' hF hk
  obtain ⟨⟨y,⟨⟩⟩,hy⟩:=Option.isSome_iff_exists.1 (hall x hx)
  refine (hcall (x,()) _ hy F' w' [.int .i64 x] hF hk ⟨_,[],rfl,rfl,rfl,rfl⟩).mono ?_
  rintro e w'' ⟨us,F'',rfl,hb,hg,hok,v,r,rfl,h1,h2,h3⟩
  obtain rfl:r = []:=h3
  have h1:v.cells.toList = [.bool y]:=h1
  have e1:zkh p x = y:=by unfold zkh; rw [hy]
  rw [e1]
  exact ⟨by rw [show v = .bool y from zsd h1 h2]; rfl,hb,F'',hg,hok⟩
 obtain ⟨F1,hF1,hk1,hrow⟩:∃ F1:FH,F.le F1 ∧ F1.ok w ∧ RepA Tryz.prog F1 (.pair (.sl (.int .i64)) (.pair (.fn (.pair (.int .i64) .unit) (.pair .bool .unit)) .unit)) (xs,some p,()) [u1,.func (.func g) first caps]:=by
  have how:=zh.owAt ho rfl hv1
  cases hm:m id with
  | none =>
   rw [hm] at how
   obtain ⟨hl0,ad,rfl⟩:=how
   obtain rfl:=List.eq_nil_of_length_eq_zero hl0
   exact ⟨F,.refl F,hR.fok,_,_,rfl,⟨ad,0,rfl,Nat.le_refl _,fun hx=>absurd rfl hx⟩,rfl,_,[],rfl,hv2.1,rfl,rfl⟩
  | some bn =>
   obtain ⟨b,n⟩:=bn
   rw [hm] at how
   obtain ⟨cap,hc,hl0,rfl⟩:=how
   obtain ⟨el,cs,h1,h2,h3,hl,⟨d,h4⟩,-⟩:=hR.ints ho hm
   have hle:=FH.put_le b cs h3
   refine ⟨F.put b cs,hle,fun k c hk=>?_,_,_,rfl,⟨some ⟨b,0,none⟩,cap,rfl,hl0,fun _=>⟨_,xs.map (Value.int .i64),rfl,⟨rfl,cs,?_,fun j v hj=>?_⟩,zm0 _⟩⟩,rfl,_,[],rfl,Rep.mono hle hv2.1,rfl,rfl⟩
   ·unfold FH.put at hk
    by_cases e:k = b
    ·subst e; rw [if_pos rfl] at hk; cases hk; exact ⟨el,(0,0),h1⟩
    ·rw [if_neg e] at hk; exact hR.fok _ _ hk
   ·unfold FH.put; rw [if_pos rfl]
   ·show cs[0 + j]? = some v
    rw [Nat.zero_add,← Array.getElem?_toList,h4,List.getElem?_append_left (List.getElem?_eq_some_iff.1 hj).1]
    exact hj
 obtain ⟨i0,hi0,hcase⟩:=hs xs p hall hlen
 have hIF:Calls Tryz.prog 195 #[u1,.func (.func g) first caps] w fun e w'=>e = .returned (.int .i64 i0) ∧ ∃ F',F.grow F' w.heap.size ∧ Rel Tryz.prog nt F0 w0 ⟨fr,h⟩ m F' a w':=by
  refine (hI.2 _ _ hi0 F1 w [u1,.func (.func g) first caps] ((hG.trans hR.gro.1).trans hF1) hk1 hrow).mono ?_
  rintro e w' ⟨us,F2,rfl,hb,hg2,hok2,v,r,rfl,h1,h2,h3⟩
  obtain rfl:r = []:=h3
  have h1:v.cells.toList = [.int .i64 i0]:=h1
  obtain ⟨F',hg',hR'⟩:=hR.stepF hb fun k c hk _=>hok2 k c hk
  exact ⟨by rw [show v = .int .i64 i0 from zsd h1 h2]; rfl,F',hg',hR'⟩
 show Calls Tryz.prog 104 #[u1,.func (.func g) first caps] w _
 rcases hcase with ⟨rfl,hno⟩ | ⟨k0,hk0,rfl,hhit,hbefore⟩
 ·have hfil:(xs.filter fun x=>!zkh p x) = xs:=by
   rw [List.filter_eq_self]
   intro x hx
   obtain ⟨j,hj,rfl⟩:=List.getElem_of_mem hx
   have:=hno j hj
   have e2:xs.getD j 0 = xs[j]'hj:=by simp [List.getD,hj]
   rw [e2] at this
   simp [this]
  rw [hfil] at hys
  subst hys
  refine (zJ5 (Q:=fun w'=>∃ F',F.le F' ∧ Rel Tryz.prog nt F0 w0 ⟨fr,h⟩ m F' a w') (hIF.mono ?_) ?_).mono ?_
  ·rintro e w' ⟨rfl,F',hg',hR'⟩; exact ⟨rfl,F',hg'.1,hR'⟩
  ·rintro w' ⟨F',hg',hR'⟩; exact ⟨F',hg',hR'.drew⟩
  ·rintro e w' ⟨rfl,F',hg',hR'⟩
   have how:=zh.owAt ho rfl hv1
   cases hm:m id with
   | none =>
    rw [hm] at how
    obtain ⟨hl0,ad,rfl⟩:=how
    obtain rfl:=List.eq_nil_of_length_eq_zero hl0
    obtain ⟨m',hR2,hV⟩:=hR'.handed0 ho
    exact ⟨_,m',F',rfl,hg',hR2,hV ad⟩
   | some bn =>
    obtain ⟨b,n⟩:=bn
    rw [hm] at how
    obtain ⟨cap,hc,hl0,rfl⟩:=how
    obtain ⟨m',hR2,hV⟩:=hR'.handed (i:=xs.length) (ys:=xs) ho hm (List.take_length)
    refine ⟨_,m',F',rfl,hg',hR2,?_⟩
    have:n = cap:=by simpa [nc] using hc
    rw [this] at hV
    exact hV
 ·have how:=zh.owAt ho rfl hv1
  cases hm:m id with
  | none =>
   rw [hm] at how
   obtain ⟨hl0,ad,rfl⟩:=how
   have hl0:xs.length = 0:=hl0
   omega
  | some bn =>
   obtain ⟨b,n⟩:=bn
   rw [hm] at how
   obtain ⟨cap,hc,hl0,rfl⟩:=how
   have hcn:n = cap:=by simpa [nc] using hc
   have hoS:∀ ys:List Int,atN (zf h id (.row (.int .i64) ys false)) id = some (.row (.int .i64) ys false):=fun ys=>vp ho
   refine (zJ6 (q:=zkh p) (fun ys w'=>∃ F',F.le F' ∧ Rel Tryz.prog nt F0 w0 ⟨fr,zf h id (.row (.int .i64) ys false)⟩ m F' a w') hlen hl0 (fun _ _=>zeQ hen) (hIF.mono ?_) ?_ ?_ ?_ ?_ ?_ hk0 hhit hbefore).mono ?_
   ·rintro e w' ⟨rfl,F',hg',hR'⟩
    exact ⟨rfl,F',hg'.1,by rw [zqe _ _ _ ho]; exact hR'⟩
   ·rintro ys w' ⟨F',hg',hR'⟩ j hj
    exact (hR'.ints (hoS ys) hm).choose_spec.choose_spec.2.2.2.2.2 j hj
   ·rintro ys w' i v ⟨F',hg',hR'⟩ hi
    have:=hR'.intsSet (hoS ys) hm hi v
    rw [zel] at this
    exact ⟨F',hg',this⟩
   ·rintro ys w' ⟨F',hg',hR'⟩
    exact ⟨F',hg',hR'.drew⟩
   ·rintro ys w' x ⟨F',hg',hR'⟩ hx
    refine (hcallAt x hx F' w' hg' hR'.fok).mono ?_
    rintro e w'' ⟨rfl,hb,F'',hgr,hok⟩
    exact ⟨rfl,F'',hg'.trans hgr.1,hR'.step hb hgr hok⟩
   ·rintro ys w' i k ⟨F',hg',hR'⟩ hi
    obtain ⟨ys',e1,e2,hR2⟩:=Rel.intsClear hm k i w' _ ys hR' (hoS ys) hi
    rw [zel] at hR2
    exact ⟨ys',e1,e2,F',hg',hR2⟩
   ·rintro e w' ⟨ys',i,rfl,⟨F',hg',hR'⟩,hty,hi⟩
    obtain ⟨m',hR2,hV⟩:=hR'.handed (i:=i) (hoS ys') hm (hty.trans hys)
    rw [zel] at hR2 hV
    refine ⟨_,m',F',rfl,hg',hR2,?_⟩
    have el:ys.length = i:=by rw [← hys,← hty,List.length_take]; omega
    rw [zjN,el,hcn] at hV
    exact hV
end Go.Proofs.YtkcakhbkoeimdaaGreatDoor
end
section
namespace Go.Proofs.YtkcakhbkoeimdaaGreatDoor
open Go.Ev
noncomputable section
abbrev Sq (F:Fun):Prop:=Sd Tryz.prog E0 F
def L0:List Fun:=[]
theorem h0:Sds Tryz.prog E0 L0:=trivial
theorem ms0 {d:Bool} {F:Fun} {f:Go.Func} {K:Nat} (hf:Tryz.prog.funcs[F.id]? = some f) (ho:jz f = true) (h:evF (En E0 d L0) K f F.md F.a F.r = F.spec):Sd Tryz.prog E0 F:=mkS h0 hf ho h
theorem mj0 {d:Bool} {js:List Nat} {F:Fun} {f:Go.Func} {K:Nat} (hf:Tryz.prog.funcs[F.id]? = some f) (ho:jz f = true) (h:evF (Ej E0 d js L0) K f F.md F.a F.r = F.spec):Sd Tryz.prog E0 F:=zMf h0 hf ho h
theorem ml0 {d:Bool} {F:Fun} {f:Go.Func} {S:Nat→F.a.I→Option F.r.I} (hf:Tryz.prog.funcs[F.id]? = some f) (ho:jz f = true) (h:∀ K,evF (En E0 d L0) K f F.md F.a F.r = S K) (e:S K0 = F.spec):Sd Tryz.prog E0 F:=mkS h0 hf ho ((h K0).trans e)
abbrev Es0:Env:=En E0 false L0
def vj:(zr × Unit)→Option (Bool × Unit):=fun (x0,()) =>
 bif decide (x0.1 ≥ 0) then bif decide (x0.1 < 4) then some (true,()) else some (false,()) else some (false,())
abbrev zqW:Fun:=⟨32,(ch [zp]),(ch [.bool]),0,vj⟩
theorem zA9:Sq zqW:=ms0 (d:=false) (K:=0) Tryz.func32 (by kernel_rfl) (funext fun (x0,())=>by kernel_rfl)
def qg:(Int × (Int × (Int × Unit)))→Option (Bool × Unit):=fun (x0,x1,x2,()) =>
 bif decide (x0 ≥ x1) then bif decide (x0 ≤ x2) then some (true,()) else some (false,()) else some (false,())
abbrev zoB:Fun:=⟨135,(ch [tI,tI,tI]),(ch [.bool]),0,qg⟩
theorem zzh:Sq zoB:=ms0 (d:=false) (K:=0) Tryz.func135 (by kernel_rfl) (funext fun (x0,x1,x2,())=>by kernel_rfl)
abbrev j5:Type:=(List zr) × (Option ((zr × Unit)→Option (Bool × Unit))) × Int × Int
abbrev zn0:j5→St:=fun (v0,v1,v7,v8)=>St.mk [(0,.dat (.sl zp) v0),(1,.dat (.fn (.pair zp .unit) (.pair .bool .unit)) v1),(7,.dat tI v7),(8,.dat tI v8)] []
def zct (k0:j5→Option (Int × Unit)):j5→Option (Int × Unit):=fun (v0,v1,v7,v8) =>
 bif decide (v8 < v7) then inR v8 ((List.length v0):Int) (Option.bind v1 fun q0=>Option.bind (q0 (ix zC v0 v8,())) fun q1=>bif q1.1 then some (v8,()) else k0 (v0,v1,v7,wI (v8 + 1))) else some ((-1),())
abbrev zf8 (K:Nat):j5→Option (Int × Unit):=zl zct K
theorem zn1 (K:Nat):∀ n,evV Es0 K Tryz.f356 0 (ch [tI]) [1,0,1,0] [] zn0 n = zl zct n:=zt fun n0 (v0,v1,v7,v8)=>by kernel_rfl
def zdG (L0:j5→Option (Int × Unit)):((List zr) × ((Option ((zr × Unit)→Option (Bool × Unit))) × Unit))→Option (Int × Unit):=fun (x0,x1,()) =>
 L0 (x0,x1,((List.length x0):Int),0)
def zaw:((List zr) × ((Option ((zr × Unit)→Option (Bool × Unit))) × Unit))→Option (Int × Unit):=zdG (zf8 K0)
abbrev zhA:Fun:=⟨356,(ch [(.sl zp),(.fn (ch [zp]) (ch [.bool]))]),(ch [tI]),0,zaw⟩
theorem zqf:Sq zhA:=ml0 (d:=false) (S:=fun K=>zdG (zf8 K)) Tryz.func356 (by kernel_rfl) (fun K=>tr1 (T:=zdG) (zn1 K K) fun (x0,x1,())=>by kernel_rfl) rfl
def y3:(Int × Unit)→Option (Bool × Unit):=fun (x0,()) =>
 bif x0 != x0 then some (true,()) else some (false,())
abbrev zm2:Fun:=⟨364,(ch [tI]),(ch [.bool]),0,y3⟩
theorem zxr:Sq zm2:=ms0 (d:=false) (K:=0) Tryz.func364 (by kernel_rfl) (funext fun (x0,())=>by kernel_rfl)
def vt:(Int × Unit)→Option (Bool × Unit):=fun (x0,()) =>
 bif x0 != x0 then some (true,()) else some (false,())
abbrev zjO:Fun:=⟨363,(ch [tU]),(ch [.bool]),0,vt⟩
theorem zsw:Sq zjO:=ms0 (d:=false) (K:=0) Tryz.func363 (by kernel_rfl) (funext fun (x0,())=>by kernel_rfl)
abbrev zcY:Type:=Int × (List Int) × Int × Int
abbrev zzi:zcY→St:=fun (v3,v6,v7,v8)=>St.mk [(3,.dat tI v3),(6,.dat (.sl tI) v6),(7,.dat tI v7),(8,.dat tI v8)] []
def qT (k0:zcY→Option (Int × Unit)):zcY→Option (Int × Unit):=fun (v3,v6,v7,v8) =>
 bif decide (v8 < v7) then inR v8 ((List.length v6):Int) (bif ix (0:Int) v6 v8 != v3 then some (ix (0:Int) v6 v8,()) else k0 (v3,v6,v7,wI (v8 + 1))) else some (v3,())
abbrev zoC (K:Nat):zcY→Option (Int × Unit):=zl qT K
theorem zzj (K:Nat):∀ n,evV Es0 K Tryz.f340 0 (ch [tI]) [1,1,0,1,0] [] zzi n = zl qT n:=zt fun n0 (v3,v6,v7,v8)=>by kernel_rfl
def zlu (L0:zcY→Option (Int × Unit)):((List Int) × Unit)→Option (Int × Unit):=fun (x0,()) =>
 L0 (0,x0,((List.length x0):Int),0)
def zcZ:((List Int) × Unit)→Option (Int × Unit):=zlu (zoC K0)
abbrev zsx:Fun:=⟨340,(ch [(.sl tI)]),(ch [tI]),0,zcZ⟩
theorem zDi:Sq zsx:=ml0 (d:=false) (S:=fun K=>zlu (zoC K)) Tryz.func340 (by kernel_rfl) (fun K=>tr1 (T:=zlu) (zzj K K) fun (x0,())=>by kernel_rfl) rfl
abbrev vP:Type:=(List Int) × (Option ((Int × Unit)→Option (Bool × Unit))) × Int × Int
abbrev zqg:vP→St:=fun (v0,v1,v7,v8)=>St.mk [(0,.dat (.sl tI) v0),(1,.dat (.fn (.pair tI .unit) (.pair .bool .unit)) v1),(7,.dat tI v7),(8,.dat tI v8)] []
def zax (k0:vP→Option (Int × Unit)):vP→Option (Int × Unit):=fun (v0,v1,v7,v8) =>
 bif decide (v8 < v7) then inR v8 ((List.length v0):Int) (Option.bind v1 fun q0=>Option.bind (q0 (ix (0:Int) v0 v8,())) fun q1=>bif q1.1 then some (v8,()) else k0 (v0,v1,v7,wI (v8 + 1))) else some ((-1),())
abbrev zhB (K:Nat):vP→Option (Int × Unit):=zl zax K
theorem zqh (K:Nat):∀ n,evV Es0 K Tryz.f195 0 (ch [tI]) [1,0,1,0] [] zqg n = zl zax n:=zt fun n0 (v0,v1,v7,v8)=>by kernel_rfl
def zeW (L0:vP→Option (Int × Unit)):((List Int) × ((Option ((Int × Unit)→Option (Bool × Unit))) × Unit))→Option (Int × Unit):=fun (x0,x1,()) =>
 L0 (x0,x1,((List.length x0):Int),0)
def vu:((List Int) × ((Option ((Int × Unit)→Option (Bool × Unit))) × Unit))→Option (Int × Unit):=zeW (zhB K0)
abbrev zjP:Fun:=⟨195,(ch [(.sl tI),(.fn (ch [tI]) (ch [.bool]))]),(ch [tI]),0,vu⟩
theorem zjQ:Sq zjP:=ml0 (d:=false) (S:=fun K=>zeW (zhB K)) Tryz.func195 (by kernel_rfl) (fun K=>tr1 (T:=zeW) (zqh K K) fun (x0,x1,())=>by kernel_rfl) rfl
def zeX:(Int × Unit)→Option (Bool × Unit):=fun (x0,()) =>
 bif decide (x0 ≥ 97) then bif decide (x0 ≤ 122) then some (true,()) else some (false,()) else some (false,())
abbrev zsy:Fun:=⟨323,(ch [(.int .u8)]),(ch [.bool]),0,zeX⟩
theorem zDj:Sq zsy:=ms0 (d:=false) (K:=0) Tryz.func323 (by kernel_rfl) (funext fun (x0,())=>by kernel_rfl)
def zhC:(Int × ((Option (Option ((Int × Unit)→Option (Bool × Unit)))) × Unit))→Option (Bool × Unit):=fun (x0,x1,()) =>
 Option.bind x1 fun q0=>Option.bind q0 fun q1=>Option.bind (q1 (x0,())) fun q2=>bif q2.1 then some (false,()) else some (true,())
abbrev zsz:Fun:=⟨220,(ch [(.int .u8),(.ptr (.fn (ch [(.int .u8)]) (ch [.bool])))]),(ch [.bool]),0,zhC⟩
theorem zDk:Sq zsz:=ms0 (d:=false) (K:=0) Tryz.func220 (by kernel_rfl) (funext fun (x0,x1,())=>by kernel_rfl)
abbrev vv:Type:=(List Int) × (Option ((Int × Unit)→Option (Bool × Unit))) × Int × Int
abbrev zoD:vv→St:=fun (v0,v1,v7,v8)=>St.mk [(0,.dat (.sl (.int IntKind.u8)) v0),(1,.dat (.fn (.pair (.int IntKind.u8) .unit) (.pair .bool .unit)) v1),(7,.dat tI v7),(8,.dat tI v8)] []
def zc0 (k0:vv→Option (Int × Unit)):vv→Option (Int × Unit):=fun (v0,v1,v7,v8) =>
 bif decide (v8 < v7) then inR v8 ((List.length v0):Int) (Option.bind v1 fun q0=>Option.bind (q0 (ix (ze (.int IntKind.u8)) v0 v8,())) fun q1=>bif q1.1 then some (v8,()) else k0 (v0,v1,v7,wI (v8 + 1))) else some ((-1),())
abbrev zhc (K:Nat):vv→Option (Int × Unit):=zl zc0 K
theorem zoE (K:Nat):∀ n,evV Es0 K Tryz.f311 0 (ch [tI]) [1,0,1,0] [] zoD n = zl zc0 n:=zt fun n0 (v0,v1,v7,v8)=>by kernel_rfl
def zeq (L0:vv→Option (Int × Unit)):((List Int) × ((Option ((Int × Unit)→Option (Bool × Unit))) × Unit))→Option (Int × Unit):=fun (x0,x1,()) =>
 L0 (x0,x1,((List.length x0):Int),0)
def zbo:((List Int) × ((Option ((Int × Unit)→Option (Bool × Unit))) × Unit))→Option (Int × Unit):=zeq (zhc K0)
abbrev ziA:Fun:=⟨311,(ch [(.sl (.int .u8)),(.fn (ch [(.int .u8)]) (ch [.bool]))]),(ch [tI]),0,zbo⟩
theorem zrH:Sq ziA:=ml0 (d:=false) (S:=fun K=>zeq (zhc K)) Tryz.func311 (by kernel_rfl) (fun K=>tr1 (T:=zeq) (zoE K K) fun (x0,x1,())=>by kernel_rfl) rfl
def zhD:(Int × Unit)→Option (Bool × Unit):=fun (x0,()) =>
 bif decide (x0 ≥ 48) then bif decide (x0 ≤ 57) then some (true,()) else some (false,()) else some (false,())
abbrev zsA:Fun:=⟨325,(ch [(.int .u8)]),(ch [.bool]),0,zhD⟩
theorem zDl:Sq zsA:=ms0 (d:=false) (K:=0) Tryz.func325 (by kernel_rfl) (funext fun (x0,())=>by kernel_rfl)
abbrev jF:Type:=(List qN) × (Option ((qN × Unit)→Option (Bool × Unit))) × Int × Int
abbrev zlv:jF→St:=fun (v0,v1,v7,v8)=>St.mk [(0,.dat (.sl qM) v0),(1,.dat (.fn (.pair qM .unit) (.pair .bool .unit)) v1),(7,.dat tI v7),(8,.dat tI v8)] []
def zaZ (k0:jF→Option (Int × Unit)):jF→Option (Int × Unit):=fun (v0,v1,v7,v8) =>
 bif decide (v8 < v7) then inR v8 ((List.length v0):Int) (Option.bind v1 fun q0=>Option.bind (q0 (ix zeU v0 v8,())) fun q1=>bif q1.1 then some (v8,()) else k0 (v0,v1,v7,wI (v8 + 1))) else some ((-1),())
abbrev zeY (K:Nat):jF→Option (Int × Unit):=zl zaZ K
theorem zlw (K:Nat):∀ n,evV Es0 K Tryz.f357 0 (ch [tI]) [1,0,1,0] [] zlv n = zl zaZ n:=zt fun n0 (v0,v1,v7,v8)=>by kernel_rfl
def zcu (L0:jF→Option (Int × Unit)):((List qN) × ((Option ((qN × Unit)→Option (Bool × Unit))) × Unit))→Option (Int × Unit):=fun (x0,x1,()) =>
 L0 (x0,x1,((List.length x0):Int),0)
def yL:((List qN) × ((Option ((qN × Unit)→Option (Bool × Unit))) × Unit))→Option (Int × Unit):=zcu (zeY K0)
abbrev zf9:Fun:=⟨357,(ch [(.sl qM),(.fn (ch [qM]) (ch [.bool]))]),(ch [tI]),0,yL⟩
theorem zn2:Sq zf9:=ml0 (d:=false) (S:=fun K=>zcu (zeY K)) Tryz.func357 (by kernel_rfl) (fun K=>tr1 (T:=zcu) (zlw K K) fun (x0,x1,())=>by kernel_rfl) rfl
abbrev yk:Type:=(List qN) × Int × Int × List ByteArray
abbrev zrI:yk→St:=fun (v7,v8,v9,o0)=>St.mk [(3,.ow 0),(7,.dat (.sl qM) v7),(8,.dat tI v8),(9,.dat tI v9)] [.row .str o0 false]
def yl (k0:yk→Option ((List ByteArray) × Unit)):yk→Option ((List ByteArray) × Unit):=fun (v7,v8,v9,o0) =>
 bif decide (v9 < v8) then inR v9 ((List.length v7):Int) (bif decide (List.length o0 + List.length (zf (List.replicate 1 (ze .str)) 0 (ix zeU v7 v9).1) ≤ lim) then k0 (v7,v8,wI (v9 + 1),o0 ++ zf (List.replicate 1 (ze .str)) 0 (ix zeU v7 v9).1) else none) else some (o0,())
abbrev ziB (K:Nat):yk→Option ((List ByteArray) × Unit):=zl yl K
theorem zrJ (K:Nat):∀ n,evV Es0 K Tryz.f306 0 (ch [(.sl .str)]) [1,1,0,1,0] [] zrI n = zl yl n:=zt fun n0 (v7,v8,v9,o0)=>by kernel_rfl
def zfR (L0:yk→Option ((List ByteArray) × Unit)):(za × Unit)→Option ((List ByteArray) × Unit):=fun (x0,()) =>
 L0 (x0.2.2.1,((List.length x0.2.2.1):Int),0,[])
def zfS:(za × Unit)→Option ((List ByteArray) × Unit):=zfR (ziB K0)
abbrev zkz:Fun:=⟨306,(ch [zm]),(ch [(.sl .str)]),0,zfS⟩
theorem zua:Sq zkz:=ml0 (d:=false) (S:=fun K=>zfR (ziB K)) Tryz.func306 (by kernel_rfl) (fun K=>tr1 (T:=zfR) (zrJ K K) fun (x0,())=>by kernel_rfl) rfl
abbrev zc1:Type:=(List ByteArray) × (List ByteArray) × Int × Int × List (ByteArray × Int)
abbrev zzk:zc1→St:=fun (v0,v7,v8,v9,o0)=>St.mk [(0,.dat (.sl .str) v0),(3,.om 0),(7,.dat (.sl .str) v7),(8,.dat tI v8),(9,.dat tI v9)] [.mp .str tI o0]
def zc2 (k0:zc1→Option (Bool × Unit)):zc1→Option (Bool × Unit):=fun (v0,v7,v8,v9,o0) =>
 bif decide (v9 < v8) then inR v9 ((List.length v7):Int) (k0 (v0,v7,v8,wI (v9 + 1),yw .str o0 (List.getD v7 (Int.toNat v9) (ze .str)) (wI (zcq .str (0:Int) o0 (List.getD v7 (Int.toNat v9) (ze .str)) + 1)))) else bif ((List.length o0):Int) == ((List.length v0):Int) then some (true,()) else some (false,())
abbrev zoF (K:Nat):zc1→Option (Bool × Unit):=zl zc2 K
theorem zzl (K:Nat):∀ n,evV Es0 K Tryz.f305 0 (ch [.bool]) [1,1,0,1,0] [] zzk n = zl zc2 n:=zt fun n0 (v0,v7,v8,v9,o0)=>by kernel_rfl
def zlx (L0:zc1→Option (Bool × Unit)):((List ByteArray) × Unit)→Option (Bool × Unit):=fun (x0,()) =>
 L0 (x0,x0,((List.length x0):Int),0,[])
def zly:((List ByteArray) × Unit)→Option (Bool × Unit):=zlx (zoF K0)
abbrev zsB:Fun:=⟨305,(ch [(.sl .str)]),(ch [.bool]),0,zly⟩
theorem zDm:Sq zsB:=ml0 (d:=false) (S:=fun K=>zlx (zoF K)) Tryz.func305 (by kernel_rfl) (fun K=>tr1 (T:=zlx) (zzl K K) fun (x0,())=>by kernel_rfl) rfl
def za0:(Int × Unit)→Option (zr × (Int × Unit)):=fun (x0,()) =>
 bif decide (x0 < 0) then some ((0,0,()),1,()) else bif decide (x0 ≥ 64) then some ((0,0,()),1,()) else bif decide (x0 < 0) then none else some ((0,wU (1 * 2 ^ min (Int.toNat x0) (IntKind.bits IntKind.u64)),()),0,())
abbrev zsC:Fun:=⟨136,(ch [tI]),(ch [zp,tI]),0,za0⟩
theorem zDn:Sq zsC:=ms0 (d:=false) (K:=0) Tryz.func136 (by kernel_rfl) (funext fun (x0,())=>by kernel_rfl)
abbrev yQ:Type:=(List zr) × Int × Int × zr
abbrev zsD:yQ→St:=fun (v0,v7,v8,o0)=>St.mk [(0,.dat (.sl zp) v0),(3,.bp 0 []),(7,.dat tI v7),(8,.dat tI v8)] [.bx (.dat zp o0) false]
def yR (k0:yQ→Option (Int × Unit)):yQ→Option (Int × Unit):=fun (v0,v7,v8,o0) =>
 bif decide (v8 < v7) then inR v8 ((List.length v0):Int) (bif eqI zp o0 (ix zC v0 v8) then some (v8,()) else k0 (v0,v7,wI (v8 + 1),o0)) else some ((-1),())
abbrev zjR (K:Nat):yQ→Option (Int × Unit):=zl yR K
theorem zsE (K:Nat):∀ n,evV Es0 K Tryz.f235 0 (ch [tI]) [1,0,1,0] [] zsD n = zl yR n:=zt fun n0 (v0,v7,v8,o0)=>by kernel_rfl
def zgN (L0:yQ→Option (Int × Unit)):((List zr) × (zr × Unit))→Option (Int × Unit):=fun (x0,x1,()) =>
 L0 (x0,((List.length x0):Int),0,x1)
def zdH:((List zr) × zr × Unit)→Option (Int × Unit):=zgN (zjR K0)
abbrev zlz:Fun:=⟨235,(ch [(.sl zp),zp]),(ch [tI]),0,zdH⟩
theorem zvF:Sq zlz:=ml0 (d:=false) (S:=fun K=>zgN (zjR K)) Tryz.func235 (by kernel_rfl) (fun K=>tr1 (T:=zgN) (zsE K K) fun (x0,x1,())=>by kernel_rfl) rfl
def zgO:(zr × ((Option Int) × Unit))→Option (Bool × Unit):=fun (x0,x1,()) =>
 Option.bind x1 fun q0=>bif wU (↑(BitVec.toNat (BitVec.ofInt (IntKind.bits IntKind.u64) x0.2.1 &&& ~~~BitVec.ofInt (IntKind.bits IntKind.u64) q0)):Int) != 0 then some (true,()) else some (false,())
abbrev zlA:Fun:=⟨308,(ch [zp,(.ptr tU)]),(ch [.bool]),0,zgO⟩
theorem zvG:Sq zlA:=ms0 (d:=false) (K:=0) Tryz.func308 (by kernel_rfl) (funext fun (x0,x1,())=>by kernel_rfl)
def zhE:(zbQ × Unit)→Option ((List Int) × Unit):=fun (x0,()) =>
 some ([x0.1,x0.2.1,x0.2.2.1,x0.2.2.2.1,x0.2.2.2.2.1],())
abbrev zm3:Fun:=⟨310,(ch [zcX]),(ch [(.sl tI)]),0,zhE⟩
theorem zxs:Sq zm3:=ms0 (d:=false) (K:=0) Tryz.func310 (by kernel_rfl) (funext fun (x0,())=>by kernel_rfl)
def zbp:(zi × ((Option (Option ((zi × Unit)→Option (Bool × Unit)))) × Unit))→Option (Bool × Unit):=fun (x0,x1,()) =>
 Option.bind x1 fun q0=>Option.bind q0 fun q1=>Option.bind (q1 (x0,())) fun q2=>bif q2.1 then some (false,()) else some (true,())
abbrev ziC:Fun:=⟨237,(ch [zn,(.ptr (.fn (ch [zn]) (ch [.bool])))]),(ch [.bool]),0,zbp⟩
theorem zrK:Sq ziC:=ms0 (d:=false) (K:=0) Tryz.func237 (by kernel_rfl) (funext fun (x0,x1,())=>by kernel_rfl)
abbrev j6:Type:=(List zi) × (Option ((zi × Unit)→Option (Bool × Unit))) × Int × Int
abbrev zn3:j6→St:=fun (v0,v1,v7,v8)=>St.mk [(0,.dat (.sl zn) v0),(1,.dat (.fn (.pair zn .unit) (.pair .bool .unit)) v1),(7,.dat tI v7),(8,.dat tI v8)] []
def zcv (k0:j6→Option (Int × Unit)):j6→Option (Int × Unit):=fun (v0,v1,v7,v8) =>
 bif decide (v8 < v7) then inR v8 ((List.length v0):Int) (Option.bind v1 fun q0=>Option.bind (q0 (ix zg v0 v8,())) fun q1=>bif q1.1 then some (v8,()) else k0 (v0,v1,v7,wI (v8 + 1))) else some ((-1),())
abbrev zga (K:Nat):j6→Option (Int × Unit):=zl zcv K
theorem zn4 (K:Nat):∀ n,evV Es0 K Tryz.f321 0 (ch [tI]) [1,0,1,0] [] zn3 n = zl zcv n:=zt fun n0 (v0,v1,v7,v8)=>by kernel_rfl
def zdI (L0:j6→Option (Int × Unit)):((List zi) × ((Option ((zi × Unit)→Option (Bool × Unit))) × Unit))→Option (Int × Unit):=fun (x0,x1,()) =>
 L0 (x0,x1,((List.length x0):Int),0)
def zay:((List zi) × ((Option ((zi × Unit)→Option (Bool × Unit))) × Unit))→Option (Int × Unit):=zdI (zga K0)
abbrev zhF:Fun:=⟨321,(ch [(.sl zn),(.fn (ch [zn]) (ch [.bool]))]),(ch [tI]),0,zay⟩
theorem zqi:Sq zhF:=ml0 (d:=false) (S:=fun K=>zdI (zga K)) Tryz.func321 (by kernel_rfl) (fun K=>tr1 (T:=zdI) (zn4 K K) fun (x0,x1,())=>by kernel_rfl) rfl
abbrev vw:Type:=(List qZ) × (Option ((qZ × Unit)→Option (Bool × Unit))) × Int × Int
abbrev zoG:vw→St:=fun (v0,v1,v7,v8)=>St.mk [(0,.dat (.sl qk) v0),(1,.dat (.fn (.pair qk .unit) (.pair .bool .unit)) v1),(7,.dat tI v7),(8,.dat tI v8)] []
def zc3 (k0:vw→Option (Int × Unit)):vw→Option (Int × Unit):=fun (v0,v1,v7,v8) =>
 bif decide (v8 < v7) then inR v8 ((List.length v0):Int) (Option.bind v1 fun q0=>Option.bind (q0 (ix ztV v0 v8,())) fun q1=>bif q1.1 then some (v8,()) else k0 (v0,v1,v7,wI (v8 + 1))) else some ((-1),())
abbrev zhd (K:Nat):vw→Option (Int × Unit):=zl zc3 K
theorem zoH (K:Nat):∀ n,evV Es0 K Tryz.f322 0 (ch [tI]) [1,0,1,0] [] zoG n = zl zc3 n:=zt fun n0 (v0,v1,v7,v8)=>by kernel_rfl
def zer (L0:vw→Option (Int × Unit)):((List qZ) × ((Option ((qZ × Unit)→Option (Bool × Unit))) × Unit))→Option (Int × Unit):=fun (x0,x1,()) =>
 L0 (x0,x1,((List.length x0):Int),0)
def zbq:((List qZ) × ((Option ((qZ × Unit)→Option (Bool × Unit))) × Unit))→Option (Int × Unit):=zer (zhd K0)
abbrev ziD:Fun:=⟨322,(ch [(.sl qk),(.fn (ch [qk]) (ch [.bool]))]),(ch [tI]),0,zbq⟩
theorem zrL:Sq ziD:=ml0 (d:=false) (S:=fun K=>zer (zhd K)) Tryz.func322 (by kernel_rfl) (fun K=>tr1 (T:=zer) (zoH K K) fun (x0,x1,())=>by kernel_rfl) rfl
def zeZ:(zN × Unit)→Option (Bool × Unit):=fun (x0,()) =>
 bif decide (x0.1 ≥ 0) then bif decide (x0.1 ≤ 127) then bif decide (x0.2.1 ≥ 0) then bif decide (x0.2.1 ≤ 127) then some (true,()) else some (false,()) else some (false,()) else some (false,()) else some (false,())
abbrev zsF:Fun:=⟨326,(ch [zR]),(ch [.bool]),0,zeZ⟩
theorem zDo:Sq zsF:=ms0 (d:=false) (K:=0) Tryz.func326 (by kernel_rfl) (funext fun (x0,())=>by kernel_rfl)
def zhG:(Int × Unit)→Option (Bool × Unit):=fun (x0,()) =>
 bif decide (x0 ≥ 0) then bif decide (x0 < 6) then some (true,()) else some (false,()) else some (false,())
abbrev zsG:Fun:=⟨327,(ch [tI]),(ch [.bool]),0,zhG⟩
theorem zDp:Sq zsG:=ms0 (d:=false) (K:=0) Tryz.func327 (by kernel_rfl) (funext fun (x0,())=>by kernel_rfl)
def zft:(qe × ((Option zN) × ((Option Int) × Unit)))→Option (Bool × Unit):=fun (x0,x1,x2,()) =>
 bif x0.1 then Option.bind x1 fun q0=>bif eqI zR x0.2.1 q0 then Option.bind x2 fun q1=>bif x0.2.2.2.1 == q1 then some (true,()) else some (false,()) else some (false,()) else some (false,())
abbrev zoI:Fun:=⟨329,(ch [z3,(.ptr zR),(.ptr tI)]),(ch [.bool]),0,zft⟩
theorem zzm:Sq zoI:=ms0 (d:=false) (K:=0) Tryz.func329 (by kernel_rfl) (funext fun (x0,x1,x2,())=>by kernel_rfl)
abbrev vx:Type:=(List qe) × (Option ((qe × Unit)→Option (Bool × Unit))) × Int × Int
abbrev zoJ:vx→St:=fun (v0,v1,v7,v8)=>St.mk [(0,.dat (.sl z3) v0),(1,.dat (.fn (.pair z3 .unit) (.pair .bool .unit)) v1),(7,.dat tI v7),(8,.dat tI v8)] []
def zc4 (k0:vx→Option (Int × Unit)):vx→Option (Int × Unit):=fun (v0,v1,v7,v8) =>
 bif decide (v8 < v7) then inR v8 ((List.length v0):Int) (Option.bind v1 fun q0=>Option.bind (q0 (ix vN v0 v8,())) fun q1=>bif q1.1 then some (v8,()) else k0 (v0,v1,v7,wI (v8 + 1))) else some ((-1),())
abbrev zhe (K:Nat):vx→Option (Int × Unit):=zl zc4 K
theorem zoK (K:Nat):∀ n,evV Es0 K Tryz.f328 0 (ch [tI]) [1,0,1,0] [] zoJ n = zl zc4 n:=zt fun n0 (v0,v1,v7,v8)=>by kernel_rfl
def zes (L0:vx→Option (Int × Unit)):((List qe) × ((Option ((qe × Unit)→Option (Bool × Unit))) × Unit))→Option (Int × Unit):=fun (x0,x1,()) =>
 L0 (x0,x1,((List.length x0):Int),0)
def ym:((List qe) × ((Option ((qe × Unit)→Option (Bool × Unit))) × Unit))→Option (Int × Unit):=zes (zhe K0)
abbrev ziE:Fun:=⟨328,(ch [(.sl z3),(.fn (ch [z3]) (ch [.bool]))]),(ch [tI]),0,ym⟩
theorem zrM:Sq ziE:=ml0 (d:=false) (S:=fun K=>zes (zhe K)) Tryz.func328 (by kernel_rfl) (fun K=>tr1 (T:=zes) (zoK K K) fun (x0,x1,())=>by kernel_rfl) rfl
abbrev vy:Type:=(List qc) × (Option ((qc × Unit)→Option (Bool × Unit))) × Int × Int
abbrev zoL:vy→St:=fun (v0,v1,v7,v8)=>St.mk [(0,.dat (.sl zX) v0),(1,.dat (.fn (.pair zX .unit) (.pair .bool .unit)) v1),(7,.dat tI v7),(8,.dat tI v8)] []
def zc5 (k0:vy→Option (Int × Unit)):vy→Option (Int × Unit):=fun (v0,v1,v7,v8) =>
 bif decide (v8 < v7) then inR v8 ((List.length v0):Int) (Option.bind v1 fun q0=>Option.bind (q0 (ix zdD v0 v8,())) fun q1=>bif q1.1 then some (v8,()) else k0 (v0,v1,v7,wI (v8 + 1))) else some ((-1),())
abbrev zhf (K:Nat):vy→Option (Int × Unit):=zl zc5 K
theorem zoM (K:Nat):∀ n,evV Es0 K Tryz.f330 0 (ch [tI]) [1,0,1,0] [] zoL n = zl zc5 n:=zt fun n0 (v0,v1,v7,v8)=>by kernel_rfl
def zet (L0:vy→Option (Int × Unit)):((List qc) × ((Option ((qc × Unit)→Option (Bool × Unit))) × Unit))→Option (Int × Unit):=fun (x0,x1,()) =>
 L0 (x0,x1,((List.length x0):Int),0)
def zbr:((List qc) × ((Option ((qc × Unit)→Option (Bool × Unit))) × Unit))→Option (Int × Unit):=zet (zhf K0)
abbrev ziF:Fun:=⟨330,(ch [(.sl zX),(.fn (ch [zX]) (ch [.bool]))]),(ch [tI]),0,zbr⟩
theorem zrN:Sq ziF:=ml0 (d:=false) (S:=fun K=>zet (zhf K)) Tryz.func330 (by kernel_rfl) (fun K=>tr1 (T:=zet) (zoM K K) fun (x0,x1,())=>by kernel_rfl) rfl
def zqj:(qc × Unit)→Option (ztX × Unit):=fun (x0,()) =>
 some (x0.2.2,())
abbrev zxt:Fun:=⟨331,(ch [zX]),(ch [ztW]),0,zqj⟩
theorem zHi:Sq zxt:=ms0 (d:=false) (K:=0) Tryz.func331 (by kernel_rfl) (funext fun (x0,())=>by kernel_rfl)
def zdJ:(Int × Unit)→Option (Bool × Unit):=fun (x0,()) =>
 bif decide (x0 ≥ 0) then bif decide (x0 ≤ 127) then some (true,()) else some (false,()) else some (false,())
abbrev zxu:Fun:=⟨361,(ch [tI]),(ch [.bool]),0,zdJ⟩
theorem zHj:Sq zxu:=ms0 (d:=false) (K:=0) Tryz.func361 (by kernel_rfl) (funext fun (x0,())=>by kernel_rfl)
abbrev vz:Type:=(List zw) × (Option ((zw × Unit)→Option (Bool × Unit))) × Int × Int
abbrev zoN:vz→St:=fun (v0,v1,v7,v8)=>St.mk [(0,.dat (.sl zy) v0),(1,.dat (.fn (.pair zy .unit) (.pair .bool .unit)) v1),(7,.dat tI v7),(8,.dat tI v8)] []
def zc6 (k0:vz→Option (Int × Unit)):vz→Option (Int × Unit):=fun (v0,v1,v7,v8) =>
 bif decide (v8 < v7) then inR v8 ((List.length v0):Int) (Option.bind v1 fun q0=>Option.bind (q0 (ix zcL v0 v8,())) fun q1=>bif q1.1 then some (v8,()) else k0 (v0,v1,v7,wI (v8 + 1))) else some ((-1),())
abbrev zhg (K:Nat):vz→Option (Int × Unit):=zl zc6 K
theorem zoO (K:Nat):∀ n,evV Es0 K Tryz.f282 0 (ch [tI]) [1,0,1,0] [] zoN n = zl zc6 n:=zt fun n0 (v0,v1,v7,v8)=>by kernel_rfl
def zeu (L0:vz→Option (Int × Unit)):((List zw) × ((Option ((zw × Unit)→Option (Bool × Unit))) × Unit))→Option (Int × Unit):=fun (x0,x1,()) =>
 L0 (x0,x1,((List.length x0):Int),0)
def yn:((List zw) × ((Option ((zw × Unit)→Option (Bool × Unit))) × Unit))→Option (Int × Unit):=zeu (zhg K0)
abbrev ziG:Fun:=⟨282,(ch [(.sl zy),(.fn (ch [zy]) (ch [.bool]))]),(ch [tI]),0,yn⟩
theorem zrO:Sq ziG:=ml0 (d:=false) (S:=fun K=>zeu (zhg K)) Tryz.func282 (by kernel_rfl) (fun K=>tr1 (T:=zeu) (zoO K K) fun (x0,x1,())=>by kernel_rfl) rfl
def zhh:(Int × Unit)→Option (Bool × Unit):=fun (x0,()) =>
 bif decide (x0 ≥ 0) then bif decide (x0 ≤ 127) then some (true,()) else some (false,()) else some (false,())
abbrev zAL:Fun:=⟨190,(ch [tI]),(ch [.bool]),0,zhh⟩
theorem zI0:Sq zAL:=ms0 (d:=false) (K:=0) Tryz.func190 (by kernel_rfl) (funext fun (x0,())=>by kernel_rfl)
def zhH:(Int × Unit)→Option (Bool × Unit):=fun (x0,()) =>
 bif decide (x0 ≥ 32) then bif decide (x0 ≤ 126) then some (true,()) else some (false,()) else some (false,())
abbrev zsH:Fun:=⟨122,(ch [(.int .u8)]),(ch [.bool]),0,zhH⟩
theorem zDq:Sq zsH:=ms0 (d:=false) (K:=0) Tryz.func122 (by kernel_rfl) (funext fun (x0,())=>by kernel_rfl)
abbrev jw:Type:=ByteArray × Int
abbrev zkX:jw→St:=fun (v0,v1)=>St.mk [(0,.dat .str v0),(1,.dat (.int IntKind.u8) v1)] []
def zK (k0:jw→Option (ByteArray × Unit)):jw→Option (ByteArray × Unit):=fun (v0,v1) =>
 bif decide ((↑(ByteArray.size v0):Int) > 0) then inR (wI ((↑(ByteArray.size v0):Int) - 1)) (↑(ByteArray.size v0):Int) (bif (↑(UInt8.toNat (List.getD (Array.toList (ByteArray.data v0)) (Int.toNat (wI ((↑(ByteArray.size v0):Int) - 1))) 0)):Int) == v1 then bif decide (0 ≤ wI ((↑(ByteArray.size v0):Int) - 1)) then bif decide (wI ((↑(ByteArray.size v0):Int) - 1) ≤ (↑(ByteArray.size v0):Int)) then k0 (ByteArray.extract v0 0 (Int.toNat (wI ((↑(ByteArray.size v0):Int) - 1))),v1) else none else none else some (v0,())) else some (v0,())
abbrev zeB (K:Nat):jw→Option (ByteArray × Unit):=zl zK K
theorem zkY (K:Nat):∀ n,evV Es0 K Tryz.f223 0 (ch [.str]) [1,0,0] [] zkX n = zl zK n:=zt fun n0 (v0,v1)=>by kernel_rfl
def zbx (L0:jw→Option (ByteArray × Unit)):(ByteArray × (Int × Unit))→Option (ByteArray × Unit):=fun (x0,x1,()) =>
 L0 (x0,x1)
def zby:(ByteArray × Int × Unit)→Option (ByteArray × Unit):=zbx (zeB K0)
abbrev zfL:Fun:=⟨223,(ch [.str,(.int .u8)]),(ch [.str]),0,zby⟩
theorem zmB:Sq zfL:=ml0 (d:=false) (S:=fun K=>zbx (zeB K)) Tryz.func223 (by kernel_rfl) (fun K=>tr1 (T:=zbx) (zkY K K) fun (x0,x1,())=>by kernel_rfl) rfl
abbrev jG:Type:=ByteArray × Int
abbrev zlB:jG→St:=fun (v0,v1)=>St.mk [(0,.dat .str v0),(1,.dat (.int IntKind.u8) v1)] []
def zP (k0:jG→Option (ByteArray × Unit)):jG→Option (ByteArray × Unit):=fun (v0,v1) =>
 bif decide ((↑(ByteArray.size v0):Int) > 0) then bif decide (0 < (↑(ByteArray.size v0):Int)) then bif (↑(UInt8.toNat (List.getD (Array.toList (ByteArray.data v0)) (Int.toNat 0) 0)):Int) == v1 then bif decide (1 ≤ (↑(ByteArray.size v0):Int)) then k0 (ByteArray.extract v0 (Int.toNat 1) (ByteArray.size v0),v1) else none else some (v0,()) else none else some (v0,())
abbrev ze0 (K:Nat):jG→Option (ByteArray × Unit):=zl zP K
theorem zlC (K:Nat):∀ n,evV Es0 K Tryz.f222 0 (ch [.str]) [1,0,0] [] zlB n = zl zP n:=zt fun n0 (v0,v1)=>by kernel_rfl
def zcw (L0:jG→Option (ByteArray × Unit)):(ByteArray × (Int × Unit))→Option (ByteArray × Unit):=fun (x0,x1,()) =>
 L0 (x0,x1)
def zcx:(ByteArray × Int × Unit)→Option (ByteArray × Unit):=zcw (ze0 K0)
abbrev zgb:Fun:=⟨222,(ch [.str,(.int .u8)]),(ch [.str]),0,zcx⟩
theorem zn5:Sq zgb:=ml0 (d:=false) (S:=fun K=>zcw (ze0 K)) Tryz.func222 (by kernel_rfl) (fun K=>tr1 (T:=zcw) (zlC K K) fun (x0,x1,())=>by kernel_rfl) rfl
abbrev j7:Type:=(List zv) × (Option ((zv × Unit)→Option (Bool × Unit))) × Int × Int
abbrev zn6:j7→St:=fun (v0,v1,v7,v8)=>St.mk [(0,.dat (.sl zA) v0),(1,.dat (.fn (.pair zA .unit) (.pair .bool .unit)) v1),(7,.dat tI v7),(8,.dat tI v8)] []
def zcy (k0:j7→Option (Int × Unit)):j7→Option (Int × Unit):=fun (v0,v1,v7,v8) =>
 bif decide (v8 < v7) then inR v8 ((List.length v0):Int) (Option.bind v1 fun q0=>Option.bind (q0 (ix qS v0 v8,())) fun q1=>bif q1.1 then some (v8,()) else k0 (v0,v1,v7,wI (v8 + 1))) else some ((-1),())
abbrev zgc (K:Nat):j7→Option (Int × Unit):=zl zcy K
theorem zn7 (K:Nat):∀ n,evV Es0 K Tryz.f333 0 (ch [tI]) [1,0,1,0] [] zn6 n = zl zcy n:=zt fun n0 (v0,v1,v7,v8)=>by kernel_rfl
def zdK (L0:j7→Option (Int × Unit)):((List zv) × ((Option ((zv × Unit)→Option (Bool × Unit))) × Unit))→Option (Int × Unit):=fun (x0,x1,()) =>
 L0 (x0,x1,((List.length x0):Int),0)
def zaz:((List zv) × ((Option ((zv × Unit)→Option (Bool × Unit))) × Unit))→Option (Int × Unit):=zdK (zgc K0)
abbrev zhI:Fun:=⟨333,(ch [(.sl zA),(.fn (ch [zA]) (ch [.bool]))]),(ch [tI]),0,zaz⟩
theorem zqk:Sq zhI:=ml0 (d:=false) (S:=fun K=>zdK (zgc K)) Tryz.func333 (by kernel_rfl) (fun K=>tr1 (T:=zdK) (zn7 K K) fun (x0,x1,())=>by kernel_rfl) rfl
def zfu:(Int × Unit)→Option (Bool × Unit):=fun (x0,()) =>
 bif decide (x0 ≥ 0) then bif decide (x0 ≤ 127) then some (true,()) else some (false,()) else some (false,())
abbrev zxv:Fun:=⟨334,(ch [tI]),(ch [.bool]),0,zfu⟩
theorem zHk:Sq zxv:=ms0 (d:=false) (K:=0) Tryz.func334 (by kernel_rfl) (funext fun (x0,())=>by kernel_rfl)
def je:(Int × Unit)→Option (Bool × Unit):=fun (x0,()) =>
 bif decide (x0 ≥ 0) then bif decide (x0 < 4) then some (true,()) else some (false,()) else some (false,())
abbrev zsI:Fun:=⟨267,(ch [tI]),(ch [.bool]),0,je⟩
theorem zDr:Sq zsI:=ms0 (d:=false) (K:=0) Tryz.func267 (by kernel_rfl) (funext fun (x0,())=>by kernel_rfl)
def ze1:(zkW × Unit)→Option (Bool × Unit):=fun (x0,()) =>
 bif eqI zdE x0 (x0.1,(ze zdE).2.1,-1,(ze zdE).2.2.2) then some (true,()) else some (false,())
abbrev zsJ:Fun:=⟨336,(ch [zdE]),(ch [.bool]),0,ze1⟩
theorem zDs:Sq zsJ:=ms0 (d:=false) (K:=0) Tryz.func336 (by kernel_rfl) (funext fun (x0,())=>by kernel_rfl)
def zaO:(Int × Unit)→Option (Bool × Unit):=fun (x0,()) =>
 bif decide (x0 < 0) then some (true,()) else bif decide (x0 > 2) then some (true,()) else some (false,())
abbrev zoP:Fun:=⟨248,(ch [tI]),(ch [.bool]),0,zaO⟩
theorem zzn:Sq zoP:=ms0 (d:=false) (K:=0) Tryz.func248 (by kernel_rfl) (funext fun (x0,())=>by kernel_rfl)
def zcM:(Int × (Int × Unit))→Option (Int × (Int × Unit)):=fun (x0,x1,()) =>
 some (wU (wU (wU (Int.fdiv x0 (2 ^ min (Int.toNat 32) (IntKind.bits IntKind.u64)) * Int.fdiv x1 (2 ^ min (Int.toNat 32) (IntKind.bits IntKind.u64))) + Int.fdiv (wU (wU (Int.fdiv x0 (2 ^ min (Int.toNat 32) (IntKind.bits IntKind.u64)) * wU (↑(BitVec.toNat (BitVec.ofInt (IntKind.bits IntKind.u64) x1 &&& BitVec.ofInt (IntKind.bits IntKind.u64) 4294967295)):Int)) + Int.fdiv (wU (wU (↑(BitVec.toNat (BitVec.ofInt (IntKind.bits IntKind.u64) x0 &&& BitVec.ofInt (IntKind.bits IntKind.u64) 4294967295)):Int) * wU (↑(BitVec.toNat (BitVec.ofInt (IntKind.bits IntKind.u64) x1 &&& BitVec.ofInt (IntKind.bits IntKind.u64) 4294967295)):Int))) (2 ^ min (Int.toNat 32) (IntKind.bits IntKind.u64)))) (2 ^ min (Int.toNat 32) (IntKind.bits IntKind.u64))) + Int.fdiv (wU (wU (↑(BitVec.toNat (BitVec.ofInt (IntKind.bits IntKind.u64) (wU (wU (Int.fdiv x0 (2 ^ min (Int.toNat 32) (IntKind.bits IntKind.u64)) * wU (↑(BitVec.toNat (BitVec.ofInt (IntKind.bits IntKind.u64) x1 &&& BitVec.ofInt (IntKind.bits IntKind.u64) 4294967295)):Int)) + Int.fdiv (wU (wU (↑(BitVec.toNat (BitVec.ofInt (IntKind.bits IntKind.u64) x0 &&& BitVec.ofInt (IntKind.bits IntKind.u64) 4294967295)):Int) * wU (↑(BitVec.toNat (BitVec.ofInt (IntKind.bits IntKind.u64) x1 &&& BitVec.ofInt (IntKind.bits IntKind.u64) 4294967295)):Int))) (2 ^ min (Int.toNat 32) (IntKind.bits IntKind.u64)))) &&& BitVec.ofInt (IntKind.bits IntKind.u64) 4294967295)):Int) + wU (wU (↑(BitVec.toNat (BitVec.ofInt (IntKind.bits IntKind.u64) x0 &&& BitVec.ofInt (IntKind.bits IntKind.u64) 4294967295)):Int) * Int.fdiv x1 (2 ^ min (Int.toNat 32) (IntKind.bits IntKind.u64))))) (2 ^ min (Int.toNat 32) (IntKind.bits IntKind.u64))),wU (x0 * x1),())
abbrev zkA:Fun:=⟨374,(ch [tU,tU]),(ch [tU,tU]),0,zcM⟩
theorem zub:Sq zkA:=ms0 (d:=false) (K:=0) Tryz.func374 (by kernel_rfl) (funext fun (x0,x1,())=>by kernel_rfl)
def zjS:(Int × Unit)→Option (Bool × Unit):=fun (x0,()) =>
 bif decide (x0 ≥ 0) then bif decide (x0 ≤ 127) then some (true,()) else some (false,()) else some (false,())
abbrev zAM:Fun:=⟨338,(ch [tI]),(ch [.bool]),0,zjS⟩
theorem zI1:Sq zAM:=ms0 (d:=false) (K:=0) Tryz.func338 (by kernel_rfl) (funext fun (x0,())=>by kernel_rfl)
def zdL:(Int × Unit)→Option (Bool × Unit):=fun (x0,()) =>
 bif decide (x0 ≥ 0) then bif decide (x0 ≤ 127) then some (true,()) else some (false,()) else some (false,())
abbrev zxw:Fun:=⟨339,(ch [tI]),(ch [.bool]),0,zdL⟩
theorem zHl:Sq zxw:=ms0 (d:=false) (K:=0) Tryz.func339 (by kernel_rfl) (funext fun (x0,())=>by kernel_rfl)
def zd6:(zd × (zN × Unit))→Option (Bool × Unit):=fun (x0,x1,()) =>
 bif decide (x1.1 ≥ 0) then bif decide (x1.1 < ((List.length x0.2.1):Int)) then bif decide (x1.2.1 ≥ 0) then inR x1.1 ((List.length x0.2.1):Int) (bif decide (x1.2.1 < ((List.length (ix zg x0.2.1 x1.1).1):Int)) then inR x1.1 ((List.length x0.2.1):Int) (inR x1.2.1 ((List.length (ix zg x0.2.1 x1.1).1):Int) (bif (List.getD (ix zg x0.2.1 x1.1).1 (Int.toNat x1.2.1) (ze qk)).1 then some (true,()) else some (false,()))) else some (false,())) else some (false,()) else some (false,()) else some (false,())
abbrev zqX:Fun:=⟨147,(ch [zz,zR]),(ch [.bool]),0,zd6⟩
theorem zBa:Sq zqX:=ms0 (d:=false) (K:=0) Tryz.func147 (by kernel_rfl) (funext fun (x0,x1,())=>by kernel_rfl)
def zbA:(qJ × (Int × Unit))→Option (Bool × Unit):=fun (x0,x1,()) =>
 bif decide (x1 ≥ 0) then bif decide (x1 < ((List.length x0.1.1):Int)) then some (true,()) else some (false,()) else some (false,())
abbrev zqY:Fun:=⟨150,(ch [qf,tI]),(ch [.bool]),0,zbA⟩
theorem zBb:Sq zqY:=ms0 (d:=false) (K:=0) Tryz.func150 (by kernel_rfl) (funext fun (x0,x1,())=>by kernel_rfl)
def qK:(qJ × (Int × Unit))→Option (Bool × Unit):=fun (x0,x1,()) =>
 bif decide (x1 ≥ 0) then bif decide (x1 < ((List.length x0.1.2.2.1):Int)) then some (true,()) else some (false,()) else some (false,())
abbrev zm4:Fun:=⟨151,(ch [qf,tI]),(ch [.bool]),0,qK⟩
theorem zxx:Sq zm4:=ms0 (d:=false) (K:=0) Tryz.func151 (by kernel_rfl) (funext fun (x0,x1,())=>by kernel_rfl)
def zbs:(zq × ((Option (Option ((zq × Unit)→Option (Bool × Unit)))) × Unit))→Option (Bool × Unit):=fun (x0,x1,()) =>
 Option.bind x1 fun q0=>Option.bind q0 fun q1=>Option.bind (q1 (x0,())) fun q2=>bif q2.1 then some (false,()) else some (true,())
abbrev ziH:Fun:=⟨254,(ch [zo,(.ptr (.fn (ch [zo]) (ch [.bool])))]),(ch [.bool]),0,zbs⟩
theorem zrP:Sq ziH:=ms0 (d:=false) (K:=0) Tryz.func254 (by kernel_rfl) (funext fun (x0,x1,())=>by kernel_rfl)
abbrev j8:Type:=(List zq) × (Option ((zq × Unit)→Option (Bool × Unit))) × Int × Int
abbrev zn8:j8→St:=fun (v0,v1,v7,v8)=>St.mk [(0,.dat (.sl zo) v0),(1,.dat (.fn (.pair zo .unit) (.pair .bool .unit)) v1),(7,.dat tI v7),(8,.dat tI v8)] []
def zcz (k0:j8→Option (Int × Unit)):j8→Option (Int × Unit):=fun (v0,v1,v7,v8) =>
 bif decide (v8 < v7) then inR v8 ((List.length v0):Int) (Option.bind v1 fun q0=>Option.bind (q0 (ix qs v0 v8,())) fun q1=>bif q1.1 then some (v8,()) else k0 (v0,v1,v7,wI (v8 + 1))) else some ((-1),())
abbrev zgd (K:Nat):j8→Option (Int × Unit):=zl zcz K
theorem zn9 (K:Nat):∀ n,evV Es0 K Tryz.f343 0 (ch [tI]) [1,0,1,0] [] zn8 n = zl zcz n:=zt fun n0 (v0,v1,v7,v8)=>by kernel_rfl
def zdM (L0:j8→Option (Int × Unit)):((List zq) × ((Option ((zq × Unit)→Option (Bool × Unit))) × Unit))→Option (Int × Unit):=fun (x0,x1,()) =>
 L0 (x0,x1,((List.length x0):Int),0)
def zaA:((List zq) × ((Option ((zq × Unit)→Option (Bool × Unit))) × Unit))→Option (Int × Unit):=zdM (zgd K0)
abbrev zhJ:Fun:=⟨343,(ch [(.sl zo),(.fn (ch [zo]) (ch [.bool]))]),(ch [tI]),0,zaA⟩
theorem zql:Sq zhJ:=ml0 (d:=false) (S:=fun K=>zdM (zgd K)) Tryz.func343 (by kernel_rfl) (fun K=>tr1 (T:=zdM) (zn9 K K) fun (x0,x1,())=>by kernel_rfl) rfl
def zbt:(zG × ((Option (Option ((zG × Unit)→Option (Bool × Unit)))) × Unit))→Option (Bool × Unit):=fun (x0,x1,()) =>
 Option.bind x1 fun q0=>Option.bind q0 fun q1=>Option.bind (q1 (x0,())) fun q2=>bif q2.1 then some (false,()) else some (true,())
abbrev ziI:Fun:=⟨256,(ch [zx,(.ptr (.fn (ch [zx]) (ch [.bool])))]),(ch [.bool]),0,zbt⟩
theorem zrQ:Sq ziI:=ms0 (d:=false) (K:=0) Tryz.func256 (by kernel_rfl) (funext fun (x0,x1,())=>by kernel_rfl)
abbrev j9:Type:=(List zG) × (Option ((zG × Unit)→Option (Bool × Unit))) × Int × Int
abbrev zoa:j9→St:=fun (v0,v1,v7,v8)=>St.mk [(0,.dat (.sl zx) v0),(1,.dat (.fn (.pair zx .unit) (.pair .bool .unit)) v1),(7,.dat tI v7),(8,.dat tI v8)] []
def zcA (k0:j9→Option (Int × Unit)):j9→Option (Int × Unit):=fun (v0,v1,v7,v8) =>
 bif decide (v8 < v7) then inR v8 ((List.length v0):Int) (Option.bind v1 fun q0=>Option.bind (q0 (ix zhz v0 v8,())) fun q1=>bif q1.1 then some (v8,()) else k0 (v0,v1,v7,wI (v8 + 1))) else some ((-1),())
abbrev zge (K:Nat):j9→Option (Int × Unit):=zl zcA K
theorem zob (K:Nat):∀ n,evV Es0 K Tryz.f344 0 (ch [tI]) [1,0,1,0] [] zoa n = zl zcA n:=zt fun n0 (v0,v1,v7,v8)=>by kernel_rfl
def zdN (L0:j9→Option (Int × Unit)):((List zG) × ((Option ((zG × Unit)→Option (Bool × Unit))) × Unit))→Option (Int × Unit):=fun (x0,x1,()) =>
 L0 (x0,x1,((List.length x0):Int),0)
def zaB:((List zG) × ((Option ((zG × Unit)→Option (Bool × Unit))) × Unit))→Option (Int × Unit):=zdN (zge K0)
abbrev zhK:Fun:=⟨344,(ch [(.sl zx),(.fn (ch [zx]) (ch [.bool]))]),(ch [tI]),0,zaB⟩
theorem zqm:Sq zhK:=ml0 (d:=false) (S:=fun K=>zdN (zge K)) Tryz.func344 (by kernel_rfl) (fun K=>tr1 (T:=zdN) (zob K K) fun (x0,x1,())=>by kernel_rfl) rfl
def zcN:(Int × ((Option (Option ((Int × Unit)→Option (Bool × Unit)))) × Unit))→Option (Bool × Unit):=fun (x0,x1,()) =>
 Option.bind x1 fun q0=>Option.bind q0 fun q1=>Option.bind (q1 (x0,())) fun q2=>bif q2.1 then some (false,()) else some (true,())
abbrev zkB:Fun:=⟨257,(ch [tI,(.ptr (.fn (ch [tI]) (ch [.bool])))]),(ch [.bool]),0,zcN⟩
theorem zuc:Sq zkB:=ms0 (d:=false) (K:=0) Tryz.func257 (by kernel_rfl) (funext fun (x0,x1,())=>by kernel_rfl)
def va:(zr × (zr × Unit))→Option (Bool × Unit):=fun (x0,x1,()) =>
 bif decide (x0.1 ≤ x1.1) then bif wU (↑(BitVec.toNat (BitVec.ofInt (IntKind.bits IntKind.u64) x0.2.1 &&& ~~~BitVec.ofInt (IntKind.bits IntKind.u64) x1.2.1)):Int) == 0 then some (true,()) else some (false,()) else some (false,())
abbrev zuO:Fun:=⟨31,(ch [zp,zp]),(ch [.bool]),0,va⟩
theorem zFp:Sq zuO:=ms0 (d:=false) (K:=0) Tryz.func31 (by kernel_rfl) (funext fun (x0,x1,())=>by kernel_rfl)
def zeC:(qe × ((Option (Option ((zN × Unit)→Option (Bool × Unit)))) × Unit))→Option (Bool × Unit):=fun (x0,x1,()) =>
 bif x0.1 then Option.bind x1 fun q0=>Option.bind q0 fun q1=>Option.bind (q1 (x0.2.1,())) fun q2=>bif q2.1 then Option.bind x1 fun q3=>Option.bind q3 fun q4=>Option.bind (q4 (x0.2.2.1,())) fun q5=>bif q5.1 then some (true,()) else some (false,()) else some (false,()) else some (true,())
abbrev zm5:Fun:=⟨158,(ch [z3,(.ptr (.fn (ch [zR]) (ch [.bool])))]),(ch [.bool]),0,zeC⟩
theorem zxy:Sq zm5:=ms0 (d:=false) (K:=0) Tryz.func158 (by kernel_rfl) (funext fun (x0,x1,())=>by kernel_rfl)
def zbS:(qe × ((Option (Option ((qe × Unit)→Option (Bool × Unit)))) × Unit))→Option (Bool × Unit):=fun (x0,x1,()) =>
 Option.bind x1 fun q0=>Option.bind q0 fun q1=>Option.bind (q1 (x0,())) fun q2=>bif q2.1 then some (false,()) else some (true,())
abbrev zjT:Fun:=⟨260,(ch [z3,(.ptr (.fn (ch [z3]) (ch [.bool])))]),(ch [.bool]),0,zbS⟩
theorem zsK:Sq zjT:=ms0 (d:=false) (K:=0) Tryz.func260 (by kernel_rfl) (funext fun (x0,x1,())=>by kernel_rfl)
def zbT:(qc × ((Option (Option ((zN × Unit)→Option (Bool × Unit)))) × Unit))→Option (Bool × Unit):=fun (x0,x1,()) =>
 bif x0.2.2.1 != 2 then some (true,()) else Option.bind x1 fun q0=>Option.bind q0 fun q1=>Option.bind (q1 (x0.2.2.2.2.1,())) fun q2=>bif q2.1 then some (true,()) else some (false,())
abbrev zm6:Fun:=⟨160,(ch [zX,(.ptr (.fn (ch [zR]) (ch [.bool])))]),(ch [.bool]),0,zbT⟩
theorem zxz:Sq zm6:=ms0 (d:=false) (K:=0) Tryz.func160 (by kernel_rfl) (funext fun (x0,x1,())=>by kernel_rfl)
def zbU:(qc × ((Option (Option ((qc × Unit)→Option (Bool × Unit)))) × Unit))→Option (Bool × Unit):=fun (x0,x1,()) =>
 Option.bind x1 fun q0=>Option.bind q0 fun q1=>Option.bind (q1 (x0,())) fun q2=>bif q2.1 then some (false,()) else some (true,())
abbrev zjU:Fun:=⟨261,(ch [zX,(.ptr (.fn (ch [zX]) (ch [.bool])))]),(ch [.bool]),0,zbU⟩
theorem zsL:Sq zjU:=ms0 (d:=false) (K:=0) Tryz.func261 (by kernel_rfl) (funext fun (x0,x1,())=>by kernel_rfl)
def zcO:(zN × ((Option (Option ((zN × Unit)→Option (Bool × Unit)))) × Unit))→Option (Bool × Unit):=fun (x0,x1,()) =>
 Option.bind x1 fun q0=>Option.bind q0 fun q1=>Option.bind (q1 (x0,())) fun q2=>bif q2.1 then some (false,()) else some (true,())
abbrev zkC:Fun:=⟨263,(ch [zR,(.ptr (.fn (ch [zR]) (ch [.bool])))]),(ch [.bool]),0,zcO⟩
theorem zud:Sq zkC:=ms0 (d:=false) (K:=0) Tryz.func263 (by kernel_rfl) (funext fun (x0,x1,())=>by kernel_rfl)
abbrev vQ:Type:=(List zN) × (Option ((zN × Unit)→Option (Bool × Unit))) × Int × Int
abbrev zqn:vQ→St:=fun (v0,v1,v7,v8)=>St.mk [(0,.dat (.sl jc) v0),(1,.dat (.fn (.pair jc .unit) (.pair .bool .unit)) v1),(7,.dat tI v7),(8,.dat tI v8)] []
def zdO (k0:vQ→Option (Int × Unit)):vQ→Option (Int × Unit):=fun (v0,v1,v7,v8) =>
 bif decide (v8 < v7) then inR v8 ((List.length v0):Int) (Option.bind v1 fun q0=>Option.bind (q0 (ix zJ v0 v8,())) fun q1=>bif q1.1 then some (v8,()) else k0 (v0,v1,v7,wI (v8 + 1))) else some ((-1),())
abbrev zhL (K:Nat):vQ→Option (Int × Unit):=zl zdO K
theorem zqo (K:Nat):∀ n,evV Es0 K Tryz.f345 0 (ch [tI]) [1,0,1,0] [] zqn n = zl zdO n:=zt fun n0 (v0,v1,v7,v8)=>by kernel_rfl
def ze2 (L0:vQ→Option (Int × Unit)):((List zN) × ((Option ((zN × Unit)→Option (Bool × Unit))) × Unit))→Option (Int × Unit):=fun (x0,x1,()) =>
 L0 (x0,x1,((List.length x0):Int),0)
def zbV:((List j3) × ((Option ((j3 × Unit)→Option (Bool × Unit))) × Unit))→Option (Int × Unit):=ze2 (zhL K0)
abbrev zjV:Fun:=⟨345,(ch [(.sl zR),(.fn (ch [zR]) (ch [.bool]))]),(ch [tI]),0,zbV⟩
theorem zsM:Sq zjV:=ml0 (d:=false) (S:=fun K=>ze2 (zhL K)) Tryz.func345 (by kernel_rfl) (fun K=>tr1 (T:=ze2) (zqo K K) fun (x0,x1,())=>by kernel_rfl) rfl
def zbW:(zw × ((Option (Option ((zw × Unit)→Option (Bool × Unit)))) × Unit))→Option (Bool × Unit):=fun (x0,x1,()) =>
 Option.bind x1 fun q0=>Option.bind q0 fun q1=>Option.bind (q1 (x0,())) fun q2=>bif q2.1 then some (false,()) else some (true,())
abbrev zjW:Fun:=⟨264,(ch [zy,(.ptr (.fn (ch [zy]) (ch [.bool])))]),(ch [.bool]),0,zbW⟩
theorem zsN:Sq zjW:=ms0 (d:=false) (K:=0) Tryz.func264 (by kernel_rfl) (funext fun (x0,x1,())=>by kernel_rfl)
def zbu:(zv × ((Option (Option ((zv × Unit)→Option (Bool × Unit)))) × Unit))→Option (Bool × Unit):=fun (x0,x1,()) =>
 Option.bind x1 fun q0=>Option.bind q0 fun q1=>Option.bind (q1 (x0,())) fun q2=>bif q2.1 then some (false,()) else some (true,())
abbrev ziJ:Fun:=⟨265,(ch [zA,(.ptr (.fn (ch [zA]) (ch [.bool])))]),(ch [.bool]),0,zbu⟩
theorem zrR:Sq ziJ:=ms0 (d:=false) (K:=0) Tryz.func265 (by kernel_rfl) (funext fun (x0,x1,())=>by kernel_rfl)
def za1:((List zv) × Unit)→Option ((List zv) × Unit):=fun (x0,()) =>
 bif List.isEmpty x0 then zep (some ([],())) (bif jZ true zA (List.length (List.replicate 0 (ze zA)) + List.length x0) then some (List.replicate 0 (ze zA) ++ x0,()) else none) else bif jZ true zA (List.length (List.replicate 0 (ze zA)) + List.length x0) then some (List.replicate 0 (ze zA) ++ x0,()) else none
abbrev zlD:Fun:=⟨44,(ch [(.sl zA)]),(ch [(.sl zA)]),1,za1⟩
theorem zvH:Sq zlD:=mj0 (d:=false) (js:=[999998]) (K:=0) Tryz.func44 (by kernel_rfl) (funext fun (x0,())=>by kernel_rfl)
def vR:(zv × Unit)→Option (Bool × Unit):=fun (x0,()) =>
 bif x0.1 then some (true,()) else some (false,())
abbrev zm7:Fun:=⟨169,(ch [zA]),(ch [.bool]),0,vR⟩
theorem zxA:Sq zm7:=ms0 (d:=false) (K:=0) Tryz.func169 (by kernel_rfl) (funext fun (x0,())=>by kernel_rfl)
def zdP:((Option zbR) × Unit)→Option (Bool × Unit):=fun (x0,()) =>
 bif Option.isSome x0 then Option.bind x0 fun q0=>bif Option.isSome q0.2.1 then some (true,()) else some (false,()) else some (false,())
abbrev zlE:Fun:=⟨266,(ch [(.ptr vO)]),(ch [.bool]),0,zdP⟩
theorem zvI:Sq zlE:=ms0 (d:=false) (K:=0) Tryz.func266 (by kernel_rfl) (funext fun (x0,())=>by kernel_rfl)
def za2:((List zq) × Unit)→Option ((List zq) × Unit):=fun (x0,()) =>
 bif List.isEmpty x0 then zep (some ([],())) (bif jZ true zo (List.length (List.replicate 0 (ze zo)) + List.length x0) then some (List.replicate 0 (ze zo) ++ x0,()) else none) else bif jZ true zo (List.length (List.replicate 0 (ze zo)) + List.length x0) then some (List.replicate 0 (ze zo) ++ x0,()) else none
abbrev zlF:Fun:=⟨35,(ch [(.sl zo)]),(ch [(.sl zo)]),1,za2⟩
theorem zvJ:Sq zlF:=mj0 (d:=false) (js:=[999998]) (K:=0) Tryz.func35 (by kernel_rfl) (funext fun (x0,())=>by kernel_rfl)
def zhM:(zq × Unit)→Option (Bool × Unit):=fun (x0,()) =>
 bif x0.1 then some (true,()) else some (false,())
abbrev zsO:Fun:=⟨376,(ch [zo]),(ch [.bool]),0,zhM⟩
theorem zDt:Sq zsO:=ms0 (d:=false) (K:=0) Tryz.func376 (by kernel_rfl) (funext fun (x0,())=>by kernel_rfl)
def zdQ:((Option zdF) × Unit)→Option (Bool × Unit):=fun (x0,()) =>
 bif Option.isSome x0 then Option.bind x0 fun q0=>bif Option.isSome q0.2.1 then some (true,()) else some (false,()) else some (false,())
abbrev zlG:Fun:=⟨377,(ch [(.ptr yK)]),(ch [.bool]),0,zdQ⟩
theorem zvK:Sq zlG:=ms0 (d:=false) (K:=0) Tryz.func377 (by kernel_rfl) (funext fun (x0,())=>by kernel_rfl)
def zgx:(zq × Unit)→Option (Int × Unit):=fun (x0,()) =>
 bif x0.2.2.2.1 == 2 then some (x0.2.2.2.2.1,()) else some (x0.2.2.2.2.2.1,())
abbrev zqZ:Fun:=⟨347,(ch [zo]),(ch [tI]),0,zgx⟩
theorem zBc:Sq zqZ:=ms0 (d:=false) (K:=0) Tryz.func347 (by kernel_rfl) (funext fun (x0,())=>by kernel_rfl)
end
end Go.Proofs.YtkcakhbkoeimdaaGreatDoor
end
section
namespace Go.Proofs.YtkcakhbkoeimdaaGreatDoor
open Go.Ev
noncomputable section
def zjq:(Int × (Int × Unit))→Option (Int × (Int × Unit)):=fun (x0,x1,()) =>
 bif decide (0 ≤ x0) then bif decide (0 ≤ x1) then bif decide (x1 < 18446744073709551616) then bif extB true x0 x1 != 0 then some (0,7,()) else bif decide (extA true x0 x1 > 4611686018427387904) then some (0,7,()) else some (extA true x0 x1,0,()) else none else none else none
abbrev zuP:Fun:=⟨349,(ch [tU,tU]),(ch [tU,tI]),0,zjq⟩
theorem zFq:Sq zuP:=ms0 (d:=false) (K:=0) Tryz.func349 (by kernel_rfl) (funext fun (x0,x1,())=>by kernel_rfl)
def zgy:(zv × Unit)→Option (Bool × Unit):=fun (x0,()) =>
 bif x0.1 then some (true,()) else some (false,())
abbrev zq0:Fun:=⟨367,(ch [zA]),(ch [.bool]),0,zgy⟩
theorem zBd:Sq zq0:=ms0 (d:=false) (K:=0) Tryz.func367 (by kernel_rfl) (funext fun (x0,())=>by kernel_rfl)
def zi0:(zi × Unit)→Option ((List Int) × Unit):=fun (x0,()) =>
 some (x0.2.2.2.2.2.2.2.1,())
abbrev zoQ:Fun:=⟨272,(ch [zn]),(ch [(.arr 4 tU)]),0,zi0⟩
theorem zzo:Sq zoQ:=ms0 (d:=false) (K:=0) Tryz.func272 (by kernel_rfl) (funext fun (x0,())=>by kernel_rfl)
def zi1:(zi × Unit)→Option ((List Int) × Unit):=fun (x0,()) =>
 some (x0.2.2.2.2.2.2.2.2.1,())
abbrev zoR:Fun:=⟨273,(ch [zn]),(ch [(.arr 4 tU)]),0,zi1⟩
theorem zzp:Sq zoR:=ms0 (d:=false) (K:=0) Tryz.func273 (by kernel_rfl) (funext fun (x0,())=>by kernel_rfl)
def zhN:(Int × (Int × Unit))→Option (Int × (Int × Unit)):=fun (x0,x1,()) =>
 bif decide (0 ≤ x0) then bif decide (0 ≤ x1) then bif decide (x1 < 18446744073709551616) then bif extB false x0 x1 != 0 then some (0,6,()) else some (extA false x0 x1,0,()) else none else none else none
abbrev zsP:Fun:=⟨274,(ch [tU,tU]),(ch [tU,tI]),0,zhN⟩
theorem zDu:Sq zsP:=ms0 (d:=false) (K:=0) Tryz.func274 (by kernel_rfl) (funext fun (x0,x1,())=>by kernel_rfl)
def zdw:(Int × (Int × Unit))→Option (Bool × Unit):=fun (x0,x1,()) =>
 bif decide (x0 ≥ 0) then bif decide (x0 < x1) then some (true,()) else some (false,()) else some (false,())
abbrev zAN:Fun:=⟨231,(ch [tI,tI]),(ch [.bool]),0,zdw⟩
theorem zI2:Sq zAN:=ms0 (d:=false) (K:=0) Tryz.func231 (by kernel_rfl) (funext fun (x0,x1,())=>by kernel_rfl)
abbrev vb:Type:=(List zN) × (Option ((zN × Unit)→Option (Bool × Unit))) × Int × Int
abbrev zoc:vb→St:=fun (v0,v1,v7,v8)=>St.mk [(0,.dat (.sl jc) v0),(1,.dat (.fn (.pair jc .unit) (.pair .bool .unit)) v1),(7,.dat tI v7),(8,.dat tI v8)] []
def zcC (k0:vb→Option (Int × Unit)):vb→Option (Int × Unit):=fun (v0,v1,v7,v8) =>
 bif decide (v8 < v7) then inR v8 ((List.length v0):Int) (Option.bind v1 fun q0=>Option.bind (q0 (ix zJ v0 v8,())) fun q1=>bif q1.1 then some (v8,()) else k0 (v0,v1,v7,wI (v8 + 1))) else some ((-1),())
abbrev zgf (K:Nat):vb→Option (Int × Unit):=zl zcC K
theorem zod (K:Nat):∀ n,evV Es0 K Tryz.f318 0 (ch [tI]) [1,0,1,0] [] zoc n = zl zcC n:=zt fun n0 (v0,v1,v7,v8)=>by kernel_rfl
def zdR (L0:vb→Option (Int × Unit)):((List zN) × ((Option ((zN × Unit)→Option (Bool × Unit))) × Unit))→Option (Int × Unit):=fun (x0,x1,()) =>
 L0 (x0,x1,((List.length x0):Int),0)
def zaC:((List zN) × ((Option ((zN × Unit)→Option (Bool × Unit))) × Unit))→Option (Int × Unit):=zdR (zgf K0)
abbrev zhO:Fun:=⟨318,(ch [(.sl jc),(.fn (ch [jc]) (ch [.bool]))]),(ch [tI]),0,zaC⟩
theorem zqp:Sq zhO:=ml0 (d:=false) (S:=fun K=>zdR (zgf K)) Tryz.func318 (by kernel_rfl) (fun K=>tr1 (T:=zdR) (zod K K) fun (x0,x1,())=>by kernel_rfl) rfl
def za3:(Int × ((Option (List (List Int))) × ((Option Int) × Unit)))→Option (Bool × Unit):=fun (x0,x1,x2,()) =>
 Option.bind x1 fun q0=>inR x0 ((List.length q0):Int) (Option.bind x2 fun q1=>inR q1 ((List.length (List.getD q0 (Int.toNat x0) ([]:List Int))):Int) (bif List.getD (List.getD q0 (Int.toNat x0) ([]:List Int)) (Int.toNat q1) (0:Int) == 0 then some (true,()) else some (false,())))
abbrev zlH:Fun:=⟨320,(ch [tI,(.ptr (.sl (.sl tI))),(.ptr tI)]),(ch [.bool]),0,za3⟩
theorem zvL:Sq zlH:=ms0 (d:=false) (K:=0) Tryz.func320 (by kernel_rfl) (funext fun (x0,x1,x2,())=>by kernel_rfl)
abbrev zDv:Fun:=⟨126,(ch [zp]),(ch [(.sl tI)]),0,zeV⟩
abbrev za4:Type:=(List Int) × Int × Int × Int
abbrev zvM:za4→St:=fun (v0,v1,v7,v8)=>St.mk [(0,.dat (.sl tI) v0),(1,.dat tI v1),(7,.dat tI v7),(8,.dat tI v8)] []
def za5 (k0:za4→Option (Int × Unit)):za4→Option (Int × Unit):=fun (v0,v1,v7,v8) =>
 bif decide (v8 < v7) then inR v8 ((List.length v0):Int) (bif v1 == ix (0:Int) v0 v8 then some (v8,()) else k0 (v0,v1,v7,wI (v8 + 1))) else some ((-1),())
abbrev zlI (K:Nat):za4→Option (Int × Unit):=zl za5 K
theorem zvN (K:Nat):∀ n,evV Es0 K Tryz.f125 0 (ch [tI]) [1,0,1,0] [] zvM n = zl za5 n:=zt fun n0 (v0,v1,v7,v8)=>by kernel_rfl
def zi2 (L0:za4→Option (Int × Unit)):((List Int) × (Int × Unit))→Option (Int × Unit):=fun (x0,x1,()) =>
 L0 (x0,x1,((List.length x0):Int),0)
def zi3:((List Int) × Int × Unit)→Option (Int × Unit):=zi2 (zlI K0)
abbrev zoS:Fun:=⟨125,(ch [(.sl tI),tI]),(ch [tI]),0,zi3⟩
theorem zzq:Sq zoS:=ml0 (d:=false) (S:=fun K=>zi2 (zlI K)) Tryz.func125 (by kernel_rfl) (fun K=>tr1 (T:=zi2) (zvN K K) fun (x0,x1,())=>by kernel_rfl) rfl
def yA:((List Int) × Unit)→Option ((List Int) × Unit):=fun (x0,()) =>
 bif List.isEmpty x0 then zep (some ([],())) (bif jZ true tI (List.length (List.replicate 0 (0:Int)) + List.length x0) then some (List.replicate 0 (0:Int) ++ x0,()) else none) else bif jZ true tI (List.length (List.replicate 0 (0:Int)) + List.length x0) then some (List.replicate 0 (0:Int) ++ x0,()) else none
abbrev zoT:Fun:=⟨37,(ch [(.sl tI)]),(ch [(.sl tI)]),1,yA⟩
theorem zzr:Sq zoT:=mj0 (d:=false) (js:=[999998]) (K:=0) Tryz.func37 (by kernel_rfl) (funext fun (x0,())=>by kernel_rfl)
def zm8:(Int × (Bool × Unit))→Option (Int × (Int × Unit)):=fun (x0,x1,()) =>
 bif x0 != 0 then some (0,4,()) else some (1,0,())
abbrev zm9:Fun:=⟨128,(ch [tI,.bool]),(ch [tI,tI]),0,zm8⟩
theorem zxB:Sq zm9:=ms0 (d:=false) (K:=0) Tryz.func128 (by kernel_rfl) (funext fun (x0,x1,())=>by kernel_rfl)
def zoU:(Int × (Bool × Unit))→Option (Int × (Int × Unit)):=fun (x0,x1,()) =>
 bif x0 == 0 then some (0,3,()) else bif x0 == 2 then some (0,4,()) else some (2,0,())
abbrev zoV:Fun:=⟨129,(ch [tI,.bool]),(ch [tI,tI]),0,zoU⟩
theorem zzs:Sq zoV:=ms0 (d:=false) (K:=0) Tryz.func129 (by kernel_rfl) (funext fun (x0,x1,())=>by kernel_rfl)
def zoW:(Int × (Bool × Unit))→Option (Int × (Int × Unit)):=fun (x0,x1,()) =>
 bif x0 == 0 then some (0,3,()) else bif x1 then some (0,5,()) else some (0,0,())
abbrev zoX:Fun:=⟨130,(ch [tI,.bool]),(ch [tI,tI]),0,zoW⟩
theorem zzt:Sq zoX:=ms0 (d:=false) (K:=0) Tryz.func130 (by kernel_rfl) (funext fun (x0,x1,())=>by kernel_rfl)
def zgP:((List zG) × Unit)→Option ((List zG) × Unit):=fun (x0,()) =>
 bif List.isEmpty x0 then zep (some ([],())) (bif jZ true zx (List.length (List.replicate 0 (ze zx)) + List.length x0) then some (List.replicate 0 (ze zx) ++ x0,()) else none) else bif jZ true zx (List.length (List.replicate 0 (ze zx)) + List.length x0) then some (List.replicate 0 (ze zx) ++ x0,()) else none
abbrev zlJ:Fun:=⟨36,(ch [(.sl zx)]),(ch [(.sl zx)]),1,zgP⟩
theorem zvO:Sq zlJ:=mj0 (d:=false) (js:=[999998]) (K:=0) Tryz.func36 (by kernel_rfl) (funext fun (x0,())=>by kernel_rfl)
def zhP:((List (List Int)) × Unit)→Option ((List (List Int)) × Unit):=fun (x0,()) =>
 bif List.isEmpty x0 then zep (some ([],())) (bif jZ true (.sl tI) (List.length (List.replicate 0 ([]:List Int)) + List.length x0) then some (List.replicate 0 ([]:List Int) ++ x0,()) else none) else bif jZ true (.sl tI) (List.length (List.replicate 0 ([]:List Int)) + List.length x0) then some (List.replicate 0 ([]:List Int) ++ x0,()) else none
abbrev zna:Fun:=⟨38,(ch [(.sl (.sl tI))]),(ch [(.sl (.sl tI))]),1,zhP⟩
theorem zxC:Sq zna:=mj0 (d:=false) (js:=[999998]) (K:=0) Tryz.func38 (by kernel_rfl) (funext fun (x0,())=>by kernel_rfl)
def zgQ:((List zi) × Unit)→Option ((List zi) × Unit):=fun (x0,()) =>
 bif List.isEmpty x0 then zep (some ([],())) (bif jZ true zn (List.length (List.replicate 0 (ze zn)) + List.length x0) then some (List.replicate 0 (ze zn) ++ x0,()) else none) else bif jZ true zn (List.length (List.replicate 0 (ze zn)) + List.length x0) then some (List.replicate 0 (ze zn) ++ x0,()) else none
abbrev zlK:Fun:=⟨39,(ch [(.sl zn)]),(ch [(.sl zn)]),1,zgQ⟩
theorem zvP:Sq zlK:=mj0 (d:=false) (js:=[999998]) (K:=0) Tryz.func39 (by kernel_rfl) (funext fun (x0,())=>by kernel_rfl)
def zhQ:((List qZ) × Unit)→Option ((List qZ) × Unit):=fun (x0,()) =>
 bif List.isEmpty x0 then zep (some ([],())) (bif jZ true qk (List.length (List.replicate 0 (ze qk)) + List.length x0) then some (List.replicate 0 (ze qk) ++ x0,()) else none) else bif jZ true qk (List.length (List.replicate 0 (ze qk)) + List.length x0) then some (List.replicate 0 (ze qk) ++ x0,()) else none
abbrev znb:Fun:=⟨40,(ch [(.sl qk)]),(ch [(.sl qk)]),1,zhQ⟩
theorem zxD:Sq znb:=mj0 (d:=false) (js:=[999998]) (K:=0) Tryz.func40 (by kernel_rfl) (funext fun (x0,())=>by kernel_rfl)
def zhR:((List qe) × Unit)→Option ((List qe) × Unit):=fun (x0,()) =>
 bif List.isEmpty x0 then zep (some ([],())) (bif jZ true z3 (List.length (List.replicate 0 (ze z3)) + List.length x0) then some (List.replicate 0 (ze z3) ++ x0,()) else none) else bif jZ true z3 (List.length (List.replicate 0 (ze z3)) + List.length x0) then some (List.replicate 0 (ze z3) ++ x0,()) else none
abbrev znc:Fun:=⟨41,(ch [(.sl z3)]),(ch [(.sl z3)]),1,zhR⟩
theorem zxE:Sq znc:=mj0 (d:=false) (js:=[999998]) (K:=0) Tryz.func41 (by kernel_rfl) (funext fun (x0,())=>by kernel_rfl)
def zhS:((List qc) × Unit)→Option ((List qc) × Unit):=fun (x0,()) =>
 bif List.isEmpty x0 then zep (some ([],())) (bif jZ true zX (List.length (List.replicate 0 (ze zX)) + List.length x0) then some (List.replicate 0 (ze zX) ++ x0,()) else none) else bif jZ true zX (List.length (List.replicate 0 (ze zX)) + List.length x0) then some (List.replicate 0 (ze zX) ++ x0,()) else none
abbrev znd:Fun:=⟨42,(ch [(.sl zX)]),(ch [(.sl zX)]),1,zhS⟩
theorem zxF:Sq znd:=mj0 (d:=false) (js:=[999998]) (K:=0) Tryz.func42 (by kernel_rfl) (funext fun (x0,())=>by kernel_rfl)
def y4:((List zw) × Unit)→Option ((List zw) × Unit):=fun (x0,()) =>
 bif List.isEmpty x0 then zep (some ([],())) (bif jZ true zy (List.length (List.replicate 0 (ze zy)) + List.length x0) then some (List.replicate 0 (ze zy) ++ x0,()) else none) else bif jZ true zy (List.length (List.replicate 0 (ze zy)) + List.length x0) then some (List.replicate 0 (ze zy) ++ x0,()) else none
abbrev zne:Fun:=⟨43,(ch [(.sl zy)]),(ch [(.sl zy)]),1,y4⟩
theorem zxG:Sq zne:=mj0 (d:=false) (js:=[999998]) (K:=0) Tryz.func43 (by kernel_rfl) (funext fun (x0,())=>by kernel_rfl)
def zki:((List (List Int)) × Unit)→Option ((List (List Int)) × Unit):=fun (x0,()) =>
 bif List.isEmpty x0 then zep (some ([],())) (bif jZ true (.arr 4 tU) (List.length (List.replicate 0 (ze (.arr 4 tU))) + List.length x0) then some (List.replicate 0 (ze (.arr 4 tU)) ++ x0,()) else none) else bif jZ true (.arr 4 tU) (List.length (List.replicate 0 (ze (.arr 4 tU))) + List.length x0) then some (List.replicate 0 (ze (.arr 4 tU)) ++ x0,()) else none
abbrev zq1:Fun:=⟨45,(ch [(.sl (.arr 4 tU))]),(ch [(.sl (.arr 4 tU))]),1,zki⟩
theorem zBe:Sq zq1:=mj0 (d:=false) (js:=[999998]) (K:=0) Tryz.func45 (by kernel_rfl) (funext fun (x0,())=>by kernel_rfl)
def zi4:((List zN) × Unit)→Option ((List zN) × Unit):=fun (x0,()) =>
 bif List.isEmpty x0 then zep (some ([],())) (bif jZ true zR (List.length (List.replicate 0 (ze zR)) + List.length x0) then some (List.replicate 0 (ze zR) ++ x0,()) else none) else bif jZ true zR (List.length (List.replicate 0 (ze zR)) + List.length x0) then some (List.replicate 0 (ze zR) ++ x0,()) else none
abbrev zoY:Fun:=⟨46,(ch [(.sl zR)]),(ch [(.sl zR)]),1,zi4⟩
theorem zzu:Sq zoY:=mj0 (d:=false) (js:=[999998]) (K:=0) Tryz.func46 (by kernel_rfl) (funext fun (x0,())=>by kernel_rfl)
def zc7:(zd × (pMe × Unit))→Option ((List zw) × Unit):=fun (x0,x1,()) =>
 inR x1.2.1 ((List.length x0.2.1):Int) (some ((ix zg x0.2.1 x1.2.1).2.2.2.1,()))
abbrev zsQ:Fun:=⟨54,(ch [zz,tMe]),(ch [(.sl zy)]),0,zc7⟩
theorem zDw:Sq zsQ:=ms0 (d:=false) (K:=0) Tryz.func54 (by kernel_rfl) (funext fun (x0,x1,())=>by kernel_rfl)
def qU:(zw × Unit)→Option (Bool × Unit):=fun (x0,()) =>
 bif x0.1 then some (true,()) else some (false,())
abbrev zsR:Fun:=⟨192,(ch [zy]),(ch [.bool]),0,qU⟩
theorem zDx:Sq zsR:=ms0 (d:=false) (K:=0) Tryz.func192 (by kernel_rfl) (funext fun (x0,())=>by kernel_rfl)
def y5:((Option yd) × Unit)→Option (Bool × Unit):=fun (x0,()) =>
 bif Option.isSome x0 then Option.bind x0 fun q0=>bif Option.isSome q0.2.1 then some (true,()) else some (false,()) else some (false,())
abbrev znf:Fun:=⟨194,(ch [(.ptr jT)]),(ch [.bool]),0,y5⟩
theorem zxH:Sq znf:=ms0 (d:=false) (K:=0) Tryz.func194 (by kernel_rfl) (funext fun (x0,())=>by kernel_rfl)
def zjX:(zw × ((Option (Option yd)) × Unit))→Option (Bool × Unit):=fun (x0,x1,()) =>
 Option.bind x1 fun q0=>Option.bind q0 fun q1=>Option.bind q1.2.1 fun q2=>Option.bind (q2 (x0,())) fun q3=>bif q3.1 then some (false,()) else some (true,())
abbrev zjY:Fun:=⟨283,(ch [zy,(.ptr (.ptr jT))]),(ch [.bool]),0,zjX⟩
theorem zsS:Sq zjY:=ms0 (d:=false) (K:=0) Tryz.func283 (by kernel_rfl) (funext fun (x0,x1,())=>by kernel_rfl)
def zq2:Unit→Option (za × Unit):=fun () =>
 some (([(0,0,()),(0,1,()),(1,1,())],[0,1,2],[(ByteArray.mk #[97,110,110],ByteArray.mk #[97],1,true,()),(ByteArray.mk #[98,111,98],ByteArray.mk #[98],0,false,())],[(0,0,())],[(2,2,2,2,2,1000,()),(2,2,2,2,2,1000,()),(2,2,2,2,2,1000,())],4,6,2,3,()),())
abbrev zq3:Fun:=⟨61,.unit,(ch [zm]),0,zq2⟩
theorem zBf:Sq zq3:=ms0 (d:=false) (K:=0) Tryz.func61 (by kernel_rfl) (funext fun ()=>by kernel_rfl)
def zgz:(za × (zbQ × Unit))→Option (zi × Unit):=fun (x0,x1,()) =>
 bif decide (0 ≤ x1.1) then bif decide (x1.1 ≤ x1.1) then bif decide (x1.1 ≤ (↑lim:Int)) then bif decide (0 ≤ x1.2.1) then bif decide (x1.2.1 ≤ x1.2.1) then bif decide (x1.2.1 ≤ (↑lim:Int)) then bif decide (0 ≤ x1.2.2.1) then bif decide (x1.2.2.1 ≤ x1.2.2.1) then bif decide (x1.2.2.1 ≤ (↑lim:Int)) then bif decide (0 ≤ x1.2.2.2.1) then bif decide (x1.2.2.2.1 ≤ x1.2.2.2.1) then bif decide (x1.2.2.2.1 ≤ (↑lim:Int)) then bif decide (0 ≤ x1.2.2.2.2.1) then bif decide (x1.2.2.2.2.1 ≤ x1.2.2.2.2.1) then bif decide (x1.2.2.2.2.1 ≤ (↑lim:Int)) then bif decide (((List.length x0.2.2.1):Int) ≤ ((List.length x0.2.2.1):Int)) then bif decide (((List.length x0.2.2.1):Int) ≤ (↑lim:Int)) then bif decide (((List.length x0.2.2.1):Int) ≤ ((List.length x0.2.2.1):Int)) then bif decide (((List.length x0.2.2.1):Int) ≤ (↑lim:Int)) then some ((List.replicate (Int.toNat x1.1) (ze qk),List.replicate (Int.toNat x1.2.1) (ze z3),List.replicate (Int.toNat x1.2.2.1) (ze zX),List.replicate (Int.toNat x1.2.2.2.1) (ze zy),List.replicate (Int.toNat x1.2.2.2.2.1) (ze zA),List.replicate (Int.toNat ((List.length x0.2.2.1):Int)) (ze (.arr 4 tU)),List.replicate (Int.toNat ((List.length x0.2.2.1):Int)) (ze zR),[0,0,0,0],[0,0,0,0],()),()) else none else none else none else none else none else none else none else none else none else none else none else none else none else none else none else none else none else none else none
abbrev zq4:Fun:=⟨115,(ch [zm,zcX]),(ch [zn]),3,zgz⟩
theorem zBg:Sq zq4:=ms0 (d:=true) (K:=0) Tryz.func115 (by kernel_rfl) (funext fun (x0,x1,())=>by kernel_rfl)
def zuQ:(Int × ((Option (List zw)) × ((Option Int) × Unit)))→Option (Bool × Unit):=fun (x0,x1,x2,()) =>
 Option.bind x1 fun q0=>inR x0 ((List.length q0):Int) (Option.bind x2 fun q1=>bif (ix zcL q0 x0).2.2.2.1 != q1 then some (true,()) else some (false,()))
abbrev zuR:Fun:=⟨103,(ch [tI,(.ptr (.sl zy)),(.ptr tI)]),(ch [.bool]),0,zuQ⟩
theorem zFr:Sq zuR:=ms0 (d:=false) (K:=0) Tryz.func103 (by kernel_rfl) (funext fun (x0,x1,x2,())=>by kernel_rfl)
def vc:(pMe × ((Option zd) × Unit))→Option (zN × Unit):=fun (x0,x1,()) =>
 Option.bind x1 fun q0=>inR x0.2.1 ((List.length q0.2.1):Int) (inR x0.2.2.1 ((List.length (ix zg q0.2.1 x0.2.1).2.2.2.2.2.2.1):Int) (some (List.getD (ix zg q0.2.1 x0.2.1).2.2.2.2.2.2.1 (Int.toNat x0.2.2.1) (ze zR),())))
abbrev zsT:Fun:=⟨68,(ch [tMe,(.ptr zz)]),(ch [zR]),0,vc⟩
theorem zDy:Sq zsT:=ms0 (d:=false) (K:=0) Tryz.func68 (by kernel_rfl) (funext fun (x0,x1,())=>by kernel_rfl)
def ze3:(pMe × ((Option (Option ((pMe × Unit)→Option (zN × Unit)))) × ((Option pMe) × Unit)))→Option (Bool × Unit):=fun (x0,x1,x2,()) =>
 Option.bind x1 fun q0=>Option.bind q0 fun q1=>Option.bind (q1 (x0,())) fun q2=>Option.bind x1 fun q3=>Option.bind x2 fun q4=>Option.bind q3 fun q5=>Option.bind (q5 (q4,())) fun q6=>bif eqI zR q2.1 q6.1 then some (true,()) else some (false,())
abbrev zsU:Fun:=⟨70,(ch [tMe,(.ptr (.fn (ch [tMe]) (ch [zR]))),(.ptr tMe)]),(ch [.bool]),0,ze3⟩
theorem zDz:Sq zsU:=ms0 (d:=false) (K:=0) Tryz.func70 (by kernel_rfl) (funext fun (x0,x1,x2,())=>by kernel_rfl)
def zc8:(za × (Int × Unit))→Option (Bool × Unit):=fun (x0,x1,()) =>
 bif decide (x1 ≥ 0) then bif decide (x1 < ((List.length x0.2.2.2.1):Int)) then some (true,()) else some (false,()) else some (false,())
abbrev zoZ:Fun:=⟨72,(ch [zm,tI]),(ch [.bool]),0,zc8⟩
theorem zzv:Sq zoZ:=ms0 (d:=false) (K:=0) Tryz.func72 (by kernel_rfl) (funext fun (x0,x1,())=>by kernel_rfl)
def zi5:(pMe × Unit)→Option (Bool × Unit):=fun (x0,()) =>
 some (true,())
abbrev zo0:Fun:=⟨75,(ch [tMe]),(ch [.bool]),0,zi5⟩
theorem zzw:Sq zo0:=ms0 (d:=false) (K:=0) Tryz.func75 (by kernel_rfl) (funext fun (x0,())=>by kernel_rfl)
abbrev zc9:Type:=(List Int) × (List Int) × Int
abbrev zzx:zc9→St:=fun (v0,v1,v5)=>St.mk [(0,.dat (.sl tI) v0),(1,.dat (.sl tI) v1),(5,.dat tI v5)] []
def zo1 (k0:zc9→Option (Bool × Unit)):zc9→Option (Bool × Unit):=fun (v0,v1,v5) =>
 bif decide (v5 < ((List.length v0):Int)) then inR v5 ((List.length v0):Int) (inR v5 ((List.length v1):Int) (bif ix (0:Int) v0 v5 != ix (0:Int) v1 v5 then some (false,()) else k0 (v0,v1,wI (v5 + 1)))) else some (true,())
abbrev zo2 (K:Nat):zc9→Option (Bool × Unit):=zl zo1 K
theorem zzy (K:Nat):∀ n,evV Es0 K Tryz.f16 0 (ch [.bool]) [1,1,0,1,0] [] zzx n = zl zo1 n:=zt fun n0 (v0,v1,v5)=>by kernel_rfl
def zlL (L0:zc9→Option (Bool × Unit)):((List Int) × ((List Int) × Unit))→Option (Bool × Unit):=fun (x0,x1,()) =>
 bif ((List.length x0):Int) != ((List.length x1):Int) then some (false,()) else L0 (x0,x1,0)
def zlM:((List Int) × (List Int) × Unit)→Option (Bool × Unit):=zlL (zo2 K0)
abbrev zsV:Fun:=⟨16,(ch [(.sl tI),(.sl tI)]),(ch [.bool]),0,zlM⟩
theorem zDA:Sq zsV:=ml0 (d:=false) (S:=fun K=>zlL (zo2 K)) Tryz.func16 (by kernel_rfl) (fun K=>tr1 (T:=zlL) (zzy K K) fun (x0,x1,())=>by kernel_rfl) rfl
def zjr:(za × (zd × Unit))→Option (Bool × Unit):=fun (x0,x1,()) =>
 bif ((List.length x1.2.1):Int) == ((List.length x0.1):Int) then bif ((List.length x1.2.2.1):Int) == ((List.length x0.2.2.2.1):Int) then bif ((List.length x1.2.2.2.2.2.1):Int) == ((List.length x0.2.1):Int) then some (true,()) else some (false,()) else some (false,()) else some (false,())
abbrev zuS:Fun:=⟨174,(ch [zm,zz]),(ch [.bool]),0,zjr⟩
theorem zFs:Sq zuS:=ms0 (d:=false) (K:=0) Tryz.func174 (by kernel_rfl) (funext fun (x0,x1,())=>by kernel_rfl)
def zgA:(Int × ((Option (Option ((Int × Unit)→Option (Bool × Unit)))) × ((Option za) × Unit)))→Option (Bool × Unit):=fun (x0,x1,x2,()) =>
 Option.bind x1 fun q0=>Option.bind x2 fun q1=>inR x0 ((List.length q1.2.1):Int) (Option.bind q0 fun q2=>Option.bind (q2 (ix (0:Int) q1.2.1 x0,())) fun q3=>bif q3.1 then some (true,()) else some (false,()))
abbrev zq5:Fun:=⟨177,(ch [tI,(.ptr (.fn (ch [tI]) (ch [.bool]))),(.ptr zm)]),(ch [.bool]),0,zgA⟩
theorem zBh:Sq zq5:=ms0 (d:=false) (K:=0) Tryz.func177 (by kernel_rfl) (funext fun (x0,x1,x2,())=>by kernel_rfl)
abbrev vA:Type:=(List zi) × (List zi) × (Option ((Int × Unit)→Option (Bool × Unit))) × Int × Int × List zi × Nat
abbrev zo3:vA→St:=fun (v0,v1,v2,v10,v11,o0,c0)=>St.mk [(0,.dat (.sl zn) v0),(1,.dat (.sl zn) v1),(2,.dat (.fn (.pair tI .unit) (.pair .bool .unit)) v2),(7,.ow 0),(10,.dat tI v10),(11,.dat tI v11)] [.drow zn o0 c0]
def vB (k0:vA→Option ((List zi) × Unit)):vA→Option ((List zi) × Unit):=fun (v0,v1,v2,v10,v11,o0,c0) =>
 bif decide (v11 < v10) then Option.bind v2 fun q0=>Option.bind (q0 (v11,())) fun q1=>bif q1.1 then inR v11 ((List.length v0):Int) (bif decide (List.length o0 + List.length (zf (List.replicate 1 (ze zn)) 0 (ix zg v0 v11)) ≤ lim) then k0 (v0,v1,v2,v10,wI (v11 + 1),o0 ++ zf (List.replicate 1 (ze zn)) 0 (ix zg v0 v11),c0) else none) else inR v11 ((List.length v1):Int) (bif decide (List.length o0 + List.length (zf (List.replicate 1 (ze zn)) 0 (ix zg v1 v11)) ≤ lim) then k0 (v0,v1,v2,v10,wI (v11 + 1),o0 ++ zf (List.replicate 1 (ze zn)) 0 (ix zg v1 v11),c0) else none) else some (o0,())
abbrev zhi (K:Nat):vA→Option ((List zi) × Unit):=zl vB K
theorem zo4 (K:Nat):∀ n,evV Es0 K Tryz.f178 0 (ch [(.sl zn)]) [1,1,0,1,0] [] zo3 n = zl vB n:=zt fun n0 (v0,v1,v2,v10,v11,o0,c0)=>by kernel_rfl
def zev (L0:vA→Option ((List zi) × Unit)):((List zi) × ((List zi) × ((Option ((Int × Unit)→Option (Bool × Unit))) × Unit)))→Option ((List zi) × Unit):=fun (x0,x1,x2,()) =>
 L0 (x0,x1,x2,((List.length x0):Int),0,[],0)
def zew:((List zi) × ((List zi) × ((Option ((Int × Unit)→Option (Bool × Unit))) × Unit)))→Option ((List zi) × Unit):=zev (zhi K0)
abbrev ziK:Fun:=⟨178,(ch [(.sl zn),(.sl zn),(.fn (ch [tI]) (ch [.bool]))]),(ch [(.sl zn)]),0,zew⟩
theorem zrS:Sq ziK:=ml0 (d:=false) (S:=fun K=>zev (zhi K)) Tryz.func178 (by kernel_rfl) (fun K=>tr1 (T:=zev) (zo4 K K) fun (x0,x1,x2,())=>by kernel_rfl) rfl
abbrev vS:Type:=(List (List Int)) × (List (List Int)) × (Option ((Int × Unit)→Option (Bool × Unit))) × Int × Int × List (List Int) × Nat
abbrev zqq:vS→St:=fun (v0,v1,v2,v10,v11,o0,c0)=>St.mk [(0,.dat (.sl (.sl tI)) v0),(1,.dat (.sl (.sl tI)) v1),(2,.dat (.fn (.pair tI .unit) (.pair .bool .unit)) v2),(7,.ow 0),(10,.dat tI v10),(11,.dat tI v11)] [.drow (.sl tI) o0 c0]
def vT (k0:vS→Option ((List (List Int)) × Unit)):vS→Option ((List (List Int)) × Unit):=fun (v0,v1,v2,v10,v11,o0,c0) =>
 bif decide (v11 < v10) then Option.bind v2 fun q0=>Option.bind (q0 (v11,())) fun q1=>bif q1.1 then inR v11 ((List.length v0):Int) (bif decide (List.length o0 + List.length (zf (List.replicate 1 ([]:List Int)) 0 (List.getD v0 (Int.toNat v11) ([]:List Int))) ≤ lim) then k0 (v0,v1,v2,v10,wI (v11 + 1),o0 ++ zf (List.replicate 1 ([]:List Int)) 0 (List.getD v0 (Int.toNat v11) ([]:List Int)),c0) else none) else inR v11 ((List.length v1):Int) (bif decide (List.length o0 + List.length (zf (List.replicate 1 ([]:List Int)) 0 (List.getD v1 (Int.toNat v11) ([]:List Int))) ≤ lim) then k0 (v0,v1,v2,v10,wI (v11 + 1),o0 ++ zf (List.replicate 1 ([]:List Int)) 0 (List.getD v1 (Int.toNat v11) ([]:List Int)),c0) else none) else some (o0,())
abbrev zhT (K:Nat):vS→Option ((List (List Int)) × Unit):=zl vT K
theorem zqr (K:Nat):∀ n,evV Es0 K Tryz.f179 0 (ch [(.sl (.sl tI))]) [1,1,0,1,0] [] zqq n = zl vT n:=zt fun n0 (v0,v1,v2,v10,v11,o0,c0)=>by kernel_rfl
def ze4 (L0:vS→Option ((List (List Int)) × Unit)):((List (List Int)) × ((List (List Int)) × ((Option ((Int × Unit)→Option (Bool × Unit))) × Unit)))→Option ((List (List Int)) × Unit):=fun (x0,x1,x2,()) =>
 L0 (x0,x1,x2,((List.length x0):Int),0,[],0)
def ze5:((List (List Int)) × ((List (List Int)) × ((Option ((Int × Unit)→Option (Bool × Unit))) × Unit)))→Option ((List (List Int)) × Unit):=ze4 (zhT K0)
abbrev zjZ:Fun:=⟨179,(ch [(.sl (.sl tI)),(.sl (.sl tI)),(.fn (ch [tI]) (ch [.bool]))]),(ch [(.sl (.sl tI))]),0,ze5⟩
theorem zsW:Sq zjZ:=ml0 (d:=false) (S:=fun K=>ze4 (zhT K)) Tryz.func179 (by kernel_rfl) (fun K=>tr1 (T:=ze4) (zqr K K) fun (x0,x1,x2,())=>by kernel_rfl) rfl
abbrev yo:Type:=(List Int) × (List Int) × (Option ((Int × Unit)→Option (Bool × Unit))) × Int × Int × List Int
abbrev zrT:yo→St:=fun (v0,v1,v2,v10,v11,o0)=>St.mk [(0,.dat (.sl tI) v0),(1,.dat (.sl tI) v1),(2,.dat (.fn (.pair tI .unit) (.pair .bool .unit)) v2),(7,.ow 0),(10,.dat tI v10),(11,.dat tI v11)] [.row tI o0 false]
def yp (k0:yo→Option ((List Int) × Unit)):yo→Option ((List Int) × Unit):=fun (v0,v1,v2,v10,v11,o0) =>
 bif decide (v11 < v10) then Option.bind v2 fun q0=>Option.bind (q0 (v11,())) fun q1=>bif q1.1 then inR v11 ((List.length v0):Int) (bif decide (List.length o0 + List.length (zf (List.replicate 1 (0:Int)) 0 (ix (0:Int) v0 v11)) ≤ lim) then k0 (v0,v1,v2,v10,wI (v11 + 1),o0 ++ zf (List.replicate 1 (0:Int)) 0 (ix (0:Int) v0 v11)) else none) else inR v11 ((List.length v1):Int) (bif decide (List.length o0 + List.length (zf (List.replicate 1 (0:Int)) 0 (ix (0:Int) v1 v11)) ≤ lim) then k0 (v0,v1,v2,v10,wI (v11 + 1),o0 ++ zf (List.replicate 1 (0:Int)) 0 (ix (0:Int) v1 v11)) else none) else some (o0,())
abbrev ziL (K:Nat):yo→Option ((List Int) × Unit):=zl yp K
theorem zrU (K:Nat):∀ n,evV Es0 K Tryz.f180 0 (ch [(.sl tI)]) [1,1,0,1,0] [] zrT n = zl yp n:=zt fun n0 (v0,v1,v2,v10,v11,o0)=>by kernel_rfl
def zfT (L0:yo→Option ((List Int) × Unit)):((List Int) × ((List Int) × ((Option ((Int × Unit)→Option (Bool × Unit))) × Unit)))→Option ((List Int) × Unit):=fun (x0,x1,x2,()) =>
 L0 (x0,x1,x2,((List.length x0):Int),0,[])
def zfU:((List Int) × ((List Int) × ((Option ((Int × Unit)→Option (Bool × Unit))) × Unit)))→Option ((List Int) × Unit):=zfT (ziL K0)
abbrev zkD:Fun:=⟨180,(ch [(.sl tI),(.sl tI),(.fn (ch [tI]) (ch [.bool]))]),(ch [(.sl tI)]),0,zfU⟩
theorem zue:Sq zkD:=ml0 (d:=false) (S:=fun K=>zfT (ziL K)) Tryz.func180 (by kernel_rfl) (fun K=>tr1 (T:=zfT) (zrU K K) fun (x0,x1,x2,())=>by kernel_rfl) rfl
abbrev vd:Type:=(List zi) × (Option ((zi × (zi × Unit))→Option (Bool × Unit))) × (List zi) × Int × Int
abbrev zoe:vd→St:=fun (v1,v2,v15,v16,v17)=>St.mk [(1,.dat (.sl zn) v1),(2,.dat (.fn (.pair zn (.pair zn .unit)) (.pair .bool .unit)) v2),(15,.dat (.sl zn) v15),(16,.dat tI v16),(17,.dat tI v17)] []
def ve (k0:vd→Option (Bool × Unit)):vd→Option (Bool × Unit):=fun (v1,v2,v15,v16,v17) =>
 bif decide (v17 < v16) then inR v17 ((List.length v15):Int) (inR v17 ((List.length v1):Int) (Option.bind v2 fun q0=>Option.bind (q0 (ix zg v15 v17,ix zg v1 v17,())) fun q1=>bif q1.1 then k0 (v1,v2,v15,v16,wI (v17 + 1)) else some (false,()))) else some (true,())
abbrev zgg (K:Nat):vd→Option (Bool × Unit):=zl ve K
theorem zof (K:Nat):∀ n,evV Es0 K Tryz.f181 0 (ch [.bool]) [1,1,0,1,0] [] zoe n = zl ve n:=zt fun n0 (v1,v2,v15,v16,v17)=>by kernel_rfl
def zdS (L0:vd→Option (Bool × Unit)):((List zi) × ((List zi) × ((Option ((zi × (zi × Unit))→Option (Bool × Unit))) × Unit)))→Option (Bool × Unit):=fun (x0,x1,x2,()) =>
 bif ((List.length x0):Int) != ((List.length x1):Int) then some (false,()) else L0 (x1,x2,x0,((List.length x0):Int),0)
def zdT:((List zi) × ((List zi) × ((Option ((zi × zi × Unit)→Option (Bool × Unit))) × Unit)))→Option (Bool × Unit):=zdS (zgg K0)
abbrev zhU:Fun:=⟨181,(ch [(.sl zn),(.sl zn),(.fn (ch [zn,zn]) (ch [.bool]))]),(ch [.bool]),0,zdT⟩
theorem zqs:Sq zhU:=ml0 (d:=false) (S:=fun K=>zdS (zgg K)) Tryz.func181 (by kernel_rfl) (fun K=>tr1 (T:=zdS) (zof K K) fun (x0,x1,x2,())=>by kernel_rfl) rfl
abbrev zak:Type:=(List qZ) × (List qZ) × Int × Int
abbrev zuf:zak→St:=fun (v0,v1,v12,v13)=>St.mk [(0,.dat (.sl qk) v0),(1,.dat (.sl qk) v1),(12,.dat tI v12),(13,.dat tI v13)] []
def zfV (k0:zak→Option (Bool × Unit)):zak→Option (Bool × Unit):=fun (v0,v1,v12,v13) =>
 bif decide (v13 < v12) then inR v13 ((List.length v0):Int) (inR v13 ((List.length v1):Int) (bif !eqI qk (ix ztV v0 v13) (ix ztV v1 v13) then some (false,()) else k0 (v0,v1,v12,wI (v13 + 1)))) else some (true,())
abbrev zkE (K:Nat):zak→Option (Bool × Unit):=zl zfV K
theorem zug (K:Nat):∀ n,evV Es0 K Tryz.f275 0 (ch [.bool]) [1,1,0,1,0] [] zuf n = zl zfV n:=zt fun n0 (v0,v1,v12,v13)=>by kernel_rfl
def zhV (L0:zak→Option (Bool × Unit)):((List qZ) × ((List qZ) × Unit))→Option (Bool × Unit):=fun (x0,x1,()) =>
 bif ((List.length x0):Int) != ((List.length x1):Int) then some (false,()) else L0 (x0,x1,((List.length x0):Int),0)
def zhW:((List qZ) × (List qZ) × Unit)→Option (Bool × Unit):=zhV (zkE K0)
abbrev zng:Fun:=⟨275,(ch [(.sl qk),(.sl qk)]),(ch [.bool]),0,zhW⟩
theorem zxI:Sq zng:=ml0 (d:=false) (S:=fun K=>zhV (zkE K)) Tryz.func275 (by kernel_rfl) (fun K=>tr1 (T:=zhV) (zug K K) fun (x0,x1,())=>by kernel_rfl) rfl
abbrev zal:Type:=(List qe) × (List qe) × Int × Int
abbrev zuh:zal→St:=fun (v0,v1,v12,v13)=>St.mk [(0,.dat (.sl z3) v0),(1,.dat (.sl z3) v1),(12,.dat tI v12),(13,.dat tI v13)] []
def zfW (k0:zal→Option (Bool × Unit)):zal→Option (Bool × Unit):=fun (v0,v1,v12,v13) =>
 bif decide (v13 < v12) then inR v13 ((List.length v0):Int) (inR v13 ((List.length v1):Int) (bif !eqI z3 (ix vN v0 v13) (ix vN v1 v13) then some (false,()) else k0 (v0,v1,v12,wI (v13 + 1)))) else some (true,())
abbrev zkF (K:Nat):zal→Option (Bool × Unit):=zl zfW K
theorem zui (K:Nat):∀ n,evV Es0 K Tryz.f276 0 (ch [.bool]) [1,1,0,1,0] [] zuh n = zl zfW n:=zt fun n0 (v0,v1,v12,v13)=>by kernel_rfl
def zhX (L0:zal→Option (Bool × Unit)):((List qe) × ((List qe) × Unit))→Option (Bool × Unit):=fun (x0,x1,()) =>
 bif ((List.length x0):Int) != ((List.length x1):Int) then some (false,()) else L0 (x0,x1,((List.length x0):Int),0)
def zhY:((List qe) × (List qe) × Unit)→Option (Bool × Unit):=zhX (zkF K0)
abbrev znh:Fun:=⟨276,(ch [(.sl z3),(.sl z3)]),(ch [.bool]),0,zhY⟩
theorem zxJ:Sq znh:=ml0 (d:=false) (S:=fun K=>zhX (zkF K)) Tryz.func276 (by kernel_rfl) (fun K=>tr1 (T:=zhX) (zui K K) fun (x0,x1,())=>by kernel_rfl) rfl
abbrev zam:Type:=(List qc) × (List qc) × Int × Int
abbrev zuj:zam→St:=fun (v0,v1,v12,v13)=>St.mk [(0,.dat (.sl zX) v0),(1,.dat (.sl zX) v1),(12,.dat tI v12),(13,.dat tI v13)] []
def zfX (k0:zam→Option (Bool × Unit)):zam→Option (Bool × Unit):=fun (v0,v1,v12,v13) =>
 bif decide (v13 < v12) then inR v13 ((List.length v0):Int) (inR v13 ((List.length v1):Int) (bif !eqI zX (ix zdD v0 v13) (ix zdD v1 v13) then some (false,()) else k0 (v0,v1,v12,wI (v13 + 1)))) else some (true,())
abbrev zkG (K:Nat):zam→Option (Bool × Unit):=zl zfX K
theorem zuk (K:Nat):∀ n,evV Es0 K Tryz.f277 0 (ch [.bool]) [1,1,0,1,0] [] zuj n = zl zfX n:=zt fun n0 (v0,v1,v12,v13)=>by kernel_rfl
def zhZ (L0:zam→Option (Bool × Unit)):((List qc) × ((List qc) × Unit))→Option (Bool × Unit):=fun (x0,x1,()) =>
 bif ((List.length x0):Int) != ((List.length x1):Int) then some (false,()) else L0 (x0,x1,((List.length x0):Int),0)
def zh0:((List qc) × (List qc) × Unit)→Option (Bool × Unit):=zhZ (zkG K0)
abbrev zni:Fun:=⟨277,(ch [(.sl zX),(.sl zX)]),(ch [.bool]),0,zh0⟩
theorem zxK:Sq zni:=ml0 (d:=false) (S:=fun K=>zhZ (zkG K)) Tryz.func277 (by kernel_rfl) (fun K=>tr1 (T:=zhZ) (zuk K K) fun (x0,x1,())=>by kernel_rfl) rfl
abbrev zan:Type:=(List zw) × (List zw) × Int × Int
abbrev zul:zan→St:=fun (v0,v1,v12,v13)=>St.mk [(0,.dat (.sl zy) v0),(1,.dat (.sl zy) v1),(12,.dat tI v12),(13,.dat tI v13)] []
def zfY (k0:zan→Option (Bool × Unit)):zan→Option (Bool × Unit):=fun (v0,v1,v12,v13) =>
 bif decide (v13 < v12) then inR v13 ((List.length v0):Int) (inR v13 ((List.length v1):Int) (bif !eqI zy (ix zcL v0 v13) (ix zcL v1 v13) then some (false,()) else k0 (v0,v1,v12,wI (v13 + 1)))) else some (true,())
abbrev zkH (K:Nat):zan→Option (Bool × Unit):=zl zfY K
theorem zum (K:Nat):∀ n,evV Es0 K Tryz.f278 0 (ch [.bool]) [1,1,0,1,0] [] zul n = zl zfY n:=zt fun n0 (v0,v1,v12,v13)=>by kernel_rfl
def zh1 (L0:zan→Option (Bool × Unit)):((List zw) × ((List zw) × Unit))→Option (Bool × Unit):=fun (x0,x1,()) =>
 bif ((List.length x0):Int) != ((List.length x1):Int) then some (false,()) else L0 (x0,x1,((List.length x0):Int),0)
def zh2:((List zw) × (List zw) × Unit)→Option (Bool × Unit):=zh1 (zkH K0)
abbrev znj:Fun:=⟨278,(ch [(.sl zy),(.sl zy)]),(ch [.bool]),0,zh2⟩
theorem zxL:Sq znj:=ml0 (d:=false) (S:=fun K=>zh1 (zkH K)) Tryz.func278 (by kernel_rfl) (fun K=>tr1 (T:=zh1) (zum K K) fun (x0,x1,())=>by kernel_rfl) rfl
abbrev yS:Type:=(List zv) × (List zv) × Int × Int
abbrev zsX:yS→St:=fun (v0,v1,v12,v13)=>St.mk [(0,.dat (.sl zA) v0),(1,.dat (.sl zA) v1),(12,.dat tI v12),(13,.dat tI v13)] []
def ze6 (k0:yS→Option (Bool × Unit)):yS→Option (Bool × Unit):=fun (v0,v1,v12,v13) =>
 bif decide (v13 < v12) then inR v13 ((List.length v0):Int) (inR v13 ((List.length v1):Int) (bif !eqI zA (ix qS v0 v13) (ix qS v1 v13) then some (false,()) else k0 (v0,v1,v12,wI (v13 + 1)))) else some (true,())
abbrev zj0 (K:Nat):yS→Option (Bool × Unit):=zl ze6 K
theorem zsY (K:Nat):∀ n,evV Es0 K Tryz.f279 0 (ch [.bool]) [1,1,0,1,0] [] zsX n = zl ze6 n:=zt fun n0 (v0,v1,v12,v13)=>by kernel_rfl
def zgR (L0:yS→Option (Bool × Unit)):((List zv) × ((List zv) × Unit))→Option (Bool × Unit):=fun (x0,x1,()) =>
 bif ((List.length x0):Int) != ((List.length x1):Int) then some (false,()) else L0 (x0,x1,((List.length x0):Int),0)
def zgS:((List zv) × (List zv) × Unit)→Option (Bool × Unit):=zgR (zj0 K0)
abbrev zlN:Fun:=⟨279,(ch [(.sl zA),(.sl zA)]),(ch [.bool]),0,zgS⟩
theorem zvQ:Sq zlN:=ml0 (d:=false) (S:=fun K=>zgR (zj0 K)) Tryz.func279 (by kernel_rfl) (fun K=>tr1 (T:=zgR) (zsY K K) fun (x0,x1,())=>by kernel_rfl) rfl
abbrev zbX:Type:=(List (List Int)) × (List (List Int)) × Int × Int
abbrev zxM:zbX→St:=fun (v0,v1,v12,v13)=>St.mk [(0,.dat (.sl (.arr 4 tU)) v0),(1,.dat (.sl (.arr 4 tU)) v1),(12,.dat tI v12),(13,.dat tI v13)] []
def zh3 (k0:zbX→Option (Bool × Unit)):zbX→Option (Bool × Unit):=fun (v0,v1,v12,v13) =>
 bif decide (v13 < v12) then inR v13 ((List.length v0):Int) (inR v13 ((List.length v1):Int) (bif !eqI (.arr 4 tU) (List.getD v0 (Int.toNat v13) (ze (.arr 4 tU))) (List.getD v1 (Int.toNat v13) (ze (.arr 4 tU))) then some (false,()) else k0 (v0,v1,v12,wI (v13 + 1)))) else some (true,())
abbrev znk (K:Nat):zbX→Option (Bool × Unit):=zl zh3 K
theorem zxN (K:Nat):∀ n,evV Es0 K Tryz.f280 0 (ch [.bool]) [1,1,0,1,0] [] zxM n = zl zh3 n:=zt fun n0 (v0,v1,v12,v13)=>by kernel_rfl
def zkj (L0:zbX→Option (Bool × Unit)):((List (List Int)) × ((List (List Int)) × Unit))→Option (Bool × Unit):=fun (x0,x1,()) =>
 bif ((List.length x0):Int) != ((List.length x1):Int) then some (false,()) else L0 (x0,x1,((List.length x0):Int),0)
def zkk:((List (List Int)) × (List (List Int)) × Unit)→Option (Bool × Unit):=zkj (znk K0)
abbrev zq6:Fun:=⟨280,(ch [(.sl (.arr 4 tU)),(.sl (.arr 4 tU))]),(ch [.bool]),0,zkk⟩
theorem zBi:Sq zq6:=ml0 (d:=false) (S:=fun K=>zkj (znk K)) Tryz.func280 (by kernel_rfl) (fun K=>tr1 (T:=zkj) (zxN K K) fun (x0,x1,())=>by kernel_rfl) rfl
abbrev za6:Type:=(List zN) × (List zN) × Int × Int
abbrev zvR:za6→St:=fun (v0,v1,v12,v13)=>St.mk [(0,.dat (.sl jc) v0),(1,.dat (.sl jc) v1),(12,.dat tI v12),(13,.dat tI v13)] []
def zgT (k0:za6→Option (Bool × Unit)):za6→Option (Bool × Unit):=fun (v0,v1,v12,v13) =>
 bif decide (v13 < v12) then inR v13 ((List.length v0):Int) (inR v13 ((List.length v1):Int) (bif !eqI jc (ix zJ v0 v13) (ix zJ v1 v13) then some (false,()) else k0 (v0,v1,v12,wI (v13 + 1)))) else some (true,())
abbrev zlO (K:Nat):za6→Option (Bool × Unit):=zl zgT K
theorem zvS (K:Nat):∀ n,evV Es0 K Tryz.f281 0 (ch [.bool]) [1,1,0,1,0] [] zvR n = zl zgT n:=zt fun n0 (v0,v1,v12,v13)=>by kernel_rfl
def zi6 (L0:za6→Option (Bool × Unit)):((List zN) × ((List zN) × Unit))→Option (Bool × Unit):=fun (x0,x1,()) =>
 bif ((List.length x0):Int) != ((List.length x1):Int) then some (false,()) else L0 (x0,x1,((List.length x0):Int),0)
def zi7:((List j3) × (List j3) × Unit)→Option (Bool × Unit):=zi6 (zlO K0)
abbrev zo5:Fun:=⟨281,(ch [(.sl zR),(.sl zR)]),(ch [.bool]),0,zi7⟩
theorem zzz:Sq zo5:=ml0 (d:=false) (S:=fun K=>zi6 (zlO K)) Tryz.func281 (by kernel_rfl) (fun K=>tr1 (T:=zi6) (zvS K K) fun (x0,x1,())=>by kernel_rfl) rfl
abbrev vC:Type:=(List (List Int)) × (Option (((List Int) × ((List Int) × Unit))→Option (Bool × Unit))) × (List (List Int)) × Int × Int
abbrev zo6:vC→St:=fun (v1,v2,v15,v16,v17)=>St.mk [(1,.dat (.sl (.sl tI)) v1),(2,.dat (.fn (.pair (.sl tI) (.pair (.sl tI) .unit)) (.pair .bool .unit)) v2),(15,.dat (.sl (.sl tI)) v15),(16,.dat tI v16),(17,.dat tI v17)] []
def vD (k0:vC→Option (Bool × Unit)):vC→Option (Bool × Unit):=fun (v1,v2,v15,v16,v17) =>
 bif decide (v17 < v16) then inR v17 ((List.length v15):Int) (inR v17 ((List.length v1):Int) (Option.bind v2 fun q0=>Option.bind (q0 (List.getD v15 (Int.toNat v17) ([]:List Int),List.getD v1 (Int.toNat v17) ([]:List Int),())) fun q1=>bif q1.1 then k0 (v1,v2,v15,v16,wI (v17 + 1)) else some (false,()))) else some (true,())
abbrev zhj (K:Nat):vC→Option (Bool × Unit):=zl vD K
theorem zo7 (K:Nat):∀ n,evV Es0 K Tryz.f183 0 (ch [.bool]) [1,1,0,1,0] [] zo6 n = zl vD n:=zt fun n0 (v1,v2,v15,v16,v17)=>by kernel_rfl
def zex (L0:vC→Option (Bool × Unit)):((List (List Int)) × ((List (List Int)) × ((Option (((List Int) × ((List Int) × Unit))→Option (Bool × Unit))) × Unit)))→Option (Bool × Unit):=fun (x0,x1,x2,()) =>
 bif ((List.length x0):Int) != ((List.length x1):Int) then some (false,()) else L0 (x1,x2,x0,((List.length x0):Int),0)
def zey:((List (List Int)) × ((List (List Int)) × ((Option (((List Int) × (List Int) × Unit)→Option (Bool × Unit))) × Unit)))→Option (Bool × Unit):=zex (zhj K0)
abbrev ziM:Fun:=⟨183,(ch [(.sl (.sl tI)),(.sl (.sl tI)),(.fn (ch [(.sl tI),(.sl tI)]) (ch [.bool]))]),(ch [.bool]),0,zey⟩
theorem zrV:Sq ziM:=ml0 (d:=false) (S:=fun K=>zex (zhj K)) Tryz.func183 (by kernel_rfl) (fun K=>tr1 (T:=zex) (zo7 K K) fun (x0,x1,x2,())=>by kernel_rfl) rfl
abbrev za7:Type:=(List Int) × (List Int) × Int × Int
abbrev zvT:za7→St:=fun (v0,v1,v12,v13)=>St.mk [(0,.dat (.sl tI) v0),(1,.dat (.sl tI) v1),(12,.dat tI v12),(13,.dat tI v13)] []
def zgU (k0:za7→Option (Bool × Unit)):za7→Option (Bool × Unit):=fun (v0,v1,v12,v13) =>
 bif decide (v13 < v12) then inR v13 ((List.length v0):Int) (inR v13 ((List.length v1):Int) (bif ix (0:Int) v0 v13 != ix (0:Int) v1 v13 then some (false,()) else k0 (v0,v1,v12,wI (v13 + 1)))) else some (true,())
abbrev zlP (K:Nat):za7→Option (Bool × Unit):=zl zgU K
theorem zvU (K:Nat):∀ n,evV Es0 K Tryz.f184 0 (ch [.bool]) [1,1,0,1,0] [] zvT n = zl zgU n:=zt fun n0 (v0,v1,v12,v13)=>by kernel_rfl
def zi8 (L0:za7→Option (Bool × Unit)):((List Int) × ((List Int) × Unit))→Option (Bool × Unit):=fun (x0,x1,()) =>
 bif ((List.length x0):Int) != ((List.length x1):Int) then some (false,()) else L0 (x0,x1,((List.length x0):Int),0)
def zaP:((List Int) × (List Int) × Unit)→Option (Bool × Unit):=zi8 (zlP K0)
abbrev zo8:Fun:=⟨184,(ch [(.sl tI),(.sl tI)]),(ch [.bool]),0,zaP⟩
theorem zzA:Sq zo8:=ml0 (d:=false) (S:=fun K=>zi8 (zlP K)) Tryz.func184 (by kernel_rfl) (fun K=>tr1 (T:=zi8) (zvU K K) fun (x0,x1,())=>by kernel_rfl) rfl
abbrev yT:Type:=(List zq) × (List zq) × Int × Int
abbrev zsZ:yT→St:=fun (v0,v1,v12,v13)=>St.mk [(0,.dat (.sl zo) v0),(1,.dat (.sl zo) v1),(12,.dat tI v12),(13,.dat tI v13)] []
def ze7 (k0:yT→Option (Bool × Unit)):yT→Option (Bool × Unit):=fun (v0,v1,v12,v13) =>
 bif decide (v13 < v12) then inR v13 ((List.length v0):Int) (inR v13 ((List.length v1):Int) (bif !eqI zo (ix qs v0 v13) (ix qs v1 v13) then some (false,()) else k0 (v0,v1,v12,wI (v13 + 1)))) else some (true,())
abbrev zj1 (K:Nat):yT→Option (Bool × Unit):=zl ze7 K
theorem zs0 (K:Nat):∀ n,evV Es0 K Tryz.f185 0 (ch [.bool]) [1,1,0,1,0] [] zsZ n = zl ze7 n:=zt fun n0 (v0,v1,v12,v13)=>by kernel_rfl
def zgV (L0:yT→Option (Bool × Unit)):((List zq) × ((List zq) × Unit))→Option (Bool × Unit):=fun (x0,x1,()) =>
 bif ((List.length x0):Int) != ((List.length x1):Int) then some (false,()) else L0 (x0,x1,((List.length x0):Int),0)
def zgW:((List zq) × (List zq) × Unit)→Option (Bool × Unit):=zgV (zj1 K0)
abbrev zlQ:Fun:=⟨185,(ch [(.sl zo),(.sl zo)]),(ch [.bool]),0,zgW⟩
theorem zvV:Sq zlQ:=ml0 (d:=false) (S:=fun K=>zgV (zj1 K)) Tryz.func185 (by kernel_rfl) (fun K=>tr1 (T:=zgV) (zs0 K K) fun (x0,x1,())=>by kernel_rfl) rfl
abbrev yU:Type:=(List zG) × (List zG) × Int × Int
abbrev zs1:yU→St:=fun (v0,v1,v12,v13)=>St.mk [(0,.dat (.sl zx) v0),(1,.dat (.sl zx) v1),(12,.dat tI v12),(13,.dat tI v13)] []
def ze8 (k0:yU→Option (Bool × Unit)):yU→Option (Bool × Unit):=fun (v0,v1,v12,v13) =>
 bif decide (v13 < v12) then inR v13 ((List.length v0):Int) (inR v13 ((List.length v1):Int) (bif !eqI zx (ix zhz v0 v13) (ix zhz v1 v13) then some (false,()) else k0 (v0,v1,v12,wI (v13 + 1)))) else some (true,())
abbrev zj2 (K:Nat):yU→Option (Bool × Unit):=zl ze8 K
theorem zs2 (K:Nat):∀ n,evV Es0 K Tryz.f186 0 (ch [.bool]) [1,1,0,1,0] [] zs1 n = zl ze8 n:=zt fun n0 (v0,v1,v12,v13)=>by kernel_rfl
def zgX (L0:yU→Option (Bool × Unit)):((List zG) × ((List zG) × Unit))→Option (Bool × Unit):=fun (x0,x1,()) =>
 bif ((List.length x0):Int) != ((List.length x1):Int) then some (false,()) else L0 (x0,x1,((List.length x0):Int),0)
def zgY:((List zG) × (List zG) × Unit)→Option (Bool × Unit):=zgX (zj2 K0)
abbrev zlR:Fun:=⟨186,(ch [(.sl zx),(.sl zx)]),(ch [.bool]),0,zgY⟩
theorem zvW:Sq zlR:=ml0 (d:=false) (S:=fun K=>zgX (zj2 K)) Tryz.func186 (by kernel_rfl) (fun K=>tr1 (T:=zgX) (zs2 K K) fun (x0,x1,())=>by kernel_rfl) rfl
abbrev L1:List Fun:=zqW :: zoB :: zhA :: zm2 :: zjO :: zsx :: zjP :: zsy :: zsz :: ziA :: zsA :: zf9 :: zkz :: zsB :: zsC :: zlz :: zlA :: zm3 :: ziC :: zhF :: ziD :: zsF :: zsG :: zoI :: ziE :: ziF :: zxt :: zxu :: ziG :: zAL :: zsH :: zfL :: zgb :: zhI :: zxv :: zsI :: zsJ :: zoP :: zkA :: zAM :: zxw :: zqX :: zqY :: zm4 :: ziH :: zhJ :: ziI :: zhK :: zkB :: zuO :: zm5 :: zjT :: zm6 :: zjU :: zkC :: zjV :: zjW :: ziJ :: zlD :: zm7 :: zlE :: zlF :: zsO :: zlG :: zqZ :: zuP :: zq0 :: zoQ :: zoR :: zsP :: zAN :: zhO :: zlH :: zDv :: zoS :: zoT :: zm9 :: zoV :: zoX :: zlJ :: zna :: zlK :: znb :: znc :: znd :: zne :: zq1 :: zoY :: zsQ :: zsR :: znf :: zjY :: zq3 :: zq4 :: zuR :: zsT :: zsU :: zoZ :: zo0 :: zsV :: zuS :: zq5 :: ziK :: zjZ :: zkD :: zhU :: zng :: znh :: zni :: znj :: zlN :: zq6 :: zo5 :: ziM :: zo8 :: zlQ :: zlR :: L0
theorem h1:Sds Tryz.prog E0 L1:=⟨zA9,zzh,zqf,zxr,zsw,zDi,zjQ,zDj,zDk,zrH,zDl,zn2,zua,zDm,zDn,zvF,zvG,zxs,zrK,zqi,zrL,zDo,zDp,zzm,zrM,zrN,zHi,zHj,zrO,zI0,zDq,zmB,zn5,zqk,zHk,zDr,zDs,zzn,zub,zI1,zHl,zBa,zBb,zxx,zrP,zql,zrQ,zqm,zuc,zFp,zxy,zsK,zxz,zsL,zud,zsM,zsN,zrR,zvH,zxA,zvI,zvJ,zDt,zvK,zBc,zFq,zBd,zzo,zzp,zDu,zI2,zqp,zvL,zDh,zzq,zzr,zxB,zzs,zzt,zvO,zxC,zvP,zxD,zxE,zxF,zxG,zBe,zzu,zDw,zDx,zxH,zsS,zBf,zBg,zFr,zDy,zDz,zzv,zzw,zDA,zFs,zBh,zrS,zsW,zue,zqs,zxI,zxJ,zxK,zxL,zvQ,zBi,zzz,zrV,zzA,zvV,zvW,h0⟩
theorem ms1 {d:Bool} {F:Fun} {f:Go.Func} {K:Nat} (hf:Tryz.prog.funcs[F.id]? = some f) (ho:jz f = true) (h:evF (En E0 d L1) K f F.md F.a F.r = F.spec):Sd Tryz.prog E0 F:=mkS h1 hf ho h
theorem ml1 {d:Bool} {F:Fun} {f:Go.Func} {S:Nat→F.a.I→Option F.r.I} (hf:Tryz.prog.funcs[F.id]? = some f) (ho:jz f = true) (h:∀ K,evF (En E0 d L1) K f F.md F.a F.r = S K) (e:S K0 = F.spec):Sd Tryz.prog E0 F:=mkS h1 hf ho ((h K0).trans e)
abbrev Es1:Env:=En E0 false L1
abbrev Ed1:Env:=En E0 true L1
def zdU:(zr × Unit)→Option (Bool × Unit):=fun (x0,()) =>
 Option.bind (vj (x0,())) fun q0=>bif q0.1 then some (false,()) else some (true,())
abbrev zlS:Fun:=⟨299,(ch [zp]),(ch [.bool]),0,zdU⟩
theorem zvX:Sq zlS:=ms1 (d:=false) (K:=0) Tryz.func299 (by kernel_rfl) (funext fun (x0,())=>by kernel_rfl)
end
end Go.Proofs.YtkcakhbkoeimdaaGreatDoor
end
