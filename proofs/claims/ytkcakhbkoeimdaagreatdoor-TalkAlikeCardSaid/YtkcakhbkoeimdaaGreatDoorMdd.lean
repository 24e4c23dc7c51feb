import Derived.Test.YtkcakhbkoeimdaaGreatDoorMdc
import Derived.Carry
import Derived.OpenShut
import Derived.Lib.SliceRun
import Derived.Test.YtkcakhbkoeimdaaGreatDoorProg
import Derived.RangeFuncBox
import Derived.RangeFuncLeaves
import Derived.Shelf.Abstract
import Derived.WalkKit
import Derived.OwnWalkIn
import Derived.TacticsInMore
import Derived.LoopNIn
import Derived.LoopIn
import Derived.Maps.AppendAt
import Derived.Laws.Bits64b
import Derived.Lib.TrailingZeros
import Derived.Deep.LoopGhost
import Derived.Deep.Draws
import Derived.Lib.Walk
set_option linter.unusedSimpArgs false
set_option linter.unusedVariables false
section
namespace Go.Ev
open Go.RowKit
section
variable {P:Program} {nt:Up} {F0 F G:FH} {w0 w:World} {st st':St} {m:MM} {a:Act} {E:Env} {v:AV} {u:Value}
def zox (ids:Nat→Option Nat) (h:List Obj):(b:Ty)→Nat→b.I→List AV→Prop
 | .pair (.sl σ) b,i,x,v :: vs=>(∃ id,v = .ow id ∧ ids i = some id ∧ atN h id = some (mkO σ (bif σ.deep then some (List.length x.1) else none) x.1)) ∧ zox ids h b (i + 1) x.2 vs
 | .pair a b,i,x,v :: vs=>v = .dat a x.1 ∧ zox ids h b (i + 1) x.2 vs
 | .unit,_,_,[]=>True
 | _,_,_,_=>False
theorem zox.ids {ids ids':Nat→Option Nat} {h:List Obj}:∀ {b:Ty} {i:Nat} {x:b.I} {vs:List AV},(∀ f,i ≤ f→ids' f = ids f)→zox ids h b i x vs→zox ids' h b i x vs:=by
 intro b
 induction b with
 | unit=>intro i x vs _ ho; cases vs <;> exact ho
 | pair t b _ ihb =>
  intro i x vs hi ho
  cases vs with
  | nil=>cases t <;> exact ho.elim
  | cons v vs =>
   cases t with
   | sl σ =>
    obtain ⟨⟨id,h1,h2,h3⟩,h4⟩:=ho
    exact ⟨⟨id,h1,by rw [hi i (Nat.le_refl _)]; exact h2,h3⟩,ihb (fun f hf=>hi f (by omega)) h4⟩
   | _=>exact ⟨ho.1,ihb (fun f hf=>hi f (by omega)) ho.2⟩
 | _=>intro i x vs _ ho; cases vs <;> exact ho.elim
theorem zox.heap {ids:Nat→Option Nat} {h h':List Obj}:∀ {b:Ty} {i:Nat} {x:b.I} {vs:List AV},(∀ f id,ids f = some id→atN h' id = atN h id)→zox ids h b i x vs→zox ids h' b i x vs:=by
 intro b
 induction b with
 | unit=>intro i x vs _ ho; cases vs <;> exact ho
 | pair t b _ ihb =>
  intro i x vs hi ho
  cases vs with
  | nil=>cases t <;> exact ho.elim
  | cons v vs =>
   cases t with
   | sl σ =>
    obtain ⟨⟨id,h1,h2,h3⟩,h4⟩:=ho
    exact ⟨⟨id,h1,h2,by rw [hi _ _ h2]; exact h3⟩,ihb hi h4⟩
   | _=>exact ⟨ho.1,ihb hi ho.2⟩
 | _=>intro i x vs _ ho; cases vs <;> exact ho.elim
theorem zJP {h h0 h1:List Obj} (hdr:∀ i τ xs k,atN h i = some (.drow τ xs k)→τ.deep = true) {t:Ty} {x:t.I} (hz:zvZ h0 t v = some (x,h1)) (l:zaa h0 h) :
 (v = .dat t x ∧ t.dl = false ∧ h1 = h0) ∨ ∃ (σ:Ty) (xs:List σ.I) (id:Nat),(⟨t,x⟩:(τ:Ty) × τ.I) = ⟨.sl σ,xs⟩ ∧ v = .ow id ∧ atN h id = some (mkO σ (bif σ.deep then some (List.length xs) else none) xs) ∧ atN h0 id ≠ some .gone ∧ (∃ o,atN h0 id = some o) ∧ h1 = zf h0 id .gone:=by
 cases v with
 | dat τ y =>
  simp only [zvZ] at hz
  obtain ⟨hdl,hz⟩:=qs hz
  split at hz
  ·rename_i z hc
   cases hz
   obtain ⟨rfl,rfl⟩:=zP hc
   exact .inl ⟨rfl,hdl,rfl⟩
  ·cases hz
 | ow id =>
  simp only [zvZ] at hz
  right
  split at hz
  ·rename_i τ xs ho
   obtain ⟨hd,hz⟩:=qs hz
   split at hz
   ·rename_i z hc
    cases hz
    obtain ⟨e,rfl⟩:=zP hc
    subst e
    refine ⟨τ,xs,id,rfl,rfl,?_,(by rw [ho]; intro e; cases e),⟨_,ho⟩,rfl⟩
    rw [l.at ho (by intro e; cases e),hd]
    rfl
   ·cases hz
  ·rename_i τ xs n ho
   split at hz
   ·rename_i z hc
    obtain ⟨hn,hz⟩:=zb hz
    cases hz
    obtain ⟨e,rfl⟩:=zP hc
    subst e
    have hat:=l.at ho (by intro e; cases e)
    refine ⟨τ,xs,id,rfl,rfl,?_,(by rw [ho]; intro e; cases e),⟨_,ho⟩,rfl⟩
    rw [hat,hdr _ _ _ _ hat,of_decide_eq_true hn]
    rfl
   ·cases hz
  ·cases hz
 | _=>cases hz
theorem zBu {h:List Obj} (hdr:∀ i τ xs k,atN h i = some (.drow τ xs k)→τ.deep = true):∀ {b:Ty} {vs:List AV} {x:b.I} {h0 h1:List Obj} (i:Nat),ownC b vs h0 = some (x,h1)→zaa h0 h →
 ∃ ids:Nat→Option Nat,zox ids h b i x vs ∧ zaa h1 h ∧ (∀ f id,ids f = some id→i ≤ f ∧ atN h0 id ≠ some .gone ∧ atN h1 id = some .gone ∧ ∃ σ k xs,atN h id = some (mkO σ k xs)) ∧ (∀ j,atN h0 j = some .gone→atN h1 j = some .gone) ∧
  ∀ f f' id,ids f = some id→ids f' = some id→f = f':=by
 intro b
 induction b with
 | unit =>
  intro vs x h0 h1 i hz l
  cases vs with
  | nil=>cases hz; exact ⟨fun _=>none,trivial,l,fun f id e=>(by cases e),fun _ h=>h,fun f f' id e=>(by cases e)⟩
  | cons _ _=>cases hz
 | pair t b _ ihb =>
  intro vs x h0 h1 i hz l
  cases vs with
  | nil=>cases hz
  | cons v vs =>
   simp only [ownC] at hz
   split at hz
   ·rename_i y h2 hy
    split at hz
    ·rename_i ys h3 hys
     cases hz
     rcases zJP hdr hy l with ⟨rfl,hdl,rfl⟩ | ⟨σ,xs,id,e,rfl,hat,hng,⟨o,ho⟩,rfl⟩
     ·obtain ⟨ids,g1,g2,g3,g4,g5⟩:=ihb (i + 1) hys l
      refine ⟨ids,?_,g2,fun f id hf=>⟨by have:=(g3 f id hf).1; omega,(g3 f id hf).2⟩,g4,g5⟩
      cases t with
      | sl σ=>cases hdl
      | _=>exact ⟨rfl,g1⟩
     ·cases e
      obtain ⟨ids,g1,g2,g3,g4,g5⟩:=ihb (i + 1) hys (l.gone ho)
      have hid:atN (zf h0 id .gone) id = some .gone:=vw ho
      have hids:∀ f,i + 1 ≤ f→(if f = i then some id else ids f) = ids f:=fun f hf=>by rw [if_neg (by omega)]
      refine ⟨fun f=>if f = i then some id else ids f,⟨⟨id,rfl,if_pos rfl,hat⟩,g1.ids hids⟩,g2,fun f id' hf=>?_,fun j hj=>?_,fun f f' id' hf hf'=>?_⟩
      ·by_cases e:f = i
       ·simp only [e,if_true,Option.some.injEq] at hf
        subst hf
        exact ⟨by omega,hng,g4 _ hid,σ,_,_,hat⟩
       ·simp only [e,if_false] at hf
        obtain ⟨k1,k2,k3,k4⟩:=g3 f id' hf
        refine ⟨by omega,fun hg=>k2 ?_,k3,k4⟩
        by_cases e2:id = id'
        ·rw [← e2]; exact hid
        ·rw [qp e2]; exact hg
      ·refine g4 j ?_
       by_cases e2:id = j
       ·rw [← e2]; exact hid
       ·rw [qp e2]; exact hj
      ·by_cases e:f = i <;> by_cases e':f' = i
       ·omega
       ·simp only [e,if_true,Option.some.injEq] at hf
        simp only [e',if_false] at hf'
        subst hf
        exact absurd hid (g3 f' _ hf').2.1
       ·simp only [e,if_false] at hf
        simp only [e',if_true,Option.some.injEq] at hf'
        subst hf'
        exact absurd hid (g3 f _ hf).2.1
       ·simp only [e,if_false] at hf
        simp only [e',if_false] at hf'
        exact g5 f f' id' hf hf'
    ·cases hz
   ·cases hz
 | _=>intro vs x h0 h1 i hz l; cases vs <;> cases hz
def MM.ofI (m:MM) (ids:Nat→Option Nat):Nat→Nat→List Nat→Option (Nat × Nat):=fun f=>match ids f with | some id=>m.d id | none=>fun _ _=>none
theorem MM.ofI_some {m:MM} {ids:Nat→Option Nat} {f j:Nat} {p:List Nat} {b:Nat × Nat} (h:m.ofI ids f j p = some b):∃ id,ids f = some id ∧ m.d id j p = some b:=by
 unfold MM.ofI at h
 cases hi:ids f with
 | none=>rw [hi] at h; cases h
 | some id=>rw [hi] at h; exact ⟨id,rfl,h⟩
theorem zHi (h:Rel P nt F0 w0 st m F a w) {ids:Nat→Option Nat}:∀ {b:Ty} {i:Nat} {x:b.I} {vs:List AV} {cs:List Value},zox ids st.h b i x vs→zX P st.h m F b vs cs→zhV P F w (fun f=>(ids f).bind m) (m.ofI ids) b i x cs:=by
 intro b
 induction b with
 | unit =>
  intro i x vs cs ho hv
  cases vs with
  | nil=>exact hv
  | cons _ _=>exact hv.elim
 | pair t b _ ihb =>
  intro i x vs cs ho hv
  cases vs with
  | nil=>exact hv.elim
  | cons v vs =>
   obtain ⟨c,d,rfl,h1,h2⟩:=hv
   cases t with
   | sl σ =>
    obtain ⟨⟨id,rfl,hi,hat⟩,h4⟩:=ho
    obtain ⟨σ',u,e1,rfl,hs,_⟩:=h1
    cases e1
    refine ⟨u,d,rfl,⟨fun j p bk n hp=>?_,?_⟩,ihb h4 h2⟩
    ·obtain ⟨id',hi',hp⟩:=MM.ofI_some hp
     rw [hi] at hi'; cases hi'
     obtain ⟨⟨o,g1,g2⟩,_⟩:=h.dok _ _ _ _ _ hp
     rw [hat] at g1
     cases g1
     cases hd:σ.deep with
     | false=>rw [hd] at g2; cases g2
     | true =>
      rw [hd] at g2
      simp only [cond_true,mkO,Obj.deepAt,decide_eq_true_eq] at g2
      exact ⟨rfl,g2⟩
    ·have hq:=zF.owAt hat (zo6 _ _ _) hs
     show match (ids i).bind m with | some (b,n)=>_ | none=>_
     rw [hi,Option.bind_some]
     cases hmi:m id with
     | none =>
      rw [hmi] at hq
      exact ⟨zDA (h.obs _ _ hat) hmi,hq.2⟩
     | some bn =>
      obtain ⟨bk,n⟩:=bn
      rw [hmi] at hq
      obtain ⟨cap,g1,g2,g3⟩:=hq
      refine ⟨cap,g1,g2,g3,?_⟩
      have:=zqG (h.obs _ _ hat) hmi
      have hd:m.ofI ids i = m.d id:=by unfold MM.ofI; rw [hi]
      rw [hd]
      exact this
   | _ =>
    obtain ⟨rfl,h4⟩:=ho
    exact ⟨c,d,rfl,h1.2,ihb h4 h2⟩
 | _=>intro i x vs cs ho; cases vs <;> exact ho.elim
theorem zHj (h:Rel P nt F0 w0 st m F a w) {ids:Nat→Option Nat} (hat:∀ f id,ids f = some id→∃ σ k xs,atN st.h id = some (mkO σ k xs)) (hinj:∀ f f' id,ids f = some id→ids f' = some id→f = f'):zDm F w w0.heap.size (fun f=>(ids f).bind m) (m.ofI ids):=by
 refine ⟨fun f b n hf=>?_,fun f j p b n hp=>?_,fun f f' b n n' hf hf'=>?_,fun f j p b n f' j' p' n' hp hp'=>?_,fun f b n f' j p n' hf hp=>?_⟩
 ·obtain ⟨id,hi,hf⟩:=Option.bind_eq_some_iff.1 hf
  obtain ⟨σ,k,xs,ho⟩:=hat f id hi
  obtain ⟨el,cs,c,d,_,_,_,hF,_⟩:=zqG (h.obs _ _ ho) hf
  have:=h.rng _ _ _ hf
  exact ⟨this.2.1,this.2.2,hF⟩
 ·obtain ⟨id,hi,hp⟩:=MM.ofI_some hp
  have:=h.dok _ _ _ _ _ hp
  exact ⟨this.2.1,this.2.2.1,this.2.2.2.1⟩
 ·obtain ⟨id,hi,hf⟩:=Option.bind_eq_some_iff.1 hf
  obtain ⟨id',hi',hf'⟩:=Option.bind_eq_some_iff.1 hf'
  have:=h.inj _ _ _ _ _ hf hf'
  subst this
  exact hinj _ _ _ hi hi'
 ·obtain ⟨id,hi,hp⟩:=MM.ofI_some hp
  obtain ⟨id',hi',hp'⟩:=MM.ofI_some hp'
  obtain ⟨rfl,e2,e3⟩:=h.din _ _ _ _ _ _ _ _ _ hp hp'
  exact ⟨hinj _ _ _ hi hi',e2,e3⟩
 ·obtain ⟨id,hi,hf⟩:=Option.bind_eq_some_iff.1 hf
  obtain ⟨id',hi',hp⟩:=MM.ofI_some hp
  exact (h.dok _ _ _ _ _ hp).2.2.2.2 _ _ hf
theorem zKV {ρ:Type} {h:List Obj} {σ:Ty} {v:AV} {k:σ.I→List Obj→Option ρ}:zHx h σ v k = (zvZ h σ v).bind fun p=>k p.1 p.2:=by
 unfold zHx zvZ
 cases v with
 | dat τ x =>
  simp only
  cases τ.dl with
  | true=>rfl
  | false=>simp only [cond_false]; cases qK τ σ x <;> rfl
 | ow id =>
  simp only
  cases atN h id with
  | none=>rfl
  | some o =>
   cases o with
   | row τ xs f =>
    cases f with
    | true=>rfl
    | false =>
     simp only
     cases τ.deep with
     | true=>rfl
     | false=>simp only [cond_false]; cases qK (.sl τ) σ xs <;> rfl
   | drow τ xs n =>
    simp only
    cases qK (.sl τ) σ xs with
    | none=>rfl
    | some x=>simp only; cases decide (n = List.length xs) <;> rfl
   | _=>rfl
 | _=>rfl
theorem zDT {ρ:Type}:∀ {σ:Ty} {vs:List AV} {h:List Obj} {k:σ.I→List Obj→Option ρ},zxr σ vs h k = (ownC σ vs h).bind fun p=>k p.1 p.2:=by
 intro σ
 induction σ with
 | unit=>intro vs h k; cases vs <;> rfl
 | pair a b _ ihb =>
  intro vs h k
  cases vs with
  | nil=>rfl
  | cons v vs =>
   simp only [zxr,ownC,zKV,ihb]
   cases zvZ h a v with
   | none=>rfl
   | some p =>
    obtain ⟨x,h1⟩:=p
    simp only [Option.bind_some]
    cases ownC b vs h1 <;> rfl
 | _=>intro vs h k; cases vs <;> rfl
theorem zJQ {md:Nat} {r:Ty} {y:r.I} {vs:List AV} {us:List Value} (h:Rel P nt F0 w0 st m F a w) (hv:jx P st.h m F vs us) (hz:zHy md r vs st = some y) :
 ∃ F',F0.grow F' w0.heap.size ∧ F'.ok w ∧ zjs P F' w w0.heap.size md r y us:=by
 unfold zHy at hz
 split at hz
 ·
  rename_i b c v vs
  split at hz
  ·rename_i x h1 hx
   split at hz
   ·rename_i p hp
    cases hz
    obtain ⟨u,r,rfl,hv1,hv2⟩:=hv
    obtain ⟨id,k,rfl,hat,rfl,hkr⟩:∃ id k,v = .ow id ∧ atN st.h id = some (mkO b k x) ∧ h1 = zf st.h id .gone ∧ (k = none ∨ k = some 0):=by
     unfold zJd at hx
     split at hx
     ·rename_i id
      split at hx
      ·rename_i τ xs ho
       split at hx
       ·rename_i z hc
        cases hx
        obtain ⟨e,rfl⟩:=zP hc
        cases e
        exact ⟨id,none,rfl,ho,rfl,.inl rfl⟩
       ·cases hx
      ·rename_i τ xs n ho
       split at hx
       ·rename_i z hc
        obtain ⟨hn,hx⟩:=zb hx
        cases hx
        obtain ⟨e,rfl⟩:=zP hc
        cases e
        have hn:n = 0:=of_decide_eq_true hn
        subst hn
        exact ⟨id,some 0,rfl,ho,rfl,.inr rfl⟩
       ·cases hx
      ·cases hx
     ·cases hx
    obtain ⟨st2fr,st2h⟩:=st
    have l:zaa (zf st2h id .gone) st2h:=(zaa.refl st2h).gone hat
    obtain ⟨h',e1,e2,e3⟩:=zow l (show jF false c vs ⟨st2fr,zf st2h id .gone⟩ = some (p.1,p.2) from hp)
    obtain ⟨m',F',g1,g2,g3⟩:=zeH e1 h hv2
    have hat':atN h' id = some (mkO b k x):=by rw [(e3.2 id (vw hat)).2]; exact hat
    have hq:=zF.owAt hat' (zo6 _ _ _) (show zF P h' m' F' (.ow id) u from hv1.ext g3)
    refine ⟨F',g1.gro,g1.fok,?_⟩
    simp only [zjs]
    refine ⟨u,r,rfl,g2,?_⟩
    cases hmi:m' id with
    | none =>
     rw [hmi] at hq
     exact .inr ⟨zDA (g1.obs _ _ hat') hmi,hq.2⟩
    | some bn =>
     obtain ⟨bk,n⟩:=bn
     rw [hmi] at hq
     obtain ⟨cap,k1,k2,k3⟩:=hq
     obtain ⟨el,cs,cc,d,f1,f2,f3,f4,f5⟩:=zqG (g1.obs _ _ hat') hmi
     refine .inl ⟨bk,cap,el,cs,cc,d,k3,k2,(g1.rng _ _ _ hmi).2.1,f1,f4,by rw [f2,k1],f3,?_⟩
     rcases hkr with rfl | rfl
     ·exact f5
     ·exact z5.toL (fun j x c _ _ hx=>by unfold DE at hx; rw [if_neg (by omega)] at hx; exact hx) (show z5 (DE P F' w (m'.d id) b 0) 0 x cc from f5)
   ·cases hz
  ·cases hz
 ·
  rename_i b c c' vs us'
  obtain ⟨hbc,hz⟩:=zb hz
  simp only [decide_eq_true_eq] at hbc
  rw [zDT] at hz
  obtain ⟨⟨x,h1⟩,hx,hz⟩:=Option.bind_eq_some_iff.1 hz
  ·split at hz
   ·rename_i p hp
    cases hz
    obtain ⟨u,r,rfl,hv1,hv2⟩:=hv
    obtain ⟨cs,rfl,hfs⟩:=(show zE P st.h m F (.fld c' vs) u from hv1)
    subst hbc
    obtain ⟨ids,k1,k2,k3,k4,k5⟩:=zBu (fun i τ xs k ho=>(h.drowk ho).2) 0 hx (zaa.refl _)
    obtain ⟨st2fr,st2h⟩:=st
    obtain ⟨h',e1,e2,e3⟩:=zow k2 (show jF false c us' ⟨st2fr,h1⟩ = some (p.1,p.2) from hp)
    obtain ⟨m',F',g1,g2,g3⟩:=zeH e1 h hv2
    have hkeep:∀ f id,ids f = some id→atN h' id = atN st2h id:=fun f id hf=>(e3.2 id (k3 f id hf).2.2.1).2
    refine ⟨F',g1.gro,g1.fok,?_⟩
    simp only [zjs]
    refine ⟨.agg cs,r,cs,_,_,rfl,g2,rfl,zHi g1 (k1.heap hkeep) (hfs.ext g3),zHj g1 (fun f id hf=>?_) k5⟩
    obtain ⟨σ,k,xs,ho⟩:=(k3 f id hf).2.2.2
    exact ⟨σ,k,xs,by rw [hkeep f id hf]; exact ho⟩
   ·cases hz
 ·
  rename_i b c v us'
  rw [zDT] at hz
  obtain ⟨⟨x,h1⟩,hx,hz⟩:=Option.bind_eq_some_iff.1 hz
  ·split at hz
   ·rename_i p hp
    cases hz
    obtain ⟨u,r,rfl,hv1,hv2⟩:=hv
    obtain ⟨ids,k1,k2,k3,k4,k5⟩:=zBu (fun i τ xs k ho=>(h.drowk ho).2) 0 hx (zaa.refl _)
    obtain ⟨⟨id,rfl,hi0,hat0⟩,_⟩:=(show (∃ id,v = .ow id ∧ ids 0 = some id ∧ atN st.h id = some (mkO b _ x.1)) ∧ _ from k1)
    have hT:zbg st.h id = some b:=by rw [zul hat0,zo6]; rfl
    have hfs:zX P st.h m F (.pair (.sl b) .unit) [.ow id] [u]:=⟨[u],[],rfl,vR.ofRow hT (show zF P st.h m F (.ow id) u from hv1),rfl⟩
    obtain ⟨st2fr,st2h⟩:=st
    obtain ⟨h',e1,e2,e3⟩:=zow k2 (show jF false c us' ⟨st2fr,h1⟩ = some (p.1,p.2) from hp)
    obtain ⟨m',F',g1,g2,g3⟩:=zeH e1 h hv2
    have hkeep:∀ f id,ids f = some id→atN h' id = atN st2h id:=fun f id hf=>(e3.2 id (k3 f id hf).2.2.1).2
    refine ⟨F',g1.gro,g1.fok,?_⟩
    simp only [zjs]
    refine ⟨u,r,_,_,rfl,g2,zHi g1 (k1.heap hkeep) (hfs.ext g3),zHj g1 (fun f id hf=>?_) k5⟩
    obtain ⟨σ,k,xs,ho⟩:=(k3 f id hf).2.2.2
    exact ⟨σ,k,xs,by rw [hkeep f id hf]; exact ho⟩
   ·cases hz
 ·
  split at hz
  ·rename_i p hp
   cases hz
   obtain ⟨m',F',g1,g2,_⟩:=zeH (x:=p.1) (st':=p.2) hp h hv
   exact ⟨F',g1.gro,g1.fok,g2⟩
  ·cases hz
 ·cases hz
theorem zJR (hm:P.follows .mixedOrders = true) (hE:EnvOk P G E) {fi:FuncId} {f:Func} (hf:P.funcs[fi]? = some f) {K md:Nat} {a r:Ty} {x:a.I} {y:r.I} (he:evF E K f md a r x = some y)
 {F0:FH} {w:World} {vs:List Value} (hG:G.le F0) (hk:F0.ok w) (hr:RepA P F0 a x vs) :
 Calls P fi vs.toArray w fun e w'=>∃ us F',e = .returned (zqs us) ∧ Below w.heap.size w w' ∧ F0.grow F' w.heap.size ∧ F'.ok w' ∧ zjs P F' w' w.heap.size md r y us:=by
 unfold evF at he
 cases hb:f.body with
 | none=>rw [hb] at he; cases he
 | some c =>
  rw [hb] at he
  simp only at he
  have hE':EnvOk P G { E with nt:=f.ntmps }:=⟨hE.types,hE.funs,hE.glob,hE.ext,hE.hnd⟩
  refine calls_of_wp hf hb ?_
  refine zHh (nt:=⟨f.ntmps,[],F0⟩) (F0:=F0) (w0:=w) (.inr rfl) hm hE' hG rfl c (r:=y) ?_ ⟨_,F0,Rel.enter hk hr f.ntmps⟩ he
  rintro e st a' w' ⟨m,F,h⟩ hfin
  have hdone:(cond ((f.results.toList.map (zc7 { E with nt:=f.ntmps } st)).all Option.isSome) (zHy md r ((f.results.toList.map (zc7 { E with nt:=f.ntmps } st)).filterMap id) st) none) = some y →
   a'.defers = [] ∧ ∃ v,(results f a'.tmps).run P w' = .ok v w' ∧ ∃ us F',Ending.returned v = .returned (zqs us) ∧ Below w.heap.size w w' ∧ F0.grow F' w.heap.size ∧ F'.ok w' ∧ zjs P F' w' w.heap.size md r y us:=by
   intro hfin
   obtain ⟨h1,h2⟩:=zb hfin
   obtain ⟨us,h3,h4⟩:=zvo hE' h (zkT h1)
   obtain ⟨F',g1,g2,g3⟩:=zJQ h h4 h2
   exact ⟨h.dfr,_,h3,us,F',rfl,h.bel,g1,g2,g3⟩
  cases e with
  | normal=>exact hdone hfin
  | ret=>exact hdone hfin
  | exit id=>cases hfin
theorem jx.one {h:List Obj}:∀ {vs:List AV} {us:List Value},jx P h m F vs us→vs.all AV.one = true→zj0 P h m F vs us
 | [],_,e,_=>e
 | v :: vs,_,⟨u,r,e,h1,h2⟩,ho=>by
  simp only [List.all_cons,Bool.and_eq_true] at ho
  rw [zh.eq1 (by rintro ws rfl; cases ho.1)] at h1
  exact ⟨u,r,e,h1,jx.one h2 ho.2⟩
theorem zx1:∀ {vs:List AV} {us:List Value} {h:List Obj} {m:MM} {F:FH} {i t:Nat} {v:AV},look (slots vs i) t = some v→jx P h m F vs us→i ≤ t ∧ ∃ u,us[t - i]? = some u ∧ zh P h m F v u
 | [],_,_,_,_,_,_,_,h,_=>by simp [slots,look] at h
 | x :: vs,_,hp,m,F,i,t,v,h,⟨u,r,rfl,h1,h2⟩=>by
  simp only [slots] at h
  by_cases e:i = t
  ·subst e
   simp only [look,beq_self,cond_true,Option.some.injEq] at h
   subst h
   exact ⟨Nat.le_refl _,u,by simp,h1⟩
  ·simp only [look,zbi e,cond_false] at h
   obtain ⟨g1,u',g2,g3⟩:=zx1 h h2
   refine ⟨by omega,u',?_,g3⟩
   rw [show t - i = (t - (i + 1)) + 1 by omega,List.getElem?_cons_succ]
   exact g2
theorem zLQ (hm:P.follows .mixedOrders = true) (hE:EnvOk P G E) {fi:FuncId} {f:Func} (hf:P.funcs[fi]? = some f) (hn:(f.name == "runtime.NumGoroutine") = false) (hb':f.body.isNone = false):zDr P G fi (zMu E f):=by
 refine ⟨⟨f,hf,hn,hb'⟩,fun args h h' v he nt F0 w0 fr m F a w vs hG hr hv=>?_⟩
 change zqM E f (AV × List Obj) args h (fun v h=>some (v,h)) = some (v,h') at he
 unfold zqM at he
 cases hb:f.body with
 | none=>rw [hb] at he; cases he
 | some c =>
  rw [hb] at he
  simp only at he
  have hE':EnvOk P G (inE E f):=⟨hE.types,hE.funs,hE.glob,hE.ext,hE.hnd⟩
  refine calls_of_wp hf hb ?_
  let up:List (AV × Value):=fr.filterMap (fun p=>(look fr p.1).map fun v=>(v,a.tmps.getD p.1 undef)) ++ nt.up
  have hup:∀ v u,(v,u) ∈ up→zh P h m F v u:=by
   intro v u hv
   rcases List.mem_append.1 hv with hv | hv
   ·obtain ⟨p,hp,e⟩:=List.mem_filterMap.1 hv
    obtain ⟨v',h1,h2⟩:=Option.map_eq_some_iff.1 e
    cases h2
    exact hr.fr _ _ h1
   ·exact hr.up v u hv
  have hst:Rel P ⟨f.ntmps,up,F⟩ F0 w0 ⟨slots args 0,h⟩ m F { tmps:=vs.toArray ++ Array.replicate (f.ntmps - vs.toArray.size) undef,defers:=[] } w:=by
   refine ⟨by simp; omega,fun t v ht=>?_,hup,.refl F,hr.obs,hr.inj,hr.rng,hr.dok,hr.din,hr.fok,hr.gro,hr.bel,rfl⟩
   obtain ⟨_,u,h2,h3⟩:=zx1 ht hv
   rw [Nat.sub_zero] at h2
   have hlt:=(List.getElem?_eq_some_iff.1 h2).1
   have:(vs.toArray ++ Array.replicate (f.ntmps - vs.toArray.size) undef).getD t undef = u:=by
    rw [Array.getD_eq_getD_getElem?,Array.getElem?_append_left (by simpa using hlt)]
    simp [h2]
   rw [this]
   exact h3
  refine zHh (nt:=⟨f.ntmps,up,F⟩) (F0:=F0) (w0:=w0) (.inl rfl) hm hE' hG rfl c (r:=(v,h')) ?_ ⟨m,F,hst⟩ he
  rintro e st a' w' ⟨m',F',h2⟩ hfin
  have hdone:(cond ((f.results.toList.map (zc7 (inE E f) st)).all Option.isSome && ((f.results.toList.map (zc7 (inE E f) st)).filterMap id).all AV.one) (some (unT ((f.results.toList.map (zc7 (inE E f) st)).filterMap id),st.h)) none) = some (v,h') →
   a'.defers = [] ∧ ∃ v1,(results f a'.tmps).run P w' = .ok v1 w' ∧ ∃ u m' F',Ending.returned v1 = .returned u ∧ F.le F' ∧ Rel P nt F0 w0 ⟨fr,h'⟩ m' F' a w' ∧ zh P h' m' F' v u:=by
   intro hfin
   obtain ⟨g1,g2⟩:=zb hfin
   rw [Bool.and_eq_true] at g1
   cases g2
   obtain ⟨us,g3,g4⟩:=zvo hE' h2 (zkT g1.1)
   refine ⟨h2.dfr,_,g3,_,m',F',rfl,h2.lo,⟨hr.nt,fun t v ht=>?_,fun v u hv=>h2.up v u (List.mem_append.2 (.inr hv)),hr.lo.trans h2.lo,h2.obs,h2.inj,h2.rng,h2.dok,h2.din,h2.fok,h2.gro,h2.bel,hr.dfr⟩,zdh (jx.one g4 g1.2)⟩
   have hmem:∀ (l:List (Nat × AV)),look l t = some v→∃ p ∈ l,p.1 = t:=by
    intro l
    induction l with
    | nil=>intro h; simp [look] at h
    | cons p l ih =>
     intro h
     obtain ⟨k,y⟩:=p
     simp only [look] at h
     cases hb:Nat.beq k t with
     | true=>exact ⟨(k,y),by simp,Nat.eq_of_beq_eq_true hb⟩
     | false=>rw [hb] at h; obtain ⟨p,hp,e⟩:=ih h; exact ⟨p,by simp [hp],e⟩
   obtain ⟨p,hp,rfl⟩:=hmem fr ht
   exact h2.up v _ (List.mem_append.2 (.inl (List.mem_filterMap.2 ⟨p,hp,by rw [ht]; rfl⟩)))
  cases e with
  | normal=>exact hdone hfin
  | ret=>exact hdone hfin
  | exit id=>cases hfin
end
end Go.Ev
end
section
namespace Go.Ev
open Go.RowKit Go.ChangeShapes
def InR:(τ:Ty)→τ.I→Prop
 | .int k,n=>(Lit.int k n).wf = true
 | .str,s=>ByteArray.size s ≤ maxLen
 | .pair a b,x=>InR a x.1 ∧ InR b x.2
 | .st a,x=>InR a x
 | .arr n a,xs=>List.length xs = n ∧ ∀ x ∈ (show List a.I from xs),InR a x
 | .sl a,xs=>List.length xs ≤ maxLen ∧ ∀ x ∈ (show List a.I from xs),InR a x
 | _,_=>True
def Ty.data:Ty→Bool
 | .bool | .int _ | .str | .unit=>true
 | .pair a b=>a.data && b.data
 | .st a=>a.data
 | .arr _ a=>a.data
 | .sl a=>a.data
 | _=>false
mutual
def dbk {H:Type}:DataW H→Nat
 | .slice elems _=>zfh elems + 1
 | .agg parts=>zfh parts + 1
 | _=>1
def zfh {H:Type}:List (DataW H)→Nat
 | []=>0
 | d :: r=>dbk d + zfh r
end
def bkI:(τ:Ty)→τ.I→Nat
 | .unit,_=>0
 | .pair a b,x=>bkI a x.1 + bkI b x.2
 | .st a,x=>bkI a x + 1
 | .arr _ a,xs=>(List.map (bkI a) xs).sum + 1
 | .sl a,xs=>(List.map (bkI a) xs).sum + 1
 | _,_=>1
def WtR:(τ:Ty)→τ.I→Prop
 | .str,s=>ByteArray.size s ≤ reachBytes
 | .pair a b,x=>WtR a x.1 ∧ WtR b x.2
 | .st a,x=>WtR a x
 | .arr _ a,xs=>∀ x ∈ (show List a.I from xs),WtR a x
 | .sl a,xs=>List.length xs * a.bts ≤ reachBytes ∧ ∀ x ∈ (show List a.I from xs),WtR a x
 | _,_=>True
theorem zwe {P:Program} {H:Type} {e:TypeId} {n:Nat} {d:DataW H}:∀ {l:List (DataW H)},d ∈ l→n ∈ DataW.weights P e d→n ∈ DataW.weightsAll P e l
 | x :: l,h,hn=>by
  simp only [DataW.weightsAll,List.mem_append]
  rcases List.mem_cons.1 h with rfl | h
  ·exact .inl hn
  ·exact .inr (zwe h hn)
theorem zDU {α β:Type} {f:α→Option β}:∀ (l:List α) (ys:List β),l.mapM f = some ys→ys.length = l.length
 | [],ys,h=>by
  have:ys = []:=by simpa using h.symm
  subst this; rfl
 | x :: l,ys,h=>by
  rw [List.mapM_cons] at h
  simp only [Option.bind_eq_bind,Option.bind_eq_some_iff,Option.pure_def,Option.some.injEq] at h
  obtain ⟨y,_,ys',h2,rfl⟩:=h
  simp [zDU l ys' h2]
theorem zuv {H:Type} (d:DataW H):1 ≤ dbk d:=by cases d <;> simp [dbk]
section
variable {P:Program} {H:Type} {enc:TypeId × Value→H} {w:World} {base:Nat} {sp:Nat→Bool} {held:Bool}
theorem zDV {a:Addr} {j:Nat} {v:Value} (h:w.cell? (a.add j) = some v) (h0:a.spot = none ∨ j = 0):a.spot = none ∧ ∃ c el fz,w.heap[a.block]? = some (.cells c el fz) ∧ c[a.off + j]? = some v:=by
  have hs:a.spot = none:=by
    rcases h0 with h0 | rfl
    · exact h0
    · have:a.add 0 = a:=by unfold Addr.add; rfl
      rw [this] at h
      unfold World.cell? at h
      split at h
      · cases hsp:a.spot with
        | none=>rfl
        | some x=>rw [hsp] at h; simp at h
      · cases h
  refine ⟨hs,?_⟩
  rw [zqw hs] at h
  unfold World.cell? at h
  simp only at h
  split at h
  · rename_i c el fz hk
    exact ⟨c,el,fz,hk,by simpa using h⟩
  · cases h
theorem zDW {a:Addr} {n:Nat} {cs:List Value} (h:w.cells? base a n = some cs) (hn:0 < n):∃ c,FH.of w a.block = some c ∧ a.spot = none ∧ ∀ (j:Nat) (v:Value),cs[j]? = some v→c[a.off + j]? = some v:=by
  obtain ⟨hb,hl,hc⟩:=World.cells?_some h
  have h0:=hc 0 hn
  rw [List.getElem?_eq_getElem (by omega)] at h0
  obtain ⟨hs,c,el,fz,hk,_⟩:=zDV h0 (.inr rfl)
  refine ⟨c,by simp [FH.of,hk],hs,fun j v hv=>?_⟩
  have hj:=(List.getElem?_eq_some_iff.1 hv).1
  have:=hc j (by omega)
  rw [hv] at this
  obtain ⟨_,c',_,_,hk',h2⟩:=zDV this (.inl hs)
  rw [hk] at hk'
  cases hk'
  exact h2
theorem zHk {ad:Addr} {n:Nat} (hn:0 < n) {c:Array Value} (hs:ad.spot = none) (hc:FH.of w ad.block = some c):∀ (m i0:Nat) (css:List (List Value)),((List.range' i0 m).mapM fun i=>w.cells? base (ad.add (i * n)) n) = some css →
    ∀ (j:Nat) (v:Value),css.flatten[j]? = some v→c[ad.off + i0 * n + j]? = some v
  | 0,i0,css,h,j,v,hj=>by simp at h; subst h; simp at hj
  | m + 1,i0,css,h,j,v,hj=>by
    rw [List.range'_succ,List.mapM_cons] at h
    simp only [Option.bind_eq_bind,Option.bind_eq_some_iff,Option.pure_def,Option.some.injEq] at h
    obtain ⟨cs,h1,css',h2,rfl⟩:=h
    have hl:=(World.cells?_some h1).2.1
    obtain ⟨c',h3,_,h5⟩:=zDW h1 hn
    rw [zqw hs] at h3 h5
    simp only at h3 h5
    rw [hc] at h3
    cases h3
    rw [List.flatten_cons] at hj
    by_cases hjn:j < n
    · rw [List.getElem?_append_left (by omega)] at hj
      exact h5 j v hj
    · rw [List.getElem?_append_right (by omega),hl] at hj
      have:=zHk hn hs hc m (i0 + 1) css' h2 (j - n) v hj
      rw [show ad.off + i0 * n + j = ad.off + (i0 + 1) * n + (j - n) by rw [Nat.add_mul]; omega]
      exact this
theorem zwf {α:Type} {R:α→List Value→Prop} {f:Nat→Option (List Value)} {g:List Value→Option (DataW H × List MemPlace)} {I:α→Prop} {bk:α→Nat} {Wd:DataW H→Prop} {J:α→Prop} (hg:∀ cs y,g cs = some y→∃ x,R x cs ∧ I x ∧ bk x ≤ dbk y.1 ∧ (Wd y.1→J x)) :
    ∀ (l:List Nat) (ys:List (DataW H × List MemPlace)),(l.mapM fun i=>(f i).bind g) = some ys→∃ (xs:List α) (css:List (List Value)),xs.length = l.length ∧ l.mapM f = some css ∧ RepL R xs css.flatten ∧ (∀ x ∈ xs,I x) ∧ (xs.map bk).sum ≤ zfh (ys.map (·.1)) ∧ ((∀ d ∈ ys.map (·.1),Wd d)→∀ x ∈ xs,J x)
  | [],ys,h=>⟨[],[],rfl,rfl,rfl,by simp,Nat.zero_le _,fun _ x hx=>by cases hx⟩
  | i :: l,ys,h=>by
    rw [List.mapM_cons] at h
    simp only [Option.bind_eq_bind,Option.bind_eq_some_iff,Option.pure_def,Option.some.injEq] at h
    obtain ⟨y,⟨cs,hcs,hy⟩,ys',h2,rfl⟩:=h
    obtain ⟨x,hx,hI,hk,hJ⟩:=hg cs y hy
    obtain ⟨xs,css,h3,h4,h5,h6,h7,h8⟩:=zwf hg l ys' h2
    refine ⟨x :: xs,cs :: css,by simp [h3],?_,⟨cs,css.flatten,rfl,hx,h5⟩,?_,by simp only [List.map_cons,List.sum_cons,zfh]; omega,?_⟩
    · rw [List.mapM_cons,hcs,h4]; rfl
    · intro z hz
      rcases List.mem_cons.1 hz with rfl | hz
      · exact hI
      · exact h6 z hz
    · intro hw z hz
      rcases List.mem_cons.1 hz with rfl | hz
      · exact hJ (hw _ (by simp))
      · exact h8 (fun d hd=>hw d (by rw [List.map_cons]; exact List.mem_cons_of_mem _ hd)) z hz
theorem zpa {cs:List Value} {n:Nat}:∀ (m i0:Nat) (css:List (List Value)),(i0 + m) * n ≤ cs.length→((List.range' i0 m).mapM fun i=>some ((cs.drop (i * n)).take n)) = some css→css.flatten = (cs.drop (i0 * n)).take (m * n)
  | 0,i0,css,_,h=>by simp at h; subst h; simp
  | m + 1,i0,css,hl,h=>by
    rw [List.range'_succ,List.mapM_cons] at h
    simp only [Option.bind_eq_bind,Option.bind_some,Option.bind_eq_some_iff,Option.pure_def,Option.some.injEq] at h
    obtain ⟨css',h2,rfl⟩:=h
    have:=zpa m (i0 + 1) css' (by rw [show i0 + 1 + m = i0 + (m + 1) by omega]; exact hl) h2
    rw [List.flatten_cons,this,Nat.add_mul i0 1 n,Nat.one_mul,← List.drop_drop,show (m + 1) * n = n + m * n by rw [Nat.add_mul]; omega,List.take_add]
theorem zKW:∀ (τ:Ty),τ.data = true →
    (∀ (fuel:Nat) (t:TypeId) (cs:List Value) (x:DataW H × List MemPlace),τ.np = true→zY P t τ→DataW.trod enc P w base sp held fuel t cs = some x→∃ y,Rep P (FH.of w) τ y cs ∧ InR τ y ∧ bkI τ y ≤ dbk x.1 ∧ ((∀ n ∈ DataW.weights P t x.1,n ≤ reachBytes)→WtR τ y)) ∧
    (∀ (fuel:Nat) (fs:List Field) (off:Nat) (cs:List Value) (xs:List (DataW H × List MemPlace)),(tyB P τ).2 fs off = true→(fs.mapM fun f=>DataW.trod enc P w base sp held fuel f.type ((cs.drop f.offset).take (P.cellsOf f.type))) = some xs→cs.length = off + nc τ→∃ y,Rep P (FH.of w) τ y (cs.drop off) ∧ InR τ y ∧ bkI τ y ≤ zfh (xs.map (·.1)) ∧ ((∀ n ∈ DataW.weightsEach P (fs.map (·.type)) (xs.map (·.1)),n ≤ reachBytes)→WtR τ y)):=by
  intro τ
  induction τ with
  | unit =>
    intro _
    refine ⟨fun fuel t cs x _ h=>(by cases h),fun fuel fs off cs xs h _ hl=>⟨(),?_,trivial,Nat.zero_le _,fun _=>trivial⟩⟩
    show cs.drop off = []
    rw [List.drop_eq_nil_iff]
    simp only [nc] at hl
    omega
  | bool =>
    intro _
    refine ⟨fun fuel t cs x _ h hx=>?_,fun fuel fs off cs xs h=>(by cases h)⟩
    have hu:P.underlying t = some .bool:=by
      simp only [zY,tyB,Bool.and_eq_true] at h
      have:=h.2
      split at this
      · assumption
      · cases this
    cases fuel with
    | zero=>simp [DataW.trod] at hx
    | succ fuel =>
      unfold DataW.trod at hx
      rw [hu] at hx
      split at hx <;> first | (cases hx; done) | skip
      all_goals first | exact ⟨_,rfl,trivial,zuv _,fun _=>trivial⟩ | (rename_i hh; simp at hh)
  | int k =>
    intro _
    refine ⟨fun fuel t cs x _ h hx=>?_,fun fuel fs off cs xs h=>(by cases h)⟩
    have hu:P.underlying t = some (.int k):=by
      simp only [zY,tyB,Bool.and_eq_true] at h
      have:=h.2
      split at this
      · simp only [decide_eq_true_eq] at this; subst this; assumption
      · cases this
    cases fuel with
    | zero=>simp [DataW.trod] at hx
    | succ fuel =>
      unfold DataW.trod at hx
      rw [hu] at hx
      split at hx <;> first | (cases hx; done) | skip
      · rename_i hh; cases hh
      · rename_i k1 k2 n hh
        cases hh
        split at hx
        · rename_i hc; obtain ⟨rfl,hw⟩:=hc; exact ⟨n,rfl,hw,zuv _,fun _=>trivial⟩
        · cases hx
      all_goals (rename_i hh; simp at hh)
  | str =>
    intro _
    refine ⟨fun fuel t cs x _ h hx=>?_,fun fuel fs off cs xs h=>(by cases h)⟩
    have hu:P.underlying t = some .string:=by
      simp only [zY,tyB,Bool.and_eq_true] at h
      have:=h.2
      split at this
      · assumption
      · cases this
    cases fuel with
    | zero=>simp [DataW.trod] at hx
    | succ fuel =>
      unfold DataW.trod at hx
      rw [hu] at hx
      split at hx <;> first | (cases hx; done) | skip
      all_goals first
        | (rename_i hh; simp at hh; done)
        | (rename_i s hh; split at hx; · rename_i hc; cases hx; exact ⟨s,rfl,hc,zuv _,fun hw=>by have:=hw s.data.toList.length (by simp [DataW.weights]); exact this⟩
           · cases hx)
        | skip
  | pair a b iha ihb =>
    intro hd
    simp only [Ty.data,Bool.and_eq_true] at hd
    refine ⟨fun fuel t cs x _ h hx=>?_,fun fuel fs off cs xs h hx hl=>?_⟩
    · rename_i hnp; cases hnp
    · cases fs with
      | nil=>cases h
      | cons f fs =>
        simp only [tyB,Bool.and_eq_true] at h
        obtain ⟨⟨⟨⟨h1,h2⟩,h3⟩,_⟩,h4⟩:=h
        obtain rfl:=Nat.eq_of_beq_eq_true h1
        obtain ⟨i,hi,hsz⟩:=zY.size h2 (Ty.np_spec h3.2)
        rw [List.mapM_cons] at hx
        simp only [Option.bind_eq_bind,Option.bind_eq_some_iff,Option.pure_def,Option.some.injEq] at hx
        obtain ⟨x1,hx1,xs2,hx2,rfl⟩:=hx
        have hcells:P.cellsOf f.type = nc a:=by unfold Program.cellsOf; rw [hi]; exact hsz
        rw [hcells] at hx1
        obtain ⟨y1,g1,g2,b1,c1⟩:=(iha hd.1).1 fuel f.type _ x1 h3.2 h2 hx1
        simp only [nc] at hl
        obtain ⟨y2,g3,g4,b2,c2⟩:=(ihb hd.2).2 fuel fs (f.offset + nc a) cs xs2 h4 hx2 (by omega)
        refine ⟨(y1,y2),⟨_,_,?_,g1,g3⟩,⟨g2,g4⟩,by simp only [bkI,List.map_cons,zfh]; omega,fun hw=>?_⟩
        rotate_left
        · simp only [List.map_cons,DataW.weightsEach,List.mem_append] at hw
          exact ⟨c1 fun n hn=>hw n (.inl hn),c2 fun n hn=>hw n (.inr hn)⟩
        rw [← List.drop_drop,List.take_append_drop]
  | st a iha =>
    intro hd
    refine ⟨fun fuel t cs x _ h hx=>?_,fun fuel fs off cs xs h=>(by cases h)⟩
    obtain ⟨fs,hu,hf,_⟩:=zY.st h
    obtain ⟨i,hi,hsz⟩:=zY.size h (by intro a b e; cases e)
    have hcells:P.cellsOf t = nc a:=by unfold Program.cellsOf; rw [hi]; exact hsz
    cases fuel with
    | zero=>simp [DataW.trod] at hx
    | succ fuel =>
      unfold DataW.trod at hx
      rw [hu] at hx
      simp only at hx
      split at hx
      · rename_i hl
        simp only [Option.map_eq_some_iff] at hx
        obtain ⟨xs,hx,rfl⟩:=hx
        obtain ⟨y,g1,g2,b1,c1⟩:=(iha hd).2 fuel fs.toList 0 cs xs hf hx (by omega)
        refine ⟨y,g1,g2,by simp only [bkI,dbk]; omega,fun hw=>c1 ?_⟩
        simp only [DataW.weights,hu] at hw
        exact hw
      · cases hx
  | arr n a iha =>
    intro hd
    refine ⟨fun fuel t cs x _ h hx=>?_,fun fuel fs off cs xs h=>(by cases h)⟩
    obtain ⟨e,hu,he,hpos,hnp,_⟩:=zY.arr h
    obtain ⟨i,hi,hsz⟩:=zY.size h (by intro a b e; cases e)
    obtain ⟨ie,hie,hsze⟩:=zY.size he (Ty.np_spec hnp)
    have hcells:P.cellsOf t = n * nc a:=by unfold Program.cellsOf; rw [hi]; exact hsz
    have hcellse:P.cellsOf e = nc a:=by unfold Program.cellsOf; rw [hie]; exact hsze
    cases fuel with
    | zero=>simp [DataW.trod] at hx
    | succ fuel =>
      unfold DataW.trod at hx
      rw [hu] at hx
      simp only at hx
      split at hx
      · rename_i hl
        simp only [Option.map_eq_some_iff] at hx
        obtain ⟨xs,hx,rfl⟩:=hx
        rw [hcellse] at hx
        obtain ⟨ys,css,h1,h2,h3,h4,h5,h6⟩:=zwf (bk:=bkI a) (Wd:=fun d=>∀ n ∈ DataW.weights P e d,n ≤ reachBytes) (J:=WtR a) (f:=fun i=>some ((cs.drop (i * nc a)).take (nc a))) (g:=DataW.trod enc P w base sp held fuel e) (R:=Rep P (FH.of w) a) (I:=InR a) (fun cs y hy=>(iha hd).1 fuel e cs y hnp he hy) (List.range n) xs hx
        rw [List.range_eq_range'] at h2
        have:=zpa n 0 css (by rw [Nat.zero_add]; omega) h2
        rw [this] at h3
        simp only [Nat.zero_mul,List.drop_zero] at h3
        rw [List.take_of_length_le (by omega)] at h3
        refine ⟨ys,⟨by simpa using h1,h3⟩,⟨by simpa using h1,h4⟩,by simp only [bkI,dbk]; omega,fun hw=>h6 fun d hd n hn=>?_⟩
        simp only [DataW.weights,hu] at hw
        exact hw n (zwe hd hn)
      · cases hx
  | sl a iha =>
    intro hd
    refine ⟨fun fuel t cs x _ h hx=>?_,fun fuel fs off cs xs h=>(by cases h)⟩
    obtain ⟨e,hu,he,hpos,hnp⟩:=zY.sl h
    obtain ⟨ie,hie,hsze⟩:=zY.size he (Ty.np_spec hnp)
    have hcellse:P.cellsOf e = nc a:=by unfold Program.cellsOf; rw [hie]; exact hsze
    cases fuel with
    | zero=>simp [DataW.trod] at hx
    | succ fuel =>
      unfold DataW.trod at hx
      rw [hu] at hx
      split at hx <;> first | (cases hx; done) | skip
      all_goals first
        | (rename_i hh; cases hh; done)
        | exact ⟨[],⟨_,0,rfl,Nat.le_refl _,fun hne=>absurd rfl hne⟩,⟨Nat.zero_le _,fun x hx=>(by cases hx)⟩,zuv _,fun _=>⟨by simp,fun x hx=>(by cases hx)⟩⟩
        | skip
      rename_i e' ad len cap heq
      simp only [Option.some.injEq,TypeDesc.slice.injEq] at heq
      subst heq
      simp only at hx
      split at hx
      · rename_i hc
        simp only [Option.bind_eq_some_iff] at hx
        obtain ⟨elems,hx,hx2⟩:=hx
        rw [hcellse] at hx
        obtain ⟨ys,css,h1,h2,h3,h4,h5,h6⟩:=zwf (bk:=bkI a) (Wd:=fun d=>∀ n ∈ DataW.weights P e d,n ≤ reachBytes) (J:=WtR a) (f:=fun i=>w.cells? base (ad.add (i * nc a)) (nc a)) (g:=DataW.trod enc P w base sp held fuel e) (R:=Rep P (FH.of w) a) (I:=InR a) (fun cs y hy=>(iha hd).1 fuel e cs y hnp he hy) (List.range len) elems hx
        rw [List.length_range] at h1
        refine ⟨ys,⟨some ad,cap,by rw [h1],by rw [h1]; exact hc.2.1,fun hne=>?_⟩,⟨(show ys.length ≤ maxLen by omega),h4⟩,?_,fun hw=>?_⟩
        rotate_left
        · obtain ⟨rest,-,rfl⟩:=Option.map_eq_some_iff.1 hx2
          simp only [bkI,dbk]; omega
        · obtain ⟨rest,-,rfl⟩:=Option.map_eq_some_iff.1 hx2
          simp only [DataW.weights,hu,List.mem_cons,List.mem_append] at hw
          have hel:=zDU _ _ hx
          rw [List.length_range] at hel
          have hb:=he.bts (Ty.np_spec hnp)
          refine ⟨?_,h6 fun d hd n hn=>hw n (.inr (.inl (zwe hd hn)))⟩
          have h9:=hw _ (.inl rfl)
          rw [hb,List.length_map,hel] at h9
          refine Nat.le_trans (Nat.mul_le_mul_right _ ?_) h9
          rw [h1]; exact Nat.le_add_right _ _
        have hlen:0 < len:=by
          rw [← h1]
          exact List.length_pos_iff.2 hne
        rw [List.range_eq_range'] at h2
        obtain ⟨m,rfl⟩:∃ m,len = m + 1:=⟨len - 1,by omega⟩
        have h2':=h2
        rw [List.range'_succ,List.mapM_cons] at h2'
        simp only [Option.bind_eq_bind,Option.bind_eq_some_iff,Option.pure_def,Option.some.injEq] at h2'
        obtain ⟨cs0,g1,_⟩:=h2'
        rw [Nat.zero_mul,show ad.add 0 = ad from rfl] at g1
        obtain ⟨c,g2,g3,g4⟩:=zDW g1 hpos
        refine ⟨ad,css.flatten,rfl,⟨g3,c,g2,fun j v hv=>?_⟩,h3⟩
        have:=zHk hpos g3 g2 (m + 1) 0 css h2 j v hv
        simpa using this
      · cases hx
  | ptr a=>intro hd; cases hd
  | fn a b=>intro hd; cases hd
def tyL (P:Program):Ty→List TypeId→Bool
  | .unit,[]=>true
  | .pair a b,t :: ts=>(tyB P a).1 t && a.np && a.data && tyL P b ts
  | _,_=>false
theorem zvp:∀ {τ:Ty} {ts:List TypeId} {vs:List Value} {ds:List (DataW H)} {ps:List MemPlace},tyL P τ ts = true→DataW.TrodAll enc P w base sp held ts vs ds ps→(∀ (j:Nat) (t:TypeId) (v:Value),ts[j]? = some t→vs[j]? = some v→∃ W r b,Value.okWide P W r b t v) →
    ∃ x,RepA P (FH.of w) τ x vs ∧ InR τ x ∧ bkI τ x ≤ zfh ds ∧ ((∀ n ∈ DataW.weightsEach P ts ds,n ≤ reachBytes)→WtR τ x)
  | .unit,[],[],[],ps,_,_,_=>⟨(),rfl,trivial,Nat.zero_le _,fun _=>trivial⟩
  | .pair a b,t :: ts,v :: vs,d :: ds,ps,h,hr,hf=>by
    simp only [tyL,Bool.and_eq_true] at h
    obtain ⟨⟨⟨h1,h2⟩,h3⟩,h4⟩:=h
    obtain ⟨p,q,⟨fuel,h5⟩,h6,_⟩:=hr
    obtain ⟨y,g1,g2,b1,c1⟩:=(zKW a h3).1 fuel t v.cells.toList (d,p) h2 h1 h5
    obtain ⟨x,g3,g4,b2,c2⟩:=zvp h4 h6 fun j t v ht hv=>hf (j + 1) t v (by simpa using ht) (by simpa using hv)
    refine ⟨(y,x),⟨v,vs,rfl,g1,?_,g3⟩,⟨g2,g4⟩,by simp only [bkI,zfh]; exact Nat.add_le_add b1 b2,fun hw=>by
      simp only [DataW.weightsEach,List.mem_append] at hw
      exact ⟨c1 fun n hn=>hw n (.inl hn),c2 fun n hn=>hw n (.inr hn)⟩⟩
    obtain ⟨W,r,b0,hform⟩:=hf 0 t v rfl rfl
    obtain ⟨de,hu,hagg⟩:=zY.isAgg h1
    unfold Value.okWide at hform
    rw [hu] at hform
    rw [← hagg]
    have hno:∀ cs,v = .agg cs→Cell.okWide P W r b0 t v→(match de with | .struct _ | .array _ _=>true | _=>false) = false→False:=by
      rintro cs rfl hc hde
      unfold Cell.okWide at hc
      rw [hu] at hc
      cases de <;> simp [Cell.ok,hu] at hc hde
    cases de <;> simp only at hform hno ⊢
    case struct=>obtain ⟨cs,rfl,_⟩:=hform; rfl
    case array=>obtain ⟨cs,rfl,_⟩:=hform; rfl
    all_goals (cases v <;> first | rfl | exact (hno _ rfl hform trivial).elim)
  | .unit,[],[],_ :: _,_,_,h,_=>h.elim
  | .unit,[],_ :: _,_,_,_,h,_=>(by cases h)
  | .unit,_ :: _,_,_,_,h,_,_=>(by cases h)
  | .pair _ _,[],_,_,_,h,_,_=>(by cases h)
  | .pair _ _,_ :: _,[],_,_,_,h,_=>(by cases h)
  | .pair _ _,_ :: _,_ :: _,[],_,_,h,_=>(by cases h)
  | .bool,_,_,_,_,h,_,_=>(by cases h)
  | .int _,_,_,_,_,h,_,_=>(by cases h)
  | .str,_,_,_,_,h,_,_=>(by cases h)
  | .st _,_,_,_,_,h,_,_=>(by cases h)
  | .arr _ _,_,_,_,_,h,_,_=>(by cases h)
  | .sl _,_,_,_,_,h,_,_=>(by cases h)
  | .ptr _,_,_,_,_,h,_,_=>(by cases h)
  | .fn _ _,_,_,_,_,h,_,_=>(by cases h)
theorem zrt {W W':World} (hl:laidOutB P = true) (hb:Below W.heap.size W W'):∀ {ts:List TypeId} {vs:List Value} {ds:List (DataW H)} {ps:List MemPlace},
    (∀ t ∈ ts,P.readableRec t = true ∧ t < P.types.size)→DataW.TrodAll enc P W 0 (fun _=>true) true ts vs ds ps→(∀ x ∈ ps,x.block < W.heap.size)→∀ s:Nat→Bool,(∀ p ∈ ps,s p.block = true)→DataW.TrodAll enc P W' 0 s true ts vs ds ps
  | [],[],[],ps,_,h,_,s,_=>h
  | t :: ts,v :: vs,d :: ds,ps,ht,⟨p,q,h1,h2,e⟩,hlt,s,hs=>by
    subst e
    have h0:=ht t (by simp)
    refine ⟨p,q,?_,zrt hl hb (fun t' h'=>ht t' (by simp [h'])) h2 (fun x hx=>hlt x (by simp [hx])) s (fun x hx=>hs x (by simp [hx])),rfl⟩
    exact WideElems.Trod_stays hl h0.1 h0.2 h1 (fun x hx=>hb.same (hlt x (by simp [hx]))) (fun x hx=>hs x (by simp [hx]))
  | [],[],_ :: _,_,_,h,_,_,_=>h.elim
  | [],_ :: _,_,_,_,h,_,_,_=>h.elim
  | _ :: _,[],_,_,_,h,_,_,_=>h.elim
  | _ :: _,_ :: _,[],_,_,h,_,_,_=>h.elim
end
section
variable {P:Program} {H:Type} {enc:TypeId × Value→H}
theorem law_contractW {fi:FuncId} {f:Func} {a:Ty} {tb:TypeId} {spec:ChangeSpec} {W:World} {base:Nat} {args:Array Value} {ds gs:List (DataW H)} {before:List MemPlace}
 (hl:laidOutB P = true) (hts:∀ t ∈ f.params.toList,P.readableRec t = true ∧ t < P.types.size) (hty:tyL P a f.params.toList = true) (hres:f.resultTypes = #[tb]) (hbool:P.underlying tb = some .bool) (hvars:spec.vars = [])
 (hfn:∀ ds:List (DataW H),ds.length = f.params.size→spec.fn H ds = { results:=[.lit (.bool true)],args:=ds })
 (hval:∀ (j:Nat) t v,f.params[j]? = some t→args[j]? = some v→Value.okWide P W .any base t v)
 (hW:DataW.Whole enc P f.params.toList spec.vars false W args.toList ds gs before)
 (hcall:∀ x,InR a x→bkI a x ≤ zfh ds→((∀ n ∈ DataW.weightsEach P f.params.toList ds,n ≤ reachBytes)→WtR a x)→RepA P (FH.of W) a x args.toList→Calls P fi args W fun e W'=>e = .returned (.bool true) ∧ Below W.heap.size W W') :
 Calls P fi args W fun e W'=>∃ v,e = .returned v ∧ spec.post enc P f false true false false W args v W':=by
 have hW':=hW
 obtain ⟨p,q,hA,hV,rfl,hfz,hnd⟩:=hW
 rw [hvars] at hV
 obtain ⟨rfl,rfl⟩:=trodVars_none hV
 have hlt:∀ x ∈ p,x.block < W.heap.size:=fun x hx=>by simpa using hW'.lt x (by simp [hx])
 obtain ⟨x,hx,hin,hbk,hwt⟩:=zvp (w:=W) hty hA fun j t v ht hv=>⟨W,.any,base,hval j t v (by rw [← Array.getElem?_toList]; exact ht) (by rw [← Array.getElem?_toList]; exact hv)⟩
 have hlen:∀ {ts:List TypeId} {vs:List Value} {ds:List (DataW H)} {ps:List MemPlace},DataW.TrodAll enc P W 0 (fun _=>true) true ts vs ds ps→ds.length = ts.length:=by
  intro ts
  induction ts with
  | nil=>intro vs ds ps h; cases vs <;> cases ds <;> first | rfl | exact h.elim
  | cons t ts ih=>intro vs ds ps h; cases vs <;> cases ds <;> first | exact h.elim | (obtain ⟨_,_,_,h2,_⟩:=h; simp [ih h2])
 have hfn':=hfn ds (by rw [hlen hA]; simp)
 refine (hcall x hin hbk hwt hx).mono fun e W' ⟨he,hb⟩=>?_
 subst he
 simp only [List.append_nil] at *
 refine ⟨_,rfl,ds,[],p,[],p,[],hW',?_,?_,?_,hb.frame _,fun h=>(by cases h)⟩
 ·rw [List.append_nil,hfn',hres]
  exact trodAll_cons_mk (shut_bool hbool _) trodAll_mk0
 ·rw [List.append_nil,hfn']
  exact zrt hl hb hts hA hlt _ (fun x hx=>by simpa using hlt x hx)
 ·rw [List.append_nil,hfn',hvars]
  rfl
theorem law_contract {fi:FuncId} {f:Func} {a:Ty} {tb:TypeId} {spec:ChangeSpec} {W:World} {base:Nat} {args:Array Value} {ds gs:List (DataW H)} {before:List MemPlace}
 (hl:laidOutB P = true) (hts:∀ t ∈ f.params.toList,P.readableRec t = true ∧ t < P.types.size) (hty:tyL P a f.params.toList = true) (hres:f.resultTypes = #[tb]) (hbool:P.underlying tb = some .bool) (hvars:spec.vars = [])
 (hfn:∀ ds:List (DataW H),ds.length = f.params.size→spec.fn H ds = { results:=[.lit (.bool true)],args:=ds })
 (hval:∀ (j:Nat) t v,f.params[j]? = some t→args[j]? = some v→Value.okWide P W .any base t v)
 (hW:DataW.Whole enc P f.params.toList spec.vars false W args.toList ds gs before)
 (hcall:∀ x,InR a x→bkI a x ≤ zfh ds→RepA P (FH.of W) a x args.toList→Calls P fi args W fun e W'=>e = .returned (.bool true) ∧ Below W.heap.size W W') :
 Calls P fi args W fun e W'=>∃ v,e = .returned v ∧ spec.post enc P f false true false false W args v W' :=
 law_contractW hl hts hty hres hbool hvars hfn hval hW fun x h1 h2 _ h3=>hcall x h1 h2 h3
end
end Go.Ev
end
section
namespace Go.Ev
open Go.RowKit
section
variable {P:Program} {G:FH} {E:Env}
theorem zkQ.mk (hm:P.follows .mixedOrders = true) (hE:EnvOk P G E) {fi:FuncId} {f:Func} (hf:P.funcs[fi]? = some f) (hn:(f.name == "runtime.NumGoroutine") = false) (hb:f.body.isNone = false)
 {F:Fun} (h:∀ x y,F.spec x = some y→∃ K,evF E K f F.md F.a F.r x = some y):zkQ P G fi F:=by
 refine ⟨⟨f,hf,hn,hb⟩,fun x y hy F0 w vs hG hk hr=>?_⟩
 obtain ⟨K,he⟩:=h x y hy
 exact zJR hm hE hf he hG hk hr
theorem EnvOk.nil {types:TT} {nt:Nat} {dp:Bool} (ht:types.all (fun k τ=>(tyB P τ).1 k) = true) {glob:List (Nat × AV)} (hg:∀ g v,look glob g = some v→∃ τ x cs,v = .dat (.ptr τ) (some x) ∧ At G ⟨g,0,none⟩ cs ∧ Rep P G τ x cs) {ext:List (Nat × Bool)} {jn:List Nat} (hx:∀ f add,look ext f = some add→ExtOk P f add):EnvOk P G ⟨types,[],glob,nt,dp,ext,jn,fun _=>none,false,false⟩ :=
 ⟨fun t τ h=>TT.all_look ht h,fun f F h=>by simp [look] at h,hg,hx,fun f H h=>by cases h⟩
theorem EnvOk.deep (hE:EnvOk P G E) (d:Bool):EnvOk P G { E with deep:=d }:=⟨hE.types,hE.funs,hE.glob,hE.ext,hE.hnd⟩
theorem EnvOk.cons (hE:EnvOk P G E) {fi:FuncId} {F:Fun} (h:zkQ P G fi F):EnvOk P G { E with funs:=(fi,F) :: E.funs }:=by
 refine ⟨hE.types,fun f F' h'=>?_,hE.glob,hE.ext,hE.hnd⟩
 simp only [look] at h'
 cases hb:Nat.beq fi f with
 | true =>
  rw [hb] at h'
  simp only [cond_true,Option.some.injEq] at h'
  subst h'
  rw [← Nat.eq_of_beq_eq_true hb]
  exact h
 | false=>rw [hb] at h'; exact hE.funs f F' h'
end
end Go.Ev
end
section
namespace Go.Ev
theorem zDX {n:Nat} (h:n ≤ Go.maxLen):IntKind.wrap .i64 (n:Int) = (n:Int):=by
 unfold Go.maxLen at h
 exact IntWalk.i64_in _ (by omega)
def qu {α:Type} (p:α→Bool):List α→Int→Int
 | [],_=>-1
 | x :: xs,i=>cond (p x) i (qu p xs (i + 1))
theorem zqN {α:Type} {p:α→Bool}:∀ (xs:List α) (i:Int),0 ≤ i→decide (qu p xs i ≥ 0) = xs.any p
 | [],_,_=>rfl
 | x :: xs,i,h=>by
  have ih:=zqN (p:=p) xs (i + 1) (by omega)
  simp only [qu,List.any_cons]
  by_cases hp:p x = true
  ·simp [hp,h]
  ·simp only [Bool.not_eq_true] at hp
   simp only [hp,cond_false,Bool.false_or]
   exact ih
end Go.Ev
end
section
namespace Go.Ev
theorem zx2 {i len:Nat} (h:i < len) (hl:len ≤ Go.maxLen):IntKind.wrap .i64 ((i:Int) + 1) = (i:Int) + 1:=by
 rw [show (i:Int) + 1 = ((i + 1:Nat):Int) by omega]
 exact zDX (by omega)
theorem zab {α:Type} {l:List α} {i:Nat} (d:α) (h:i < l.length):l.drop i = l.getD i d :: l.drop (i + 1):=by
 rw [List.drop_eq_getElem_cons h]
 simp [List.getD,h]
theorem zKX {σ ρ:Type} {L:Nat→Int→σ→Option ρ} {len:Nat} (hl:len ≤ Go.maxLen) (F:Nat→σ→Option ρ) (I:Nat→σ→Prop)
 (hstep:∀ n i s,i < len→I i s→(∀ s',I (i + 1) s'→L n ((i:Int) + 1) s' = F (i + 1) s')→L (n + 1) (i:Int) s = F i s)
 (hend:∀ n s,I len s→L (n + 1) (len:Int) s = F len s) :
 ∀ (k i n:Nat) (s:σ),i + k = len→k < n→I i s→L n (i:Int) s = F i s:=by
 intro k
 induction k with
 | zero =>
  intro i n s hi hn hI
  obtain ⟨m,rfl⟩:∃ m,n = m + 1:=⟨n - 1,by omega⟩
  obtain rfl:i = len:=by omega
  exact hend m s hI
 | succ k ih =>
  intro i n s hi hn hI
  obtain ⟨m,rfl⟩:∃ m,n = m + 1:=⟨n - 1,by omega⟩
  refine hstep m i s (by omega) hI fun s' hI'=>?_
  have:=ih (i + 1) m s' (by omega) (by omega) hI'
  rw [show (i:Int) + 1 = ((i + 1:Nat):Int) by omega]
  exact this
theorem zJS {σ ρ:Type} {L:Nat→Int→σ→Option ρ} {len:Nat} (hl:len ≤ Go.maxLen) (F:Nat→σ→Option ρ) (I:Nat→σ→Prop)
 (hstep:∀ n i s,i < len→I i s→(∀ s',I (i + 1) s'→L n ((i:Int) + 1) s' = F (i + 1) s')→L (n + 1) (i:Int) s = F i s)
 (hend:∀ n s,I len s→L (n + 1) (len:Int) s = F len s) (n:Nat) (hn:len < n) (s:σ) (h0:I 0 s):L n 0 s = F 0 s :=
 zKX hl F I hstep hend len 0 n s (by omega) hn h0
end Go.Ev
end
section
namespace Go.Ev
abbrev Fnc (A R:Ty):Type:=A.I→Option R.I
def zk {σ ρ:Type} (B:(σ→Option ρ)→σ→Option ρ):Nat→σ→Option ρ
 | 0,_=>none
 | n + 1,s=>B (zk B n) s
noncomputable def evV {σ:Type} (E:Env) (K:Nat) (f:Func) (md:Nat) (R:Ty) (p ns:List Nat) (S:σ→St) (n:Nat):σ→Option R.I:=fun s=>evL E K f md R p ns n (S s)
theorem zDY {E:Env} {K:Nat} {f:Func} {md:Nat} {R:Ty} {p ns:List Nat} {st:St}:evL E K f md R p ns 0 st = none:=by
 unfold evL
 split
 ·split <;> rfl
 ·rfl
theorem zt {σ:Type} {E:Env} {K:Nat} {f:Func} {md:Nat} {R:Ty} {p ns:List Nat} {S:σ→St} {B:(σ→Option R.I)→σ→Option R.I}
 (h:∀ n s,evV E K f md R p ns S (n + 1) s = B (evV E K f md R p ns S n) s):∀ n,evV E K f md R p ns S n = zk B n
 | 0=>by funext s; exact zDY
 | n + 1=>by funext s; rw [h,zt h n]; rfl
theorem zhC {σ τ:Type} {E:Env} {K:Nat} {f:Func} {md:Nat} {R:Ty} {p ns:List Nat} {S:σ→St} {B:(τ→Option R.I)→(σ→Option R.I)→σ→Option R.I} {V1:Nat→τ→Option R.I} {W1:(σ→Option R.I)→τ→Option R.I}
 (h1:∀ n,V1 n = W1 (evV E K f md R p ns S n)) (h:∀ n s,evV E K f md R p ns S (n + 1) s = B (V1 n) (evV E K f md R p ns S n) s):∀ n,evV E K f md R p ns S n = zk (fun k=>B (W1 k) k) n :=
 zt fun n s=>by rw [← h1]; exact h n s
def zx3 {σ τ ρ:Type} (B0:(τ→Option ρ)→σ→Option ρ) (B1:(τ→Option ρ)→τ→Option ρ):Nat→σ→Option ρ
 | 0,_=>none
 | n + 1,s=>B0 (zk B1 n) s
theorem zJT {σ τ:Type} {E:Env} {K:Nat} {f:Func} {md:Nat} {R:Ty} {p ns:List Nat} {S0:σ→St} {S1:τ→St} {B0:(τ→Option R.I)→σ→Option R.I} {B1:(τ→Option R.I)→τ→Option R.I}
 (h1:∀ n,evV E K f md R p ns S1 n = zk B1 n) (h:∀ n s,evV E K f md R p ns S0 (n + 1) s = B0 (evV E K f md R p ns S1 n) s):∀ n,evV E K f md R p ns S0 n = zx3 B0 B1 n
 | 0=>by funext s; exact zDY
 | n + 1=>by funext s; rw [h,h1]; rfl
theorem tr1 {α X Y:Type} {T:α→X→Y} {V W:α} (h:V = W) {F:X→Y} (hx:∀ x,F x = T V x):F = T W:=by subst h; funext x; exact hx x
def En (E:Env) (d:Bool) (l:List Fun):Env:=⟨E.types,l.map fun F=>(F.id,F),E.glob,0,d,E.ext,[],fun _=>none,false,false⟩
def Ej (E:Env) (d:Bool) (js:List Nat) (l:List Fun):Env:=⟨E.types,l.map fun F=>(F.id,F),E.glob,0,d,E.ext,js,fun _=>none,false,js.any (Nat.beq 999999)⟩
def Sd (P:Program) (E:Env) (F:Fun):Prop:=∀ G,EnvOk P G E→zkQ P G F.id F
def Sds (P:Program) (E:Env):List Fun→Prop
 | []=>True
 | F :: l=>Sd P E F ∧ Sds P E l
def jC (f:Func):Bool:=!(f.name == "runtime.NumGoroutine") && !f.body.isNone
theorem Sds.env {P:Program} {E:Env} {l:List Fun} {d:Bool} {G:FH} (h:Sds P E l) (hE:EnvOk P G E):EnvOk P G (En E d l):=by
 refine ⟨hE.types,?_,hE.glob,hE.ext,fun f H h=>by cases h⟩
 intro f F hf
 have key:∀ l:List Fun,Sds P E l→look (l.map fun F=>(F.id,F)) f = some F→zkQ P G f F:=by
  intro l
  induction l with
  | nil=>intro _ h; cases h
  | cons F' l ih =>
   intro hs hl
   simp only [List.map_cons,look] at hl
   cases hb:Nat.beq F'.id f with
   | true =>
    rw [hb] at hl
    cases hl
    rw [← Nat.eq_of_beq_eq_true hb]
    exact hs.1 G hE
   | false=>rw [hb] at hl; exact ih hs.2 hl
 exact key l h hf
theorem Sds.envJ {P:Program} {E:Env} {l:List Fun} {d:Bool} {js:List Nat} {G:FH} (h:Sds P E l) (hE:EnvOk P G E):EnvOk P G (Ej E d js l) :=
 have h':=h.env (d:=d) hE
 ⟨h'.types,h'.funs,h'.glob,h'.ext,fun f H h=>by cases h⟩
theorem Sd.mkJ {P:Program} {E:Env} {l:List Fun} {d:Bool} {js:List Nat} {F:Fun} {f:Func} {K:Nat} (hm:P.follows .mixedOrders = true) (hl:Sds P E l) (hf:P.funcs[F.id]? = some f) (ho:jC f = true)
 (h:evF (Ej E d js l) K f F.md F.a F.r = F.spec):Sd P E F:=by
 intro G hE
 unfold jC at ho
 simp only [Bool.and_eq_true,Bool.not_eq_true'] at ho
 exact zkQ.mk hm (hl.envJ hE) hf ho.1 ho.2 fun x y hy=>⟨K,by rw [h]; exact hy⟩
theorem Sd.mk {P:Program} {E:Env} {l:List Fun} {d:Bool} {F:Fun} {f:Func} {K:Nat} (hm:P.follows .mixedOrders = true) (hl:Sds P E l) (hf:P.funcs[F.id]? = some f) (ho:jC f = true)
 (h:evF (En E d l) K f F.md F.a F.r = F.spec):Sd P E F:=by
 intro G hE
 unfold jC at ho
 simp only [Bool.and_eq_true,Bool.not_eq_true'] at ho
 exact zkQ.mk hm (hl.env hE) hf ho.1 ho.2 fun x y hy=>⟨K,by rw [h]; exact hy⟩
def FOk (P:Program):List (Nat × Func)→Prop
 | []=>True
 | p :: l=>(P.funcs[p.1]? = some p.2 ∧ jC p.2 = true) ∧ FOk P l
theorem FOk.look {P:Program}:∀ {l:List (Nat × Func)} {i:Nat} {f:Func},FOk P l→look l i = some f→P.funcs[i]? = some f ∧ jC f = true
 | (j,g) :: l,i,f,h,hl=>by
  simp only [Go.Ev.look] at hl
  cases hb:Nat.beq j i with
  | true=>rw [hb] at hl; cases hl; rw [← Nat.eq_of_beq_eq_true hb]; exact h.1
  | false=>rw [hb] at hl; exact FOk.look h.2 hl
theorem EnvOk.inl {P:Program} {G:FH} {E:Env} (hm:P.follows .mixedOrders = true) (hE:EnvOk P G E) {fs:List (Nat × Func)} (hfs:FOk P fs):∀ d,EnvOk P G (E.inl fs d)
 | 0=>hE
 | d + 1=>⟨hE.types,hE.funs,hE.glob,hE.ext,fun i H h=>by
  obtain ⟨fn,h1,rfl⟩:=Option.map_eq_some_iff.1 h
  obtain ⟨h2,h3⟩:=hfs.look h1
  unfold jC at h3
  simp only [Bool.and_eq_true,Bool.not_eq_true'] at h3
  exact zLQ hm (EnvOk.inl hm hE hfs d) h2 h3.1 h3.2⟩
@[reducible] def ch:List Ty→Ty
 | []=>.unit
 | a :: l=>.pair a (ch l)
abbrev u0 {a0 a1:Type} (x:a0 × a1) (v:a0):a0 × a1:=(v,x.2)
abbrev u1 {a0 a1 a2:Type} (x:a0 × a1 × a2) (v:a1):a0 × a1 × a2:=(x.1,v,x.2.2)
abbrev u2 {a0 a1 a2 a3:Type} (x:a0 × a1 × a2 × a3) (v:a2):a0 × a1 × a2 × a3:=(x.1,x.2.1,v,x.2.2.2)
abbrev u3 {a0 a1 a2 a3 a4:Type} (x:a0 × a1 × a2 × a3 × a4) (v:a3):a0 × a1 × a2 × a3 × a4:=(x.1,x.2.1,x.2.2.1,v,x.2.2.2.2)
abbrev u5 {a0 a1 a2 a3 a4 a5 a6:Type} (x:a0 × a1 × a2 × a3 × a4 × a5 × a6) (v:a5):a0 × a1 × a2 × a3 × a4 × a5 × a6:=(x.1,x.2.1,x.2.2.1,x.2.2.2.1,x.2.2.2.2.1,v,x.2.2.2.2.2.2)
def inR {ρ:Type} (i n:Int) (x:Option ρ):Option ρ:=cond (decide (0 ≤ i)) (cond (decide (i < n)) x none) none
theorem zJU {ρ:Type} {i n:Int} {x:Option ρ} (h0:0 ≤ i) (h1:i < n):inR i n x = x:=by unfold inR; rw [decide_eq_true h0,decide_eq_true h1]; rfl
abbrev ix {α:Type} (d:α) (l:List α) (i:Int):α:=List.getD l (Int.toNat i) d
def K0:Nat:=Go.maxLen + 2
theorem zC5 {n:Nat} (h:n ≤ Go.maxLen):n < K0:=by unfold K0; omega
abbrev tI:Ty:=.int .i64
abbrev tU:Ty:=.int .u64
abbrev wI (n:Int):Int:=IntKind.wrap .i64 n
abbrev wU (n:Int):Int:=IntKind.wrap .u64 n
end Go.Ev
end
section
namespace Go.Ev
theorem jS {σ α ρ:Type} {B:(σ→Option ρ)→σ→Option ρ} {len:Nat} (hl:len ≤ Go.maxLen) (st:Int→α→σ) (F:Nat→α→Option ρ) (I:Nat→α→Prop)
 (hstep:∀ k (i:Nat) s,i < len→I i s→(∀ s',I (i + 1) s'→k (st (wI (i + 1)) s') = F (i + 1) s')→B k (st i s) = F i s)
 (hend:∀ k s,I len s→B k (st len s) = F len s) (s:α) (h0:I 0 s):zk B K0 (st 0 s) = F 0 s:=by
 refine zJS (L:=fun n i s=>zk B n (st i s)) hl F I (fun n i s hi hI h=>?_) (fun n s hI=>hend _ s hI) K0 (zC5 hl) s h0
 refine hstep _ i s hi hI fun s' hI'=>?_
 rw [wI,zx2 hi hl]
 exact h s' hI'
theorem zU {α:Type} {l:List α} {i:Nat} {d:α} (h:i < l.length):l.getD i d ∈ l:=by
 rw [List.getD_eq_getElem?_getD,List.getElem?_eq_getElem h]
 exact List.getElem_mem h
theorem zL (p:Bool):some (p,()) = bif p then some (true,()) else some (false,()):=by cases p <;> rfl
theorem zwg {σ α ρ:Type} {B:(σ→Option ρ)→σ→Option ρ} {l:List α} (d:α) {p:α→Bool} {fin bad:Option ρ} (st:Int→σ) (hl:l.length ≤ Go.maxLen)
 (hin:∀ k (i:Nat) x,i < l.length→l.getD i d = x→x ∈ l→B k (st i) = bif p x then k (st (wI (i + 1))) else bad) (hout:∀ k,B k (st l.length) = fin):zk B K0 (st 0) = bif l.all p then fin else bad:=by
 have:=jS (α:=Unit) (B:=B) hl (fun i _=>st i) (fun i _=>bif (l.drop i).all p then fin else bad) (fun _ _=>True) (fun k i s hi _ h=>?_) (fun k s _=>?_) () trivial
 ·simpa using this
 ·rw [hin k i _ hi rfl (zU hi),h () trivial,zab d hi,List.all_cons]
  cases p (l.getD i d) <;> rfl
 ·rw [hout,List.drop_of_length_le (Nat.le_refl _)]; rfl
theorem zsZ {σ α β ρ:Type} {B:(σ→Option ρ)→σ→Option ρ} {l:List β} (d:β) (st:Int→α→σ) (G:List β→α→Option ρ) (hl:l.length ≤ Go.maxLen)
 (hin:∀ k (i:Nat) x rest s,i < l.length→l.getD i d = x→x ∈ l→l.drop (i + 1) = rest→(∀ s',k (st (wI (i + 1)) s') = G rest s')→B k (st i s) = G (x :: rest) s) (hout:∀ k s,B k (st l.length s) = G [] s) (s:α):zk B K0 (st 0 s) = G l s:=by
 have:=jS (B:=B) hl st (fun i s=>G (l.drop i) s) (fun _ _=>True) (fun k i s hi _ h=>?_) (fun k s _=>?_) s trivial
 ·simpa using this
 ·rw [zab d hi]
  exact hin k i _ _ s hi rfl (zU hi) rfl fun s'=>h s' trivial
 ·rw [hout,List.drop_of_length_le (Nat.le_refl _)]
def qi (p:Nat→Bool) (i:Nat):Nat→Bool
 | 0=>true
 | n + 1=>p i && qi p (i + 1) n
theorem qE {p:Nat→Bool}:∀ {n i:Nat},qi p i n = true ↔ ∀ j,i ≤ j→j < i + n→p j = true
 | 0,i=>by simp only [qi,true_iff]; intro j h1 h2; omega
 | n + 1,i=>by
  simp only [qi,Bool.and_eq_true,qE (n:=n)]
  constructor
  ·rintro ⟨h1,h2⟩ j h3 h4
   by_cases e:j = i
   ·subst e; exact h1
   ·exact h2 j (by omega) (by omega)
  ·intro h
   exact ⟨h i (Nat.le_refl i) (by omega),fun j h1 h2=>h j (by omega) (by omega)⟩
theorem yY {σ ρ:Type} {B:(σ→Option ρ)→σ→Option ρ} {i0 n:Nat} (hn:n ≤ Go.maxLen) (h0:i0 ≤ n) {p:Nat→Bool} {fin bad:Option ρ} (st:Int→σ)
 (hin:∀ k (i:Nat),i0 ≤ i→i < n→B k (st i) = bif p i then k (st (wI (i + 1))) else bad) (hout:∀ k,B k (st n) = fin):zk B K0 (st i0) = bif qi p i0 (n - i0) then fin else bad:=by
 have key:∀ (m i fuel:Nat),i0 ≤ i→i + m = n→m < fuel→zk B fuel (st i) = bif qi p i m then fin else bad:=by
  intro m
  induction m with
  | zero =>
   intro i fuel _ h1 h2
   obtain ⟨f,rfl⟩:∃ f,fuel = f + 1:=⟨fuel - 1,by omega⟩
   obtain rfl:i = n:=by omega
   exact hout _
  | succ m ih =>
   intro i fuel h1 h2 h3
   obtain ⟨f,rfl⟩:∃ f,fuel = f + 1:=⟨fuel - 1,by omega⟩
   show B (zk B f) (st i) = _
   rw [hin _ i h1 (by omega),wI,zx2 (len:=n) (by omega) hn,show ((i:Int) + 1) = ((i + 1:Nat):Int) by omega,ih (i + 1) f (by omega) (by omega) (by omega)]
   simp only [qi]
   cases p i <;> rfl
 exact key (n - i0) i0 K0 (Nat.le_refl _) (by omega) (by have:=zC5 hn; omega)
theorem zpb {i:Nat} (h:1 ≤ i) (hi:i ≤ Go.maxLen):wI ((i:Int) - 1) = ((i - 1:Nat):Int):=by
 rw [show ((i:Int) - 1) = ((i - 1:Nat):Int) by omega]
 exact zDX (by omega)
section
variable {τ:Ty} {l:List τ.I} {g:τ.I × Unit→Option (Bool × Unit)} {p:τ.I→Bool}
theorem zC {ρ:Type} {i n:Nat} {x:Option ρ} (h:i < n):inR (i:Int) (n:Int) x = x:=zJU (by omega) (by omega)
theorem ltT {i n:Nat} (h:i < n):decide ((i:Int) < (n:Int)) = true:=decide_eq_true (by omega)
theorem ltF (n:Nat):decide ((n:Int) < (n:Int)) = false:=decide_eq_false (by omega)
theorem qe {α:Type} {d:α} {l:List α} {i:Nat}:ix d l (i:Int) = l.getD i d:=by rw [ix,Int.toNat_natCast]
theorem qx {B:((List τ.I × Option (τ.I × Unit→Option (Bool × Unit)) × Int × Int)→Option (Int × Unit))→(List τ.I × Option (τ.I × Unit→Option (Bool × Unit)) × Int × Int)→Option (Int × Unit)}
 (hB:∀ k l g n i,B k (l,g,n,i) = bif decide (i < n) then inR i (List.length l:Int) (Option.bind g fun q0=>Option.bind (q0 (ix (ze τ) l i,())) fun q1=>bif q1.1 then some (i,()) else k (l,g,n,wI (i + 1))) else some (-1,()))
 (hl:l.length ≤ Go.maxLen) (hp:∀ x ∈ l,g (x,()) = some (p x,())):zk B K0 (l,some g,(l.length:Int),0) = some (qu p l 0,()):=by
 have:=jS (α:=Unit) (B:=B) hl (fun i _=>(l,some g,(l.length:Int),i)) (fun i _=>some (qu p (l.drop i) i,())) (fun _ _=>True) (fun k i s hi _ h=>?_) (fun k s _=>?_) () trivial
 ·simpa using this
 ·rw [hB,ltT hi,zC hi,qe,Option.bind_some,hp _ (zU hi),Option.bind_some,h () trivial,zab (ze τ) hi]
  simp only [qu,cond_true]
  cases p (l.getD i (ze τ)) <;> rfl
 ·rw [hB,ltF,List.drop_of_length_le (Nat.le_refl _)]; rfl
theorem qr {f:Fnc (.pair (.sl τ) (.pair (.fn (.pair τ .unit) (.pair .bool .unit)) .unit)) (.pair (.int .i64) .unit)} (hf:f (l,some g,()) = some (qu p l 0,())) :
 (Option.bind (f (l,some g,())) fun q0=>bif decide ((q0.1:Int) ≥ 0) then some (true,()) else some (false,())) = some (l.any p,()):=by
 rw [hf,Option.bind_some,zqN (p:=p) l 0 (Int.le_refl 0)]
 cases l.any p <;> rfl
theorem j5 {α:Type} {l:List α} {p:α→Bool}:(!(l.any fun x=>!p x)) = l.all p:=by
 rw [List.not_any_eq_all_not]
 congr 1
 funext x
 simp
def eqL (τ:Ty) (a b:List τ.I):Bool:=decide (a.length = b.length) && (List.zip a b).all fun q=>eqI τ q.1 q.2
theorem znw (a b:Nat):((a:Int) != (b:Int)) = !decide (a = b):=by
 by_cases h:a = b
 ·subst h; simp
 ·have:(a:Int) ≠ (b:Int):=by omega
  simp [h,this]
theorem zqO {α β:Type} {d:α} {e:β}:∀ (a:List α) (b:List β) (i:Nat),i < a.length→i < b.length→(List.zip a b).getD i (d,e) = (a.getD i d,b.getD i e)
 | x :: a,y :: b,0,_,_=>rfl
 | x :: a,y :: b,i + 1,h1,h2=>zqO a b i (by simpa using h1) (by simpa using h2)
 | [],_,_,h,_=>by simp at h
 | _ :: _,[],_,_,h=>by simp at h
theorem za5 {B:((List τ.I × List τ.I × Int × Int)→Option (Bool × Unit))→(List τ.I × List τ.I × Int × Int)→Option (Bool × Unit)}
 (hB:∀ k a b n i,B k (a,b,n,i) = bif decide (i < n) then inR i (List.length a:Int) (inR i (List.length b:Int) (bif !eqI τ (ix (ze τ) a i) (ix (ze τ) b i) then some (false,()) else k (a,b,n,wI (i + 1)))) else some (true,()))
 {a b:List τ.I} (hl:a.length ≤ Go.maxLen):(bif ((List.length a:Int) != (List.length b:Int)) then some (false,()) else zk B K0 (a,b,(a.length:Int),0)) = some (eqL τ a b,()):=by
 rw [znw]
 unfold eqL
 by_cases h:a.length = b.length
 ·rw [decide_eq_true h]
  simp only [Bool.not_true,cond_false,Bool.true_and]
  have hz:(List.zip a b).length = a.length:=by rw [List.length_zip]; omega
  have hx:∀ i,i < a.length→(List.zip a b).getD i (ze τ,ze τ) = (a.getD i (ze τ),b.getD i (ze τ)):=fun i hi=>zqO a b i hi (by omega)
  have:=zwg (B:=B) (l:=List.zip a b) (ze τ,ze τ) (p:=fun q=>eqI τ q.1 q.2) (fin:=some (true,())) (bad:=some (false,())) (fun i=>(a,b,(a.length:Int),i)) (by rw [hz]; exact hl) (fun k i x hi hx' _=>?_) (fun k=>?_)
  ·rw [this]
   cases (List.zip a b).all fun q=>eqI τ q.1 q.2 <;> rfl
  ·rw [hz] at hi
   rw [hx i hi] at hx'
   subst hx'
   rw [hB,ltT hi,zC hi,zC (by omega),qe,qe]
   simp only [cond_true]
   cases eqI τ (a.getD i (ze τ)) (b.getD i (ze τ)) <;> rfl
  ·rw [hB,hz,ltF]; rfl
 ·rw [decide_eq_false h]; rfl
theorem yo {x:Option (List τ.I × Unit)} (h:l.length * τ.bts ≤ zDe) (hx:x = bif j8 true τ (List.length (List.replicate 0 (ze τ)) + List.length l) then some (List.replicate 0 (ze τ) ++ l,()) else none) :
 (bif List.isEmpty l then zeN (some ([],())) x else x) = some (l,()):=by
 have e0:j8 true τ (List.length (List.replicate 0 (ze τ)) + List.length l) = true:=by
  show decide ((0 + List.length l) * τ.bts ≤ zDe) = true
  rw [Nat.zero_add]
  exact decide_eq_true h
 have e:x = some (l,()):=by rw [hx,e0]; rfl
 rw [e]
 cases l with
 | nil=>exact zJF _
 | cons y l=>rfl
end
end Go.Ev
end
section
namespace Go.Ev
open Go.RowKit
def zh0 (p:Int × Unit→Option (Bool × Unit)) (x:Int):Bool:=match p (x,()) with | some (b,_)=>b | none=>false
def zH7 (p:Int × Unit→Option (Bool × Unit)) (xs:List Int):Option (List Int) :=
 cond (xs.all fun x=>(p (x,())).isSome) (cond (decide (xs.length ≤ 9223372036854775807)) (some (xs.filter fun x=>!zh0 p x)) none) none
def zzW (R:Type) (args:List AV) (h:List Obj) (k:AV→List Obj→Option R):Option R :=
 match args with
 | [.ow id,.dat (.fn (.pair (.int .i64) .unit) (.pair .bool .unit)) (some p)]=>match atN h id with
  | some (.row (.int .i64) xs false)=>(zH7 p xs).bind fun ys=>k (.ow h.length) (zf h id .gone ++ [.row (.int .i64) ys false])
  | _=>none
 | _=>none
theorem zKY (R:Type) (args:List AV) (h:List Obj) (k:AV→List Obj→Option R):zzW R args h k = (zzW (AV × List Obj) args h fun v h=>some (v,h)).bind fun p=>k p.1 p.2:=by
 unfold zzW
 split
 ·split
  ·rw [Option.bind_assoc]; rfl
  ·rfl
 ·rfl
def zx4:Hd:=⟨zzW,zKY,false,fun h=>by cases h⟩
section
variable {P:Program} {nt:Up} {F0 F:FH} {w0 w:World} {st:St} {m:MM} {a:Act}
theorem zDZ {F:FH}:∀ {xs:List Int} {c:List Value},RepL (Rep P F (.int .i64)) xs c→c = xs.map (Value.int .i64)
 | [],_,h=>h
 | x :: xs,_,⟨c,d,e,h1,h2⟩=>by
  have h1:c = [.int .i64 x]:=h1
  rw [e,h1,zDZ h2]; rfl
theorem znx {F:FH}:∀ (xs:List Int),RepL (Rep P F (.int .i64)) xs (xs.map (Value.int .i64))
 | []=>rfl
 | x :: xs=>⟨[.int .i64 x],xs.map (Value.int .i64),rfl,rfl,znx xs⟩
theorem zqP {α:Type}:∀ (l:List α) (i:Nat) (x:α),atN l i = some x→zf l i x = l
 | [],_,_,h=>rfl
 | y :: _,0,x,h=>by simp only [atN,Option.some.injEq] at h; simp only [zf,h]
 | _ :: l,i + 1,x,h=>by simp only [atN] at h; simp only [zf,zqP l i x h]
theorem zko {α:Type} (l:List α) (i:Nat) (x:α):(zf l i x).length = l.length:=by rw [qS]; simp
theorem Rel.ints (h:Rel P nt F0 w0 st m F a w) {id b n:Nat} {xs:List Int} (ho:atN st.h id = some (.row (.int .i64) xs false)) (hm:m id = some (b,n)) :
 ∃ el cs,w.heap[b]? = some (.cells cs el (0,0)) ∧ cs.size = n ∧ F b = none ∧ xs.length ≤ n ∧ (∃ d,cs.toList = xs.map (Value.int .i64) ++ d) ∧
  ∀ j,j < xs.length→w.cell? ⟨b,j,none⟩ = some (.int .i64 (xs.getD j 0)) ∧ w.frozen? ⟨b,j,none⟩ = false:=by
 have hO:=h.obs _ _ ho
 simp only [z6,hm] at hO
 obtain ⟨el,fr,cs,c,d,h1,h2,h3,h4,h5,rfl⟩:=hO
 obtain rfl:=zDZ h4
 have hl:xs.length ≤ n:=by
  have:=congrArg List.length h3
  simp at this; omega
 refine ⟨el,cs,h1,h2,h5,hl,⟨d,h3⟩,fun j hj=>⟨?_,?_⟩⟩
 ·have:cs.toList[j]? = some (.int .i64 (xs.getD j 0)):=by
   rw [h3,List.getElem?_append_left (by simpa using hj)]
   simp [List.getD,hj]
  simp only [World.cell?,h1]
  simpa using this
 ·simp [World.frozen?,h1]
theorem Rel.intsSet (h:Rel P nt F0 w0 st m F a w) {id b n:Nat} {xs:List Int} (ho:atN st.h id = some (.row (.int .i64) xs false)) (hm:m id = some (b,n)) {i:Nat} (hi:i < xs.length) (v:Int) :
 Rel P nt F0 w0 ⟨st.fr,zf st.h id (.row (.int .i64) (xs.set i v) false)⟩ m F a (w.setCell ⟨b,i,none⟩ (.int .i64 v)):=by
 obtain ⟨el,cs,h1,h2,h3,hl,⟨d,h4⟩,-⟩:=h.ints ho hm
 refine h.turn ho ?_ (fun _=>rfl) rfl rfl rfl (by simp) ?_ ?_ ?_
 ·refine .inr ?_
  simp [Obj.like1,rowTL]
 ·intro b' hb'
  simp only [World.setCell]
  rw [Array.getElem?_modify]
  have:b ≠ b':=fun e=>hb' n (e ▸ hm)
  simp [this]
 ·intro b' n' e
  rw [hm] at e
  cases e
  exact h3
 ·simp only [z6,hm]
  have hw:(w.setCell ⟨b,i,none⟩ (.int .i64 v)).heap[b]? = some (.cells (cs.setIfInBounds i (.int .i64 v)) el (0,0)):=by
   simp only [World.setCell]
   rw [Array.getElem?_modify]
   simp [h1]
  refine ⟨el,(0,0),_,(xs.set i v).map (Value.int .i64),d,hw,by simpa using h2,?_,znx _,h3,rfl⟩
  rw [Array.toList_setIfInBounds,h4,List.set_append_left _ _ (by simpa using hi),List.map_set]
theorem Rel.intsClear {id b n:Nat} (hm:m id = some (b,n)):∀ (k i:Nat) (w:World) (st:St) (xs:List Int),Rel P nt F0 w0 st m F a w→atN st.h id = some (.row (.int .i64) xs false)→i + k ≤ xs.length →
 ∃ xs':List Int,xs'.length = xs.length ∧ xs'.take i = xs.take i ∧ Rel P nt F0 w0 ⟨st.fr,zf st.h id (.row (.int .i64) xs' false)⟩ m F a (w.setCells b i (List.replicate k (.int .i64 0)))
 | 0,i,w,st,xs,h,ho,_=>⟨xs,rfl,rfl,by rw [zqP _ _ _ ho]; exact h⟩
 | k + 1,i,w,st,xs,h,ho,hl=>by
  have h1:=h.intsSet ho hm (i:=i) (by omega) 0
  obtain ⟨xs',e1,e2,h2⟩:=Rel.intsClear hm k (i + 1) _ _ (xs.set i 0) h1 (vw ho) (by simp; omega)
  refine ⟨xs',by simpa using e1,?_,?_⟩
  ·have:=congrArg (List.take i) e2
   rw [List.take_take,List.take_take,Nat.min_eq_left (by omega),List.take_set,List.set_eq_of_length_le (by simp; omega)] at this
   exact this
  ·rw [zeI] at h2
   exact h2
structure zeY (q:Int→Bool) (xs:List Int) (j i:Nat) (ys:List Int):Prop where
 len:ys.length = xs.length
 pre:ys.take i = (xs.take j).filter fun x=>!q x
 high:ys.drop j = xs.drop j
 lt:i < j
 le:j ≤ xs.length
theorem zeY.get {q:Int→Bool} {xs ys:List Int} {j i:Nat} (h:zeY q xs j i ys) {t:Nat} (ht:j ≤ t):ys.getD t 0 = xs.getD t 0:=by
 have:=congrArg (fun l=>l.getD (t - j) 0) h.high
 simpa [List.getD,List.getElem?_drop,show j + (t - j) = t by omega] using this
theorem zeY.start {q:Int→Bool} {xs:List Int} {k:Nat} (hk:k < xs.length) (ht:q (xs.getD k 0) = true) (ha:∀ j,j < k→q (xs.getD j 0) = false):zeY q xs (k + 1) k xs:=by
 refine ⟨rfl,?_,rfl,by omega,by omega⟩
 have hg:xs[k]? = some (xs.getD k 0):=by simp [List.getD,hk]
 have e:xs.take (k + 1) = xs.take k ++ [xs.getD k 0]:=by rw [List.take_add_one,hg]; rfl
 have:(xs.take k).filter (fun x=>!q x) = xs.take k:=by
  rw [List.filter_eq_self]
  intro x hx
  obtain ⟨j,hj,rfl⟩:=List.getElem_of_mem hx
  rw [List.length_take] at hj
  have:=ha j (by omega)
  rw [List.getElem_take]
  have e2:xs.getD j 0 = xs[j]'(by omega):=by simp [List.getD,show j < xs.length by omega]
  rw [e2] at this
  simp [this]
 rw [e,List.filter_append,this]
 generalize xs.getD k 0 = z at ht ⊢
 simp [List.filter_cons,ht]
theorem zeY.skip {q:Int→Bool} {xs ys:List Int} {j i:Nat} (h:zeY q xs j i ys) (hj:j < xs.length) (ht:q (xs.getD j 0) = true):zeY q xs (j + 1) i ys:=by
 have hg:xs[j]? = some (xs.getD j 0):=by simp [List.getD,hj]
 refine ⟨h.len,?_,?_,by have:=h.lt; omega,by omega⟩
 ·rw [h.pre,List.take_add_one,hg,List.filter_append]
  generalize xs.getD j 0 = z at ht ⊢
  simp [List.filter_cons,ht]
 ·have:=congrArg (List.drop 1) h.high
  simpa [List.drop_drop] using this
theorem zeY.keep {q:Int→Bool} {xs ys:List Int} {j i:Nat} (h:zeY q xs j i ys) (hj:j < xs.length) (ht:q (xs.getD j 0) = false):zeY q xs (j + 1) (i + 1) (ys.set i (xs.getD j 0)):=by
 have hg:xs[j]? = some (xs.getD j 0):=by simp [List.getD,hj]
 have hl:=h.lt
 refine ⟨by simpa using h.len,?_,?_,by omega,by omega⟩
 ·rw [List.take_add_one,List.take_set,List.set_eq_of_length_le (by simp; omega),h.pre,List.take_add_one (l:=xs),hg,List.filter_append]
  generalize xs.getD j 0 = z at ht ⊢
  simp [List.filter_cons,ht,h.len,show i < xs.length by omega]
 ·rw [List.drop_set_of_lt (by omega)]
  have:=congrArg (List.drop 1) h.high
  simpa [List.drop_drop] using this
theorem zeY.done {q:Int→Bool} {xs ys:List Int} {i:Nat} (h:zeY q xs xs.length i ys):ys.take i = xs.filter fun x=>!q x:=by rw [h.pre,List.take_length]
theorem Rel.stepF (h:Rel P nt F0 w0 st m F a w) {F2:FH} {w':World} (hb:Below w.heap.size w w') (h2:∀ k c,F2 k = some c→w.heap.size ≤ k→∃ el fz,w'.heap[k]? = some (.cells c el fz)) :
 ∃ F',F.grow F' w.heap.size ∧ Rel P nt F0 w0 st m F' a w':=by
 have hlow:∀ k c',F k = some c'→k < w.heap.size:=fun k c' hk'=>by
  obtain ⟨el,fz,hw⟩:=h.fok _ _ hk'
  exact (Array.getElem?_eq_some_iff.1 hw).1
 have hg:F.grow (fun k=>if k < w.heap.size then F k else F2 k) w.heap.size:=⟨fun k c hk=>by
  show (if k < w.heap.size then F k else F2 k) = some c
  rw [if_pos (hlow k c hk)]; exact hk,fun k hk=>by
  show (if k < w.heap.size then F k else F2 k) = F k
  rw [if_pos hk]⟩
 refine ⟨_,hg,h.step hb hg fun k c hk=>?_⟩
 have hk:(if k < w.heap.size then F k else F2 k) = some c:=hk
 by_cases e:k < w.heap.size
 ·rw [if_pos e] at hk
  obtain ⟨el,fz,hw⟩:=h.fok _ _ hk
  exact ⟨el,fz,(hb.block k e).trans hw⟩
 ·rw [if_neg e] at hk
  exact h2 k c hk (by omega)
theorem Rel.handed (h:Rel P nt F0 w0 st m F a w) {id b n i:Nat} {xs ys:List Int} (ho:atN st.h id = some (.row (.int .i64) xs false)) (hm:m id = some (b,n)) (hy:xs.take i = ys) :
 ∃ m',Rel P nt F0 w0 ⟨st.fr,zf st.h id .gone ++ [.row (.int .i64) ys false]⟩ m' F a w ∧ zh P (zf st.h id .gone ++ [.row (.int .i64) ys false]) m' F (.ow st.h.length) (.slice (some ⟨b,0,none⟩) ys.length n):=by
 obtain ⟨el,cs,h1,h2,h3,hl,⟨d,h4⟩,-⟩:=h.ints ho hm
 have hr:=h.rng _ _ _ hm
 have hk:=(h.kill ho).1
 have hle:ys.length ≤ xs.length:=by rw [← hy]; simp; omega
 have hn:z6 P (zf st.h id .gone ++ [.row (.int .i64) ys false]) ((m.kill id).put2 (zf st.h id .gone).length (some (b,n)) fun _ _=>none) F w (zf st.h id .gone).length (.row (.int .i64) ys false):=by
  simp only [z6,MM.put2_f]
  refine ⟨el,(0,0),cs,ys.map (Value.int .i64),(xs.drop i).map (Value.int .i64) ++ d,h1,h2,?_,znx _,h3,rfl⟩
  rw [h4,← List.append_assoc,← List.map_append,← hy,List.take_append_drop]
 have ha:=hk.adopt (o:=.row (.int .i64) ys false) (w':=w) (x:=some (b,n)) (D:=fun _ _=>none) rfl rfl rfl (Nat.le_refl _) (fun _ _ _=>rfl) (fun b' n' e=>by
  cases e
  refine ⟨hr.2.1,hr.2.2,h3,fun i n' hi=>?_,fun i j p n' hp=>?_⟩
  ·obtain ⟨hne,hi⟩:=MM.kill_f hi
   exact hne (h.inj _ _ _ _ _ hi hm)
  ·exact (h.dok _ _ _ _ _ (MM.kill_d hp).2).2.2.2.2 _ _ hm) (fun _ _ _ _ e=>by cases e) (fun _ _ _ _ _ _ _ e=>by cases e) hn
 refine ⟨_,ha.1,.inr ⟨.row (.int .i64) ys false,.int .i64,ys.length,?_,rfl,?_⟩⟩
 ·have:=ju (zf st.h id .gone) (.row (.int .i64) ys false)
  rwa [zko] at this
 ·rw [← zko st.h id .gone,MM.put2_f]
  exact ⟨n,by simp [nc],by omega,rfl⟩
theorem Rel.handed0 (h:Rel P nt F0 w0 st m F a w) {id:Nat} (ho:atN st.h id = some (.row (.int .i64) [] false)) :
 ∃ m',Rel P nt F0 w0 ⟨st.fr,zf st.h id .gone ++ [.row (.int .i64) [] false]⟩ m' F a w ∧ ∀ ad,zh P (zf st.h id .gone ++ [.row (.int .i64) [] false]) m' F (.ow st.h.length) (.slice ad 0 0):=by
 have hk:=(h.kill ho).1
 have ha:=hk.adopt (o:=.row (.int .i64) [] false) (w':=w) (x:=none) (D:=fun _ _=>none) rfl rfl rfl (Nat.le_refl _) (fun _ _ _=>rfl) (fun b' n' e=>by cases e) (fun _ _ _ _ e=>by cases e) (fun _ _ _ _ _ _ _ e=>by cases e) (by simp only [z6,MM.put2_f])
 refine ⟨_,ha.1,fun ad=>.inr ⟨.row (.int .i64) [] false,.int .i64,0,?_,rfl,?_⟩⟩
 ·have:=ju (zf st.h id .gone) (.row (.int .i64) [] false)
  rwa [zko] at this
 ·rw [← zko st.h id .gone,MM.put2_f]
  exact ⟨rfl,ad,rfl⟩
end
abbrev Env.del (E:Env) (f:Nat):Env:={ E with hnd:=fun i=>cond (Nat.beq f i) (some zx4) none }
theorem EnvOk.del {P:Program} {G:FH} {E:Env} {f:Nat} (hE:EnvOk P G E) (h:zDr P G f zx4):EnvOk P G (E.del f):=⟨hE.types,hE.funs,hE.glob,hE.ext,fun i H e=>by
 have e:cond (Nat.beq f i) (some zx4) none = some H:=e
 cases hb:Nat.beq f i with
 | false=>rw [hb] at e; cases e
 | true =>
  rw [hb] at e
  cases e
  rw [← Nat.eq_of_beq_eq_true hb]
  exact h⟩
theorem zD0 {p:Int→Bool}:∀ (l:List Int) (i:Nat),(qu p l (i:Int) = -1 ∧ ∀ j,j < l.length→p (l.getD j 0) = false) ∨ ∃ k:Nat,k < l.length ∧ qu p l (i:Int) = ((i + k:Nat):Int) ∧ p (l.getD k 0) = true ∧ ∀ j,j < k→p (l.getD j 0) = false
 | [],_=>.inl ⟨rfl,fun j hj=>by simp at hj⟩
 | x :: l,i=>by
  simp only [qu]
  cases hp:p x with
  | true=>exact .inr ⟨0,by simp,rfl,hp,fun j hj=>by omega⟩
  | false =>
   simp only [cond_false]
   have e:((i:Int) + 1) = ((i + 1:Nat):Int):=by omega
   rw [e]
   rcases zD0 l (i + 1) with ⟨h1,h2⟩ | ⟨k,h1,h2,h3,h4⟩
   ·refine .inl ⟨h1,fun j hj=>?_⟩
    cases j with
    | zero=>exact hp
    | succ j=>exact h2 j (by simpa using hj)
   ·refine .inr ⟨k + 1,by simpa using h1,by rw [h2]; omega,h3,fun j hj=>?_⟩
    cases j with
    | zero=>exact hp
    | succ j=>exact h4 j (by omega)
end Go.Ev
end
section
namespace Go.Proofs.YtkcakhbkoeimdaaGreatDoor
open Go.Ev
abbrev tMe:Ty:=.st (.pair (.int .i64) (.pair (.int .i64) (.pair (.int .i64) .unit)))
abbrev pMe:Type:=(Int × (Int × (Int × Unit)))
abbrev jI:Ty:=.st (.pair (.int .i64) (.pair (.int .i64) (.pair (.int .i64) (.pair (.int .i64) (.pair .str .unit)))))
abbrev vq:Type:=(Int × (Int × (Int × (Int × (ByteArray × Unit)))))
abbrev zu:Ty:=.st (.pair .bool (.pair (.int .i64) (.pair (.int .i64) (.pair (.int .i64) (.pair .str .unit)))))
abbrev zm:Type:=(Bool × (Int × (Int × (Int × (ByteArray × Unit)))))
abbrev vP:zm:=ze zu
abbrev zn:Ty:=.st (.pair (.int .i64) (.pair (.int .u64) .unit))
abbrev zo:Type:=(Int × (Int × Unit))
abbrev zA:zo:=ze zn
abbrev zq:Ty:=.st (.pair .bool (.pair (.int .i64) (.pair (.int .i64) (.pair (.int .i64) (.pair (.int .i64) (.pair (.int .i64) (.pair (.int .u64) (.pair (.int .u64) (.pair (.int .u64) (.pair (.int .i64) .unit))))))))))
abbrev zr:Type:=(Bool × (Int × (Int × (Int × (Int × (Int × (Int × (Int × (Int × (Int × Unit))))))))))
abbrev qt:zr:=ze zq
abbrev zy:Ty:=.st (.pair (.int .u64) (.pair (.int .i64) (.pair (.int .i64) (.pair (.int .i64) (.pair (.int .i64) (.pair (.int .i64) (.pair (.int .i64) (.pair (.int .u64) (.pair (.int .u64) (.pair (.int .i64) .unit))))))))))
abbrev zH:Type:=(Int × (Int × (Int × (Int × (Int × (Int × (Int × (Int × (Int × (Int × Unit))))))))))
abbrev zh1:zH:=ze zy
abbrev qn:Ty:=.st (.pair .bool (.pair .str .unit))
abbrev ja:Type:=(Bool × (ByteArray × Unit))
abbrev zuw:ja:=ze qn
abbrev zR:Ty:=.st (.pair (.int .i64) (.pair (.int .i64) .unit))
abbrev j9:Type:=(Int × (Int × Unit))
abbrev zM7:j9:=ze zR
abbrev z4:Ty:=.st (.pair .bool (.pair zR (.pair zR (.pair (.int .i64) .unit))))
abbrev qg:Type:=(Bool × (j9 × (j9 × (Int × Unit))))
abbrev vU:qg:=ze z4
abbrev zZ:Ty:=.st (.pair .bool (.pair .str (.pair (.int .i64) (.pair (.int .i64) (.pair zR .unit)))))
abbrev qb:Type:=(Bool × (ByteArray × (Int × (Int × (j9 × Unit)))))
abbrev zd1:qb:=ze zZ
abbrev zd2:Ty:=.st (.pair (.int .i64) (.pair (.int .u64) (.pair (.int .i64) .unit)))
abbrev zly:Type:=(Int × (Int × (Int × Unit)))
abbrev zz:Ty:=.st (.pair .bool (.pair (.int .i64) (.pair (.int .i64) (.pair zd2 (.pair zd2 .unit)))))
abbrev zw:Type:=(Bool × (Int × (Int × (zly × (zly × Unit)))))
abbrev qT:zw:=ze zz
abbrev jf:Ty:=.st (.pair (.int .i64) (.pair (.int .i64) .unit))
abbrev zN:Type:=(Int × (Int × Unit))
abbrev zD:zN:=ze jf
abbrev zdj:Ty:=.st (.pair (.int .i64) (.pair (.int .i64) (.pair (.int .i64) (.pair (.int .i64) (.pair (.int .i64) (.pair (.int .u64) .unit))))))
abbrev zcb:Type:=(Int × (Int × (Int × (Int × (Int × (Int × Unit))))))
abbrev va:zcb:=ze zdj
abbrev qN:Ty:=.st (.pair .str (.pair .str (.pair (.int .i64) (.pair .bool .unit))))
abbrev qO:Type:=(ByteArray × (ByteArray × (Int × (Bool × Unit))))
abbrev zfi:qO:=ze qN
abbrev j3:Ty:=.st (.pair (.sl zu) (.pair (.fn (.pair zu .unit) (.pair .bool .unit)) .unit))
abbrev yp:Type:=((List zm) × ((Option ((zm × Unit)→Option (Bool × Unit))) × Unit))
abbrev vV:Ty:=.st (.pair (.sl zz) (.pair (.fn (.pair zz .unit) (.pair .bool .unit)) .unit))
abbrev zcc:Type:=((List zw) × ((Option ((zw × Unit)→Option (Bool × Unit))) × Unit))
abbrev zux:Ty:=.st (.pair (.int .i64) (.pair (.int .i64) (.pair zR .unit)))
abbrev zuy:Type:=(Int × (Int × (j9 × Unit)))
abbrev zla:Ty:=.st (.pair (.int .u8) (.pair (.int .u8) .unit))
abbrev yZ:Ty:=.st (.pair (.sl zq) (.pair (.fn (.pair zq .unit) (.pair .bool .unit)) .unit))
abbrev zd3:Type:=((List zr) × ((Option ((zr × Unit)→Option (Bool × Unit))) × Unit))
abbrev zl:Ty:=.st (.pair (.sl zn) (.pair (.sl (.int .i64)) (.pair (.sl qN) (.pair (.sl jf) (.pair (.sl zdj) (.pair (.int .i64) (.pair (.int .i64) (.pair (.int .i64) (.pair (.int .i64) .unit)))))))))
abbrev za:Type:=((List zo) × ((List Int) × ((List qO) × ((List zN) × ((List zcb) × (Int × (Int × (Int × (Int × Unit)))))))))
abbrev zp:Ty:=.st (.pair (.sl qn) (.pair (.sl z4) (.pair (.sl zZ) (.pair (.sl zu) (.pair (.sl zz) (.pair (.sl (.arr 4 (.int .u64))) (.pair (.sl zR) (.pair (.arr 4 (.int .u64)) (.pair (.arr 4 (.int .u64)) .unit)))))))))
abbrev zi:Type:=((List ja) × ((List qg) × ((List qb) × ((List zm) × ((List zw) × ((List (List Int)) × ((List j9) × ((List Int) × ((List Int) × Unit)))))))))
abbrev zg:zi:=ze zp
abbrev zx:Ty:=.st (.pair (.int .u64) (.pair (.sl zp) (.pair (.sl (.sl (.int .i64))) (.pair (.sl zq) (.pair (.sl zy) (.pair (.sl (.int .i64)) .unit))))))
abbrev zd:Type:=(Int × ((List zi) × ((List (List Int)) × ((List zr) × ((List zH) × ((List Int) × Unit))))))
abbrev qk:Ty:=.st (.pair zl (.pair zx .unit))
abbrev qL:Type:=(za × (zd × Unit))
def types:TT:=(.node (.node (.node (.node (.node (.node (.node (.node (.node .nil 1 (.fn .unit .unit) .nil) 2 (.int .i64) .nil) 3 (.int .i64) (.node .nil 4 .bool .nil)) 5 (.int .u8) (.node (.node (.node .nil 6 (.int .u8) .nil) 7 (.st (.pair (.int .i64) (.pair (.int .i64) (.pair .bool (.pair (.int .u8) .unit))))) .nil) 8 (.st (.pair (.int .i64) (.pair (.int .i64) (.pair .bool (.pair (.int .u8) .unit))))) (.node .nil 9 .str .nil))) 10 .str (.node (.node (.node (.node .nil 11 .str .nil) 12 (.int .u64) .nil) 21 (.int .i32) (.node .nil 22 (.sl zn) .nil)) 23 (.sl (.int .i64)) (.node (.node (.node .nil 24 (.sl qN) .nil) 25 (.sl jf) .nil) 26 (.sl zdj) (.node .nil 27 (.st (.pair (.sl zn) (.pair (.sl (.int .i64)) (.pair (.sl qN) (.pair (.sl jf) (.pair (.sl zdj) (.pair (.int .i64) (.pair (.int .i64) (.pair (.int .i64) (.pair (.int .i64) .unit)))))))))) .nil)))) 28 zl (.node (.node (.node (.node (.node .nil 29 (.int .u64) .nil) 30 (.sl zp) .nil) 31 (.sl (.sl (.int .i64))) (.node .nil 32 (.sl zq) .nil)) 33 (.sl zy) (.node (.node (.node .nil 34 (.st (.pair (.int .u64) (.pair (.sl zp) (.pair (.sl (.sl (.int .i64))) (.pair (.sl zq) (.pair (.sl zy) (.pair (.sl (.int .i64)) .unit))))))) .nil) 35 zx .nil) 36 (.st (.pair (.int .i64) (.pair (.int .i64) (.pair (.int .i64) .unit)))) (.node .nil 37 tMe .nil))) 38 (.st (.pair (.int .i64) (.pair (.int .i64) (.pair (.int .i64) (.pair (.int .i64) (.pair .str .unit)))))) (.node (.node (.node (.node .nil 39 jI .nil) 40 (.fn (.pair zx .unit) (.pair zx .unit)) .nil) 41 (.int .i64) (.node .nil 43 (.fn (.pair zl (.pair zx (.pair tMe (.pair (.int .i64) (.pair (.int .i64) (.pair .str .unit)))))) (.pair zx (.pair (.int .i64) .unit))) .nil)) 44 (.fn (.pair zl (.pair zx (.pair tMe (.pair (.int .i64) .unit)))) (.pair zx (.pair (.int .i64) .unit))) (.node (.node (.node .nil 45 (.st (.pair .bool (.pair (.int .i64) (.pair (.int .i64) (.pair (.int .i64) (.pair .str .unit)))))) .nil) 46 zu .nil) 48 (.fn (.pair zl (.pair zx (.pair tMe (.pair (.int .i64) .unit)))) (.pair zu (.pair (.int .i64) .unit))) (.node .nil 50 (.fn (.pair zl (.pair zx (.pair tMe .unit))) (.pair (.sl (.int .i64)) (.pair (.int .i64) .unit))) .nil))))) 51 (.fn (.pair zl (.pair zx (.pair tMe .unit))) (.pair .bool .unit)) (.node (.node (.node (.node (.node (.node .nil 52 (.fn (.pair (.sl (.int .i64)) (.pair (.sl (.int .i64)) .unit)) (.pair .bool .unit)) .nil) 53 (.fn (.pair (.sl zu) (.pair (.int .i64) .unit)) (.pair (.sl (.int .i64)) .unit)) .nil) 54 (.sl qn) (.node .nil 55 (.sl z4) .nil)) 56 (.sl zZ) (.node (.node (.node .nil 57 (.sl zu) .nil) 58 (.sl zz) .nil) 59 (.sl (.arr 4 (.int .u64))) (.node .nil 60 (.sl zR) .nil))) 61 (.arr 4 (.int .u64)) (.node (.node (.node (.node .nil 62 (.st (.pair (.sl qn) (.pair (.sl z4) (.pair (.sl zZ) (.pair (.sl zu) (.pair (.sl zz) (.pair (.sl (.arr 4 (.int .u64))) (.pair (.sl zR) (.pair (.arr 4 (.int .u64)) (.pair (.arr 4 (.int .u64)) .unit)))))))))) .nil) 63 zp .nil) 64 (.fn .unit (.pair .bool .unit)) (.node .nil 65 (.fn (.pair zx (.pair zx .unit)) (.pair .bool .unit)) .nil)) 66 (.fn (.pair zl (.pair zx (.pair tMe (.pair jI .unit)))) (.pair .bool .unit)) (.node (.node (.node .nil 67 (.fn (.pair zl (.pair zx (.pair tMe (.pair .str .unit)))) (.pair (.sl (.int .i64)) (.pair (.int .i64) .unit))) .nil) 68 (.fn (.pair zl (.pair zx (.pair tMe (.pair (.int .i64) (.pair .str .unit))))) (.pair (.sl (.int .i64)) (.pair (.int .i64) .unit))) .nil) 69 (.fn (.pair zl (.pair zx (.pair tMe (.pair (.int .i64) (.pair (.int .i64) .unit))))) (.pair zx (.pair (.int .i64) .unit))) (.node .nil 70 (.fn (.pair zl (.pair zx (.pair tMe (.pair (.int .i64) .unit)))) (.pair (.sl (.int .i64)) (.pair (.int .i64) .unit))) .nil)))) 71 (.st (.pair (.int .i64) (.pair (.int .u64) .unit))) (.node (.node (.node (.node (.node .nil 72 zn .nil) 73 (.fn (.pair zl (.pair zx (.pair tMe (.pair jI .unit)))) (.pair zx (.pair (.int .i64) .unit))) .nil) 74 (.fn (.pair zl (.pair zx .unit)) (.pair .bool .unit)) (.node .nil 75 (.fn (.pair zn (.pair zn .unit)) (.pair .bool .unit)) .nil)) 76 (.fn (.pair zn .unit) (.pair .bool .unit)) (.node (.node (.node .nil 77 (.fn (.pair zl (.pair zx (.pair zx (.pair zn .unit)))) (.pair .bool .unit)) .nil) 78 (.fn (.pair zl (.pair (.sl (.int .i64)) (.pair zn .unit))) (.pair (.sl (.int .i64)) .unit)) .nil) 79 (.fn (.pair zl (.pair zx (.pair tMe (.pair jI (.pair zn .unit))))) (.pair .bool .unit)) (.node .nil 80 (.fn (.pair zl (.pair zx (.pair zx (.pair tMe (.pair jI (.pair zn .unit)))))) (.pair .bool .unit)) .nil))) 81 (.fn (.pair (.sl zq) .unit) (.pair (.sl zq) .unit)) (.node (.node (.node (.node .nil 82 (.st (.pair .bool (.pair (.int .i64) (.pair (.int .i64) (.pair (.int .i64) (.pair (.int .i64) (.pair (.int .i64) (.pair (.int .u64) (.pair (.int .u64) (.pair (.int .u64) (.pair (.int .i64) .unit))))))))))) .nil) 83 zq .nil) 84 (.fn (.pair (.sl zy) .unit) (.pair (.sl zy) .unit)) (.node .nil 85 (.st (.pair (.int .u64) (.pair (.int .i64) (.pair (.int .i64) (.pair (.int .i64) (.pair (.int .i64) (.pair (.int .i64) (.pair (.int .i64) (.pair (.int .u64) (.pair (.int .u64) (.pair (.int .i64) .unit))))))))))) .nil)) 86 zy (.node (.node (.node .nil 87 (.fn (.pair (.sl (.int .i64)) .unit) (.pair (.sl (.int .i64)) .unit)) .nil) 88 (.fn (.pair (.sl (.sl (.int .i64))) .unit) (.pair (.sl (.sl (.int .i64))) .unit)) .nil) 89 (.fn (.pair (.sl zp) .unit) (.pair (.sl zp) .unit)) (.node .nil 90 (.fn (.pair (.sl qn) .unit) (.pair (.sl qn) .unit)) .nil)))))) 91 (.st (.pair .bool (.pair .str .unit))) (.node (.node (.node (.node (.node (.node (.node .nil 92 qn .nil) 93 (.fn (.pair (.sl z4) .unit) (.pair (.sl z4) .unit)) .nil) 94 (.st (.pair (.int .i64) (.pair (.int .i64) .unit))) (.node .nil 95 zR .nil)) 96 (.st (.pair .bool (.pair zR (.pair zR (.pair (.int .i64) .unit))))) (.node (.node (.node .nil 97 z4 .nil) 98 (.fn (.pair (.sl zZ) .unit) (.pair (.sl zZ) .unit)) .nil) 99 (.st (.pair .bool (.pair .str (.pair (.int .i64) (.pair (.int .i64) (.pair zR .unit)))))) (.node .nil 100 zZ .nil))) 101 (.fn (.pair (.sl zu) .unit) (.pair (.sl zu) .unit)) (.node (.node (.node (.node .nil 102 (.fn (.pair (.sl zz) .unit) (.pair (.sl zz) .unit)) .nil) 103 (.st (.pair (.int .i64) (.pair (.int .u64) (.pair (.int .i64) .unit)))) .nil) 104 zd2 (.node .nil 105 (.st (.pair .bool (.pair (.int .i64) (.pair (.int .i64) (.pair zd2 (.pair zd2 .unit)))))) .nil)) 106 zz (.node (.node (.node .nil 107 (.fn (.pair (.sl (.arr 4 (.int .u64))) .unit) (.pair (.sl (.arr 4 (.int .u64))) .unit)) .nil) 108 (.fn (.pair (.sl zR) .unit) (.pair (.sl zR) .unit)) .nil) 109 (.fn (.pair zl (.pair (.int .i64) (.pair (.int .i64) .unit))) (.pair .bool .unit)) (.node .nil 111 (.fn (.pair (.sl zu) (.pair zu .unit)) (.pair (.sl zu) (.pair (.int .i64) (.pair (.int .i64) .unit)))) .nil)))) 112 (.fn (.pair .str .unit) (.pair .bool .unit)) (.node (.node (.node (.node (.node .nil 113 (.fn (.pair zx (.pair (.int .i64) (.pair zp .unit))) (.pair zx .unit)) .nil) 115 (.fn (.pair (.sl zu) (.pair (.int .i64) (.pair (.int .i64) .unit))) (.pair (.sl zu) (.pair (.int .i64) .unit))) .nil) 116 (.fn (.pair zx (.pair tMe .unit)) (.pair (.sl zu) .unit)) (.node .nil 117 (.fn (.pair (.sl zu) (.pair (.int .i64) (.pair (.int .i64) .unit))) (.pair zu (.pair (.int .i64) .unit))) .nil)) 118 (.fn (.pair (.sl zu) (.pair (.int .i64) (.pair (.int .i64) .unit))) (.pair .bool .unit)) (.node (.node (.node .nil 119 (.fn (.pair zl (.pair tMe .unit)) (.pair .bool .unit)) .nil) 120 (.fn .unit (.pair zl .unit)) .nil) 121 (.fn (.pair zl .unit) (.pair zx (.pair (.int .i64) .unit))) (.node .nil 122 (.fn (.pair (.sl (.sl (.int .i64))) (.pair (.sl (.sl (.int .i64))) .unit)) (.pair .bool .unit)) .nil))) 123 (.fn (.pair (.sl zq) (.pair (.sl zq) .unit)) (.pair .bool .unit)) (.node (.node (.node (.node .nil 124 (.fn (.pair (.sl zy) (.pair (.sl zy) .unit)) (.pair .bool .unit)) .nil) 125 (.fn (.pair zp (.pair zp .unit)) (.pair .bool .unit)) .nil) 126 (.fn (.pair tMe .unit) (.pair zR .unit)) (.node .nil 127 (.fn (.pair zl (.pair zx (.pair tMe (.pair (.fn (.pair tMe .unit) (.pair .bool .unit)) .unit)))) (.pair (.sl (.int .i64)) .unit)) .nil)) 128 (.fn (.pair tMe .unit) (.pair .bool .unit)) (.node (.node (.node .nil 129 (.fn (.pair zl (.pair zx (.pair tMe (.pair .bool .unit)))) (.pair (.sl (.int .i64)) .unit)) .nil) 130 (.fn (.pair zl (.pair (.int .i64) .unit)) (.pair .bool .unit)) .nil) 131 (.fn (.pair (.sl (.int .i64)) (.pair (.int .i64) .unit)) (.pair .bool .unit)) (.node .nil 132 (.fn (.pair zl (.pair (.int .i64) .unit)) (.pair (.sl (.int .i64)) .unit)) .nil))))) 133 (.fn (.pair zn (.pair (.int .i64) .unit)) (.pair .bool .unit)) (.node (.node (.node (.node (.node (.node .nil 134 (.st (.pair (.int .i64) (.pair (.int .i64) .unit))) .nil) 135 jf .nil) 137 (.fn (.pair zl (.pair (.sl (.sl (.int .i64))) (.pair (.int .i64) (.pair (.int .i64) (.pair (.int .i64) .unit))))) (.pair (.sl (.sl (.int .i64))) (.pair (.int .i64) .unit))) (.node .nil 138 (.fn (.pair zl (.pair (.sl (.sl (.int .i64))) (.pair (.int .i64) (.pair (.int .i64) (.pair (.int .i64) (.pair (.int .i64) .unit)))))) (.pair (.sl (.sl (.int .i64))) (.pair (.int .i64) .unit))) .nil)) 139 (.fn (.pair zl (.pair (.int .i64) .unit)) (.pair (.int .i64) .unit)) (.node (.node (.node .nil 140 (.st (.pair zl (.pair zx .unit))) .nil) 141 qk .nil) 142 (.sl (.fn .unit (.pair .bool .unit))) (.node .nil 143 (.fn (.pair zl (.pair zx (.pair zn .unit))) (.pair zx (.pair (.int .i64) .unit))) .nil))) 144 (.fn (.pair zl (.pair (.int .i64) (.pair zn .unit))) (.pair .bool .unit)) (.node (.node (.node (.node .nil 145 (.fn (.pair (.sl zu) .unit) (.pair .bool .unit)) .nil) 146 (.fn (.pair zu .unit) (.pair .bool .unit)) .nil) 147 (.ptr j3) (.node .nil 148 (.fn (.pair (.sl zu) .unit) (.pair (.ptr j3) .unit)) .nil)) 149 (.fn (.pair zu .unit) (.pair (.sl zu) (.pair (.int .i64) (.pair (.int .i64) .unit)))) (.node (.node (.node .nil 150 (.fn (.pair (.int .u8) .unit) (.pair .bool .unit)) .nil) 151 (.fn (.pair (.int .i64) .unit) (.pair .bool .unit)) .nil) 152 (.fn (.pair (.int .i64) (.pair zu .unit)) (.pair (.sl zu) (.pair (.int .i64) .unit))) (.node .nil 153 (.fn (.pair (.sl (.int .i64)) (.pair (.fn (.pair (.int .i64) .unit) (.pair .bool .unit)) .unit)) (.pair (.sl (.int .i64)) .unit)) .nil)))) 154 (.fn .unit (.pair (.sl (.int .i64)) .unit)) (.node (.node (.node (.node (.node .nil 155 (.fn (.pair zl .unit) (.pair .bool .unit)) .nil) 156 (.fn (.pair zl (.pair zx (.pair (.int .i64) .unit))) (.pair .bool .unit)) .nil) 157 (.st (.pair (.int .i64) (.pair (.int .i64) (.pair (.int .i64) (.pair (.int .i64) (.pair (.int .i64) (.pair (.int .u64) .unit))))))) (.node .nil 158 zdj .nil)) 160 (.fn (.pair zx (.pair (.int .i64) .unit)) (.pair (.int .u64) (.pair (.int .i64) .unit))) (.node (.node (.node .nil 161 (.st (.pair .str (.pair .str (.pair (.int .i64) (.pair .bool .unit))))) .nil) 162 qN .nil) 163 (.fn (.pair zl .unit) (.pair (.sl (.sl (.int .i64))) .unit)) (.node .nil 164 (.fn (.pair zl (.pair zdj .unit)) (.pair zp .unit)) .nil))) 165 (.fn (.pair (.sl qn) (.pair (.sl qn) .unit)) (.pair .bool .unit)) (.node (.node (.node (.node .nil 166 (.fn (.pair (.sl z4) (.pair (.sl z4) .unit)) (.pair .bool .unit)) .nil) 167 (.fn (.pair (.sl zZ) (.pair (.sl zZ) .unit)) (.pair .bool .unit)) .nil) 168 (.fn (.pair (.sl zu) (.pair (.sl zu) .unit)) (.pair .bool .unit)) (.node .nil 169 (.fn (.pair (.sl zz) (.pair (.sl zz) .unit)) (.pair .bool .unit)) .nil)) 170 (.fn (.pair .str (.pair (.fn (.pair (.int .u8) .unit) (.pair .bool .unit)) .unit)) (.pair .bool .unit)) (.node (.node .nil 171 (.fn (.pair .str (.pair .str .unit)) (.pair .str .unit)) .nil) 172 (.fn (.pair zl (.pair zx (.pair tMe (.pair (.int .i64) (.pair .bool .unit))))) (.pair .bool .unit)) (.node .nil 173 (.fn (.pair (.sl (.int .i64)) (.pair (.int .i64) .unit)) (.pair (.int .i64) .unit)) .nil))))))) 174 (.fn (.pair zn .unit) (.pair (.sl (.int .i64)) .unit)) (.node (.node (.node (.node (.node (.node (.node (.node .nil 175 (.int .u64) .nil) 176 (.fn (.pair zl (.pair (.sl (.sl (.int .i64))) (.pair (.int .i64) (.pair (.int .i64) (.pair (.int .i64) (.pair (.fn (.pair (.int .i64) (.pair .bool .unit)) (.pair (.int .i64) (.pair (.int .i64) .unit))) .unit)))))) (.pair (.sl (.sl (.int .i64))) (.pair (.int .i64) .unit))) .nil) 177 (.fn (.pair (.int .i64) (.pair .bool .unit)) (.pair (.int .i64) (.pair (.int .i64) .unit))) (.node .nil 178 (.fn (.pair zl (.pair (.sl (.sl (.int .i64))) .unit)) (.pair .bool .unit)) .nil)) 179 (.fn (.pair zl (.pair (.sl (.sl (.int .i64))) (.pair (.int .i64) (.pair (.int .i64) .unit)))) (.pair .bool .unit)) (.node (.node (.node .nil 180 (.fn (.pair (.sl (.sl (.int .i64))) (.pair (.int .i64) (.pair (.int .i64) (.pair (.int .i64) .unit)))) (.pair (.sl (.sl (.int .i64))) .unit)) .nil) 181 (.fn (.pair (.int .i64) (.pair (.int .i64) (.pair (.int .i64) .unit))) (.pair .bool .unit)) .nil) 183 (.fn (.pair (.int .i64) .unit) (.pair zn (.pair (.int .i64) .unit))) (.node .nil 184 (.fn (.pair zl (.pair zn .unit)) (.pair (.int .i64) .unit)) .nil))) 185 (.fn (.pair (.sl zp) (.pair (.fn (.pair zp .unit) (.pair .bool .unit)) .unit)) (.pair .bool .unit)) (.node (.node (.node (.node .nil 186 (.fn (.pair (.sl qn) .unit) (.pair .bool .unit)) .nil) 187 (.fn (.pair (.sl z4) .unit) (.pair .bool .unit)) .nil) 188 (.fn (.pair (.sl zZ) .unit) (.pair .bool .unit)) (.node .nil 189 (.fn (.pair (.sl zz) .unit) (.pair .bool .unit)) .nil)) 190 (.fn (.pair zp .unit) (.pair .bool .unit)) (.node (.node (.node .nil 191 (.fn (.pair (.sl zq) .unit) (.pair .bool .unit)) .nil) 192 (.fn (.pair (.sl zy) .unit) (.pair .bool .unit)) .nil) 193 (.fn (.pair zx (.pair zR .unit)) (.pair .bool .unit)) (.node .nil 194 (.fn (.pair (.sl zq) (.pair (.fn (.pair zq .unit) (.pair .bool .unit)) .unit)) (.pair .bool .unit)) .nil)))) 195 (.fn (.pair zq .unit) (.pair .bool .unit)) (.node (.node (.node (.node (.node .nil 196 (.fn (.pair (.sl zy) (.pair (.fn (.pair zy .unit) (.pair .bool .unit)) .unit)) (.pair .bool .unit)) .nil) 197 (.fn (.pair zy .unit) (.pair .bool .unit)) .nil) 198 (.fn (.pair (.sl (.int .i64)) (.pair (.fn (.pair (.int .i64) .unit) (.pair .bool .unit)) .unit)) (.pair .bool .unit)) (.node .nil 199 (.fn (.pair zR .unit) (.pair .bool .unit)) .nil)) 200 (.fn (.pair (.int .i64) .unit) (.pair (.fn (.pair zR .unit) (.pair .bool .unit)) .unit)) (.node (.node (.node .nil 201 (.fn (.pair (.sl z4) (.pair (.fn (.pair z4 .unit) (.pair .bool .unit)) .unit)) (.pair .bool .unit)) .nil) 202 (.fn (.pair z4 .unit) (.pair .bool .unit)) .nil) 203 (.fn (.pair (.sl zZ) (.pair (.fn (.pair zZ .unit) (.pair .bool .unit)) .unit)) (.pair .bool .unit)) (.node .nil 204 (.fn (.pair zZ .unit) (.pair .bool .unit)) .nil))) 205 (.fn (.pair (.sl zR) (.pair (.fn (.pair zR .unit) (.pair .bool .unit)) .unit)) (.pair .bool .unit)) (.node (.node (.node (.node .nil 206 (.fn (.pair (.sl zu) (.pair (.fn (.pair zu .unit) (.pair .bool .unit)) .unit)) (.pair .bool .unit)) .nil) 207 (.fn (.pair (.int .i64) (.pair (.int .i64) .unit)) (.pair .bool .unit)) .nil) 208 (.fn (.pair (.sl zz) (.pair (.fn (.pair zz .unit) (.pair .bool .unit)) .unit)) (.pair .bool .unit)) (.node .nil 209 (.fn (.pair zz .unit) (.pair .bool .unit)) .nil)) 210 (.ptr vV) (.node (.node (.node .nil 211 (.fn (.pair (.sl zz) (.pair (.fn (.pair zz .unit) (.pair .bool .unit)) .unit)) (.pair (.ptr vV) .unit)) .nil) 212 (.fn (.pair (.sl zp) (.pair (.sl zp) (.pair (.fn (.pair (.int .i64) .unit) (.pair .bool .unit)) .unit))) (.pair (.sl zp) .unit)) .nil) 213 (.fn (.pair (.sl (.sl (.int .i64))) (.pair (.sl (.sl (.int .i64))) (.pair (.fn (.pair (.int .i64) .unit) (.pair .bool .unit)) .unit))) (.pair (.sl (.sl (.int .i64))) .unit)) (.node .nil 214 (.fn (.pair (.sl (.int .i64)) (.pair (.sl (.int .i64)) (.pair (.fn (.pair (.int .i64) .unit) (.pair .bool .unit)) .unit))) (.pair (.sl (.int .i64)) .unit)) .nil))))) 215 (.fn (.pair (.sl zp) (.pair (.sl zp) (.pair (.fn (.pair zp (.pair zp .unit)) (.pair .bool .unit)) .unit))) (.pair .bool .unit)) (.node (.node (.node (.node (.node (.node .nil 216 (.fn (.pair (.sl (.sl (.int .i64))) (.pair (.sl (.sl (.int .i64))) (.pair (.fn (.pair (.sl (.int .i64)) (.pair (.sl (.int .i64)) .unit)) (.pair .bool .unit)) .unit))) (.pair .bool .unit)) .nil) 217 (.fn (.pair zl (.pair zn .unit)) (.pair (.sl (.int .i64)) .unit)) .nil) 218 (.fn (.pair (.sl zu) (.pair (.fn (.pair zu .unit) (.pair .bool .unit)) .unit)) (.pair (.ptr j3) .unit)) (.node .nil 220 (.fn .unit (.pair (.int .i64) (.pair (.int .i64) .unit))) .nil)) 221 (.st (.pair (.sl zu) (.pair (.fn (.pair zu .unit) (.pair .bool .unit)) .unit))) (.node (.node (.node .nil 222 j3 .nil) 223 (.fn (.pair (.sl (.int .i64)) (.pair (.fn (.pair (.int .i64) .unit) (.pair .bool .unit)) .unit)) (.pair (.int .i64) .unit)) .nil) 224 (.fn (.pair (.sl zn) .unit) (.pair .bool .unit)) (.node .nil 225 (.fn (.pair (.sl qN) .unit) (.pair .bool .unit)) .nil))) 226 (.fn (.pair (.sl jf) (.pair (.sl zn) (.pair (.int .i64) .unit))) (.pair .bool .unit)) (.node (.node (.node (.node .nil 227 (.fn (.pair (.sl zdj) .unit) (.pair .bool .unit)) .nil) 228 (.fn (.pair zl (.pair zx (.pair zR (.pair (.int .i64) .unit)))) (.pair .bool .unit)) .nil) 229 (.fn (.pair zl (.pair zx (.pair (.int .i64) (.pair (.int .i64) .unit)))) (.pair .bool .unit)) (.node .nil 230 (.fn (.pair zl (.pair zp (.pair (.int .i64) .unit))) (.pair .bool .unit)) .nil)) 231 (.fn (.pair (.sl zq) (.pair (.int .i64) .unit)) (.pair (.int .u64) (.pair (.int .i64) .unit))) (.node (.node (.node .nil 232 (.fn (.pair (.sl zz) (.pair (.int .i64) .unit)) (.pair (.int .u64) (.pair (.int .i64) .unit))) .nil) 233 (.fn (.pair (.int .u64) (.pair (.int .u64) .unit)) (.pair (.int .u64) (.pair (.int .i64) .unit))) .nil) 234 (.sl (.fn (.pair zl .unit) (.pair .bool .unit))) (.node .nil 235 (.fn (.pair (.sl (.int .u8)) (.pair (.fn (.pair (.int .u8) .unit) (.pair .bool .unit)) .unit)) (.pair .bool .unit)) .nil)))) 236 (.sl (.int .u8)) (.node (.node (.node (.node (.node .nil 237 (.fn (.pair .str (.pair (.int .u8) .unit)) (.pair .str .unit)) .nil) 238 (.arr 256 .bool) .nil) 239 (.arr 256 .bool) (.node .nil 241 (.fn (.pair .str .unit) (.pair (.arr 256 .bool) (.pair .bool .unit))) .nil)) 242 (.fn (.pair .str (.pair (.ptr (.arr 256 .bool)) .unit)) (.pair .str .unit)) (.node (.node (.node .nil 243 (.ptr (.arr 256 .bool)) .nil) 244 (.fn (.pair zx (.pair tMe .unit)) (.pair zR .unit)) .nil) 245 (.fn (.pair (.fn (.pair (.int .i64) .unit) (.pair .bool .unit)) .unit) .unit) (.node .nil 246 (.fn (.pair (.fn (.pair (.int .i64) .unit) (.pair .bool .unit)) .unit) .unit) .nil))) 247 (.fn (.pair zn .unit) (.pair (.fn (.pair (.fn (.pair (.int .i64) .unit) (.pair .bool .unit)) .unit) .unit) .unit)) (.node (.node (.node (.node .nil 248 (.fn (.pair (.sl zn) (.pair zn .unit)) (.pair (.int .i64) .unit)) .nil) 249 (.fn (.pair (.sl qn) (.pair (.fn (.pair qn .unit) (.pair .bool .unit)) .unit)) (.pair .bool .unit)) .nil) 250 (.fn (.pair qn .unit) (.pair .bool .unit)) (.node .nil 251 (.fn (.pair (.sl z4) (.pair zR (.pair (.int .i64) .unit))) (.pair (.int .i64) .unit)) .nil)) 252 (.pair (.int .i64) (.int .i64)) (.node (.node .nil 253 (.fn (.pair zy (.pair zy .unit)) (.pair (.int .i64) .unit)) .nil) 254 (.st (.pair (.sl zz) (.pair (.fn (.pair zz .unit) (.pair .bool .unit)) .unit))) (.node .nil 255 vV .nil)))))) 256 (.sl (.int .u64)) (.node (.node (.node (.node (.node (.node (.node .nil 257 (.fn (.pair (.sl (.int .u64)) .unit) (.pair (.int .u64) (.pair (.int .i64) .unit))) .nil) 258 (.fn (.pair zx (.pair (.int .i64) (.pair (.fn (.pair zp .unit) (.pair (.arr 4 (.int .u64)) .unit)) .unit))) (.pair (.int .u64) (.pair (.int .i64) .unit))) .nil) 259 (.fn (.pair zp .unit) (.pair (.arr 4 (.int .u64)) .unit)) (.node .nil 260 (.fn (.pair (.sl (.arr 4 (.int .u64))) (.pair (.sl (.arr 4 (.int .u64))) .unit)) (.pair .bool .unit)) .nil)) 261 (.fn (.pair (.sl zR) (.pair (.sl zR) .unit)) (.pair .bool .unit)) (.node (.node (.node .nil 262 (.fn (.pair (.sl zu) (.pair (.fn (.pair zu .unit) (.pair .bool .unit)) .unit)) (.pair (.int .i64) .unit)) .nil) 263 (.fn (.pair zn (.pair zn .unit)) (.pair (.int .i64) .unit)) .nil) 264 (.fn (.pair (.int .i64) .unit) (.pair zn .unit)) (.node .nil 265 (.fn (.pair (.sl jf) (.pair (.int .i64) .unit)) (.pair .bool .unit)) .nil))) 266 (.fn (.pair (.sl zq) (.pair (.int .i64) (.pair (.int .i64) .unit))) (.pair .bool .unit)) (.node (.node (.node (.node .nil 267 (.fn (.pair zy (.pair zy .unit)) (.pair .bool .unit)) .nil) 268 (.fn (.pair zq (.pair (.int .i64) .unit)) (.pair (.int .u64) .unit)) .nil) 269 (.fn (.pair (.sl zn) (.pair (.fn (.pair zn .unit) (.pair .bool .unit)) .unit)) (.pair .bool .unit)) (.node .nil 270 (.fn (.pair qN .unit) (.pair .bool .unit)) .nil)) 271 (.fn (.pair (.sl qN) (.pair (.fn (.pair qN .unit) (.pair .bool .unit)) .unit)) (.pair .bool .unit)) (.node (.node (.node .nil 272 (.fn (.pair (.sl .str) .unit) (.pair .bool .unit)) .nil) 273 (.sl .str) .nil) 274 (.fn (.pair zl .unit) (.pair (.sl .str) .unit)) (.node .nil 275 (.fn (.pair (.sl zn) (.pair zn .unit)) (.pair .bool .unit)) .nil)))) 276 (.fn (.pair zdj .unit) (.pair (.sl (.int .i64)) .unit)) (.node (.node (.node (.node (.node .nil 277 (.fn (.pair (.sl (.int .u8)) (.pair (.fn (.pair (.int .u8) .unit) (.pair .bool .unit)) .unit)) (.pair (.int .i64) .unit)) .nil) 279 (.fn (.pair .str .unit) (.pair (.int .i32) (.pair (.int .i64) .unit))) .nil) 280 (.fn (.pair .str (.pair (.int .i32) .unit)) (.pair .bool .unit)) (.node .nil 281 (.fn (.pair (.int .u64) .unit) (.pair (.int .i64) .unit)) .nil)) 282 (.fn (.pair (.sl jf) (.pair (.fn (.pair jf .unit) (.pair .bool .unit)) .unit)) (.pair (.int .i64) .unit)) (.node (.node (.node .nil 283 (.fn (.pair jf .unit) (.pair .bool .unit)) .nil) 284 (.fn (.pair (.sl zp) (.pair (.fn (.pair zp .unit) (.pair .bool .unit)) .unit)) (.pair (.int .i64) .unit)) .nil) 285 (.fn (.pair (.sl qn) (.pair (.fn (.pair qn .unit) (.pair .bool .unit)) .unit)) (.pair (.int .i64) .unit)) (.node .nil 286 (.fn (.pair (.sl z4) (.pair (.fn (.pair z4 .unit) (.pair .bool .unit)) .unit)) (.pair (.int .i64) .unit)) .nil))) 287 (.fn (.pair (.sl zZ) (.pair (.fn (.pair zZ .unit) (.pair .bool .unit)) .unit)) (.pair (.int .i64) .unit)) (.node (.node (.node (.node .nil 288 (.st (.pair (.int .i64) (.pair (.int .i64) (.pair zR .unit)))) .nil) 289 zux .nil) 290 (.fn (.pair zZ .unit) (.pair zux .unit)) (.node .nil 291 (.fn (.pair (.sl zz) (.pair (.fn (.pair zz .unit) (.pair .bool .unit)) .unit)) (.pair (.int .i64) .unit)) .nil)) 292 (.fn (.pair zd2 .unit) (.pair .bool .unit)) (.node (.node (.node .nil 293 (.fn (.pair (.int .i64) (.pair (.int .u64) (.pair (.int .u64) .unit))) (.pair (.int .u64) (.pair (.int .i64) .unit))) .nil) 294 (.fn (.pair (.sl (.int .i64)) .unit) (.pair (.int .i64) .unit)) .nil) 295 (.fn (.pair (.int .u64) (.pair (.int .u64) .unit)) (.pair (.int .i64) .unit)) (.node .nil 296 (.fn (.pair (.int .i64) (.pair (.int .i64) .unit)) (.pair (.int .i64) .unit)) .nil))))) 297 (.fn (.pair (.sl zq) (.pair (.fn (.pair zq .unit) (.pair .bool .unit)) .unit)) (.pair (.int .i64) .unit)) (.node (.node (.node (.node (.node (.node .nil 298 (.fn (.pair (.sl zy) (.pair (.fn (.pair zy .unit) (.pair .bool .unit)) .unit)) (.pair (.int .i64) .unit)) .nil) 299 (.fn (.pair (.sl zR) (.pair (.fn (.pair zR .unit) (.pair .bool .unit)) .unit)) (.pair (.int .i64) .unit)) .nil) 300 (.fn (.pair (.sl zq) .unit) (.pair (.sl (.int .i64)) .unit)) (.node .nil 301 (.fn (.pair zq .unit) (.pair (.int .i64) .unit)) .nil)) 302 (.fn (.pair (.sl zz) .unit) (.pair (.ptr vV) .unit)) (.node (.node (.node .nil 304 (.fn (.pair (.int .u64) (.pair (.int .u64) (.pair (.int .u64) .unit))) (.pair (.int .u64) (.pair (.int .u64) .unit))) .nil) 305 (.fn (.pair (.sl zn) (.pair (.fn (.pair zn .unit) (.pair .bool .unit)) .unit)) (.pair (.int .i64) .unit)) .nil) 306 (.fn (.pair (.sl qN) (.pair (.fn (.pair qN .unit) (.pair .bool .unit)) .unit)) (.pair (.int .i64) .unit)) (.node .nil 307 (.pair .str (.int .i64)) .nil))) 308 (.fn (.pair .str (.pair (.int .i32) .unit)) (.pair (.int .i64) .unit)) (.node (.node (.node (.node .nil 309 (.arr 64 (.int .u8)) .nil) 310 (.fn (.pair (.int .u64) .unit) (.pair .bool .unit)) .nil) 311 (.ptr yZ) (.node .nil 312 (.fn (.pair (.sl zq) .unit) (.pair (.ptr yZ) .unit)) .nil)) 313 (.arr 256 (.int .u8)) (.node (.node (.node .nil 314 (.st (.pair (.int .u8) (.pair (.int .u8) .unit))) .nil) 315 zla .nil) 316 (.arr 16 zla) (.node .nil 317 (.fn (.pair .str (.pair (.int .u8) .unit)) (.pair (.int .i64) .unit)) .nil)))) 318 (.fn (.pair (.int .i32) .unit) (.pair .bool .unit)) (.node (.node (.node (.node (.node .nil 319 (.fn (.pair (.int .i64) .unit) (.pair (.int .i64) .unit)) .nil) 320 (.fn (.pair .str (.pair .str .unit)) (.pair (.int .i64) .unit)) .nil) 321 (.fn (.pair (.int .u64) (.pair (.int .u64) .unit)) (.pair (.int .u64) (.pair (.int .u64) .unit))) (.node .nil 322 (.fn (.pair (.sl zq) (.pair (.fn (.pair zq .unit) (.pair .bool .unit)) .unit)) (.pair (.ptr yZ) .unit)) .nil)) 323 (.st (.pair (.sl zq) (.pair (.fn (.pair zq .unit) (.pair .bool .unit)) .unit))) (.node (.node (.node .nil 324 yZ .nil) 325 (.fn .unit (.pair .str .unit)) .nil) 331 (.fn .unit (.pair (.int .i64) .unit)) (.node .nil 332 (.int .u32) .nil))) 333 (.int .u8) (.node (.node (.node (.node .nil 334 (.int .u8) .nil) 336 (.ptr (.int .u8)) .nil) 337 (.int .i32) (.node .nil 338 (.int .i32) .nil)) 341 (.fn (.pair zz .unit) (.pair (.sl zz) (.pair (.int .i64) (.pair (.int .i64) .unit)))) (.node (.node .nil 342 (.fn (.pair (.int .i64) (.pair zz .unit)) (.pair (.sl zz) (.pair (.int .i64) .unit))) .nil) 343 (.fn (.pair zq .unit) (.pair (.sl zq) (.pair (.int .i64) (.pair (.int .i64) .unit)))) (.node .nil 344 (.fn (.pair (.int .i64) (.pair zq .unit)) (.pair (.sl zq) (.pair (.int .i64) .unit))) .nil))))))))
def glob:List (Nat × AV):=[(0,.dat (.ptr (.arr 64 (.int .u8))) (some [0,1,56,2,57,49,28,3,61,58,42,50,38,29,17,4,62,47,59,36,45,43,51,22,53,39,33,30,24,18,12,5,63,55,48,27,60,41,37,16,46,35,44,21,52,32,23,11,54,26,40,15,34,20,31,10,25,14,19,9,13,8,7,6]))]
abbrev A_law31_TalkAlike:Ty:=(.pair zl (.pair zx (.pair zx (.pair tMe (.pair jI (.pair zn .unit))))))
abbrev zs0:Ty:=(.pair zn .unit)
abbrev zs1:Ty:=(.pair (.sl (.int .i64)) .unit)
abbrev zD1:Type:=(zo × Unit)→Option ((List Int) × Unit)
abbrev zBW (g:Fnc zs0 zs1):Fun:=⟨126,zs0,zs1,0,g⟩
def ext:List (Nat × Bool):=[(350,false),(368,true)]
def E0:Env:=⟨types,[],glob,0,false,ext,[],fun _=>none,false,false⟩
theorem zH8:Tryz.prog.follows .mixedOrders = true:=by kernel_rfl
theorem mkS {l:List Fun} {d:Bool} {F:Fun} {f:Go.Func} {K:Nat} (hl:Sds Tryz.prog E0 l) (hf:Tryz.prog.funcs[F.id]? = some f) (ho:jC f = true) (h:evF (En E0 d l) K f F.md F.a F.r = F.spec):Sd Tryz.prog E0 F:=Sd.mk zH8 hl hf ho h
theorem zM8 {l:List Fun} {d:Bool} {js:List Nat} {F:Fun} {f:Go.Func} {K:Nat} (hl:Sds Tryz.prog E0 l) (hf:Tryz.prog.funcs[F.id]? = some f) (ho:jC f = true) (h:evF (Ej E0 d js l) K f F.md F.a F.r = F.spec):Sd Tryz.prog E0 F:=Sd.mkJ zH8 hl hf ho h
end Go.Proofs.YtkcakhbkoeimdaaGreatDoor
end
section
namespace Go.Proofs.YtkcakhbkoeimdaaGreatDoor
open Go.Ev Go.RowKit Go.Shelf Go.Proofs
attribute [local go_sem] Oper.semAt_some
def jT (c:Nat):List Nat:=(List.range 64).filter c.testBit
theorem zs2 (p q:Nat→Bool) (k:Nat) (hp:∀ i,i < k→p i = false ∧ q i = false) (hk:p k = true ∧ q k = false) (hq:∀ i,k < i→p i = q i):∀ n,(List.range n).filter p = (if k < n then [k] else []) ++ (List.range n).filter q
 | 0=>rfl
 | n + 1=>by
  rw [List.range_succ,List.filter_append,List.filter_append,zs2 p q k hp hk hq n]
  by_cases h1:k < n
  ·rw [if_pos h1,if_pos (by omega),List.append_assoc]
   have:=hq n h1
   simp [List.filter_cons,this]
  ·by_cases h2:k = n
   ·subst h2
    rw [if_neg h1,if_pos (by omega)]
    have e:(List.range k).filter q = []:=by
     rw [List.filter_eq_nil_iff]
     intro i hi
     rw [(hp i (by simpa using hi)).2]; simp
    simp [hk.1,hk.2,e]
   ·rw [if_neg h1,if_neg (by omega)]
    have:=hp n (by omega)
    simp [this.1,this.2]
theorem zl2 {k m i:Nat}:(2 ^ k * (2 * m + 1)).testBit i = (decide (k ≤ i) && (decide (i = k) || (2 ^ k * (2 * m)).testBit i)) ∧ ((2 ^ k * (2 * m)).testBit i = true→k < i):=by
 rw [Nat.mul_comm (2 ^ k),Nat.mul_comm (2 ^ k),Nat.testBit_mul_two_pow,Nat.testBit_mul_two_pow]
 by_cases h:k ≤ i
 ·by_cases e:i = k
  ·subst e
   simp [Nat.testBit_zero]
  ·obtain ⟨j,rfl⟩:∃ j,i = k + (j + 1):=⟨i - k - 1,by omega⟩
   rw [show k + (j + 1) - k = j + 1 by omega,Nat.testBit_succ,Nat.testBit_succ,show (2 * m + 1) / 2 = m by omega,show 2 * m / 2 = m by omega]
   simp
 ·simp [h]
theorem zKZ {k m:Nat}:(2 ^ k * (2 * m + 1)) &&& (2 ^ k * (2 * m + 1) - 1) = 2 ^ k * (2 * m):=by
 have e:2 ^ k * (2 * m + 1) - 1 = 2 ^ k * (2 * m) + (2 ^ k - 1):=by
  have:=Nat.two_pow_pos k
  rw [Nat.mul_add,Nat.mul_one]; omega
 apply Nat.eq_of_testBit_eq
 intro i
 rw [Nat.testBit_and,e,Nat.testBit_two_pow_mul_add _ (by have:=Nat.two_pow_pos k; omega)]
 have:=@zl2 k m i
 rw [this.1]
 by_cases h:i < k
 ·have h2:(2 ^ k * (2 * m)).testBit i = false:=by
   cases hb:(2 ^ k * (2 * m)).testBit i with
   | false=>rfl
   | true=>have:=this.2 hb; omega
  simp [h2,h]
  omega
 ·have h3:(2 ^ k * (2 * m)).testBit i = (2 * m).testBit (i - k):=by
   rw [Nat.mul_comm,Nat.testBit_mul_two_pow]; simp; omega
  rw [if_neg h,h3]
  by_cases e:i = k
  ·subst e; simp [Nat.testBit_zero]
  ·simp [e]; omega
theorem zJV {c:Nat} (h0:c ≠ 0) (h:c < 18446744073709551616):jT c = Lib.ctz 64 c :: jT (c &&& (c - 1)):=by
 obtain ⟨m,hm,hk⟩:=Lib.ctzFrom_spec 64 c (by omega) h
 have e:Lib.ctz 64 c = Lib.ctzFrom 64 c:=by simp [Lib.ctz,h0]
 rw [e]
 generalize Lib.ctzFrom 64 c = k at hm hk
 subst hm
 rw [zKZ]
 unfold jT
 have hlow:∀ i,i ≤ k→(2 ^ k * (2 * m)).testBit i = false:=by
  intro i hi
  cases hb:(2 ^ k * (2 * m)).testBit i with
  | false=>rfl
  | true=>have:=zl2.2 hb; omega
 rw [zs2 (2 ^ k * (2 * m + 1)).testBit (2 ^ k * (2 * m)).testBit k (fun i hi=>⟨by rw [zl2.1]; simp; omega,hlow i (by omega)⟩) ⟨by rw [zl2.1]; simp,hlow k (Nat.le_refl _)⟩ (fun i hi=>by rw [zl2.1]; simp [show k ≤ i by omega,show i ≠ k by omega]) 64,if_pos hk]
 rfl
theorem zJW:jT 0 = []:=by
 unfold jT
 rw [List.filter_eq_nil_iff]
 intro i _
 simp
theorem zD2 (c:Nat):(jT c).length ≤ 64:=by
 unfold jT
 have:=List.length_filter_le c.testBit (List.range 64)
 simpa using this
theorem zMv {c:Nat} (h0:c ≠ 0):c &&& (c - 1) < c:=by
 have:=@Nat.and_le_right c (c - 1)
 omega
def zny (w:World):Prop:=∀ j,j < Lib.deBruijn64tab.length→w.cell? ⟨0,j,none⟩ = some (.int .u8 (Lib.deBruijn64tab.getD j 0))
theorem zMw (x a:Nat) (hx:x < 18446744073709551616) (hx0:x ≠ 0) (hlow:x &&& (18446744073709551616 - x) = a) :
 IntKind.u64.wrap (bits BinOp.and IntKind.u64 (x:Int) (IntKind.u64.wrap (-(x:Int))) * 285870213051353865) / 288230376151711744 = ((a * 285870213051353865 % 18446744073709551616 / 288230376151711744:Nat):Int):=by
 have e1:IntKind.u64.wrap (-(x:Int)) = ((18446744073709551616 - x:Nat):Int):=by rw [IntKind.wrap_u64]; omega
 rw [e1,bits_and_u64_nat x _ hx (by omega),hlow,IntKind.wrap_u64]
 omega
set_option maxRecDepth 100000 in
set_option maxHeartbeats 1000000 in
theorem zLR (n:Nat) (x k idx:Nat) (w:World) (hx1:((x:Int) == 0) = false)
 (key:IntKind.u64.wrap (bits BinOp.and IntKind.u64 (x:Int) (IntKind.u64.wrap (-(x:Int))) * 285870213051353865) / 288230376151711744 = (idx:Int))
 (hi:idx < 64) (hk:k < 64) (hcell:w.cell? ⟨0,idx,none⟩ = some (.int .u8 k)) :
 CallsIn Fence.wide n Tryz.prog 317 #[.int .u64 x] w fun e w'=>e = .returned (.int .i64 k) ∧ w' = w:=by
 refine callsIn_of_wp Tryz.func317 rfl trivial ?_ rfl
 simp only [show Tryz.f317.ntmps = 14 by kernel_rfl,List.size_toArray,List.length_cons,List.length_nil,Nat.reduceAdd,Nat.reduceSub,Array.replicate_succ,Array.replicate_zero,List.push_toArray,List.append_toArray,List.nil_append,List.cons_append]
 gi_wp2_with (simp only [key])
 go_ret
 exact ⟨rfl,rfl⟩
theorem zMT (n:Nat) (x:Nat) (hx:x < 18446744073709551616) (hx0:x ≠ 0) (w:World) (hT:zny w) :
 CallsIn Fence.wide n Tryz.prog 317 #[.int .u64 x] w fun e w'=>e = .returned (.int .i64 (Lib.ctz 64 x)) ∧ w' = w:=by
 obtain ⟨hlow,hk⟩:=Lib.lowest_bit 64 x hx0 hx
 obtain ⟨hi,htab⟩:=Lib.deBruijn64_at _ hk
 have hcell:=hT _ hi
 rw [htab] at hcell
 exact zLR n x _ _ w (by simp; omega) (zMw x _ hx hx0 hlow) hi hk hcell
theorem zD3 {x:Nat} (hx:x < 18446744073709551616):IntKind.u64.wrap (x:Int) = (x:Int):=by rw [IntKind.wrap_u64]; omega
theorem zK0 (c:Nat) (h0:c ≠ 0) (h:c < 18446744073709551616):bits BinOp.and IntKind.u64 (c:Int) (IntKind.u64.wrap ((c:Int) - 1)) = ((c &&& (c - 1):Nat):Int):=by
 rw [show ((c:Int) - 1) = ((c - 1:Nat):Int) by omega,zD3 (by omega),bits_and_u64_nat c _ h (by omega)]
def zLz (v:Value):Nat:=match v with | .int _ n=>n.toNat | _=>0
set_option maxRecDepth 100000 in
set_option maxHeartbeats 1000000 in
theorem zLS (n:Nat) (l Bn n₀:Nat) (lev:Int) (c0:Nat) (h64:c0 < 18446744073709551616) (hn₀:0 + 1 ≤ n₀) (J Jx:List Nat→World→Prop)
 (hY:∀ pre x W,J pre W→pre.length < (jT c0).length→YieldAt Fence.wide (n - 1) Tryz.prog l #[.int .i64 (x:Nat)] W fun e W' =>
  (e = .returned (.bool true) ∧ J (pre ++ [x]) W' ∧ Below n₀ W W') ∨ (e = .returned (.bool false) ∧ Jx (pre ++ [x]) W'))
 (W:World) (hBn:W.cell? ⟨Bn,0,none⟩ = some (.int .i64 lev)) (hBn1:W.cell? ⟨Bn,1,none⟩ = some (.int .u64 c0)) (hT:zny W) (h0:J [] W) :
 CallsIn Fence.wide n Tryz.prog 316 #[.func (.yield l) #[] #[],.pointer (some ⟨Bn,0,none⟩)] W fun e W'=>(∃ v,e = .returned v) ∧
  ((∃ ys,ys = jT c0 ∧ J ys W') ∨ (∃ pre,pre <+: jT c0 ∧ Jx pre W')):=by
 refine callsIn_of_wp Tryz.func316 rfl trivial ?_ rfl
 simp only [show Tryz.f316.ntmps = 17 by kernel_rfl,List.size_toArray,List.length_cons,List.length_nil,Nat.reduceAdd,Nat.reduceSub,Array.replicate_succ,Array.replicate_zero,List.push_toArray,List.append_toArray,List.nil_append,List.cons_append]
 gi_wp2
 gi_loopw [3] (fun p wr=>∃ (pre:List Nat) (c:Nat),p = .int .u64 c ∧ c < 18446744073709551616 ∧ jT c0 = pre ++ jT c ∧ zny wr ∧ J pre wr)
  (fun p wr=>zLz p)
 case atStart =>
  exact ⟨[],c0,rfl,h64,rfl,hT,h0⟩
 case round =>
  obtain ⟨pre,c,rfl,hc,hx,hTr,hJs⟩:=hrel
  by_cases hz:c = 0
  ·subst hz
   gi_wp2
   go_end0
   exact ⟨⟨_,rfl⟩,.inl ⟨pre,by rw [hx,zJW,List.append_nil],hJs⟩⟩
  ·have hx':=hx
   rw [zJV hz hc] at hx'
   obtain ⟨fn,tmps,assign,body,hy,hR⟩:=hY pre (Lib.ctz 64 c) wr hJs (by rw [hx']; simp)
   have hz1:((c:Int) == 0) = false:=by simp; omega
   gi_wp2
   refine ⟨trivial,fun h=>(by cases h),(zMT (n - 1) c hc hz wr hTr).mono ?_⟩
   rintro e w' ⟨rfl,hw'⟩
   subst hw'
   gi_wp2
   refine ⟨fun h=>(by cases h),hR.mono ?_⟩
   rintro e W3 (⟨rfl,hJ3,hk3⟩ | ⟨rfl,hJx3⟩)
   ·have hT3:zny W3:=fun j hj=>(hk3.cell (p:=⟨0,j,none⟩) (show 0 < _ by omega)).trans (hTr j hj)
    have hk:bits BinOp.and IntKind.u64 (c:Int) ((c:Int) - 1) = ((c &&& (c - 1):Nat):Int):=by rw [← zK0 c hz hc,IntKind.wrap_u64]; congr 1; omega
    gi_wp2
    go_roundw
    case rel=>exact ⟨pre ++ [Lib.ctz 64 c],c &&& (c - 1),rfl,Nat.lt_of_le_of_lt Nat.and_le_left hc,by rw [hx',List.append_assoc]; rfl,hT3,hJ3⟩
    case measure=>simp [zLz]; exact zMv hz
   ·gi_wp2
    refine bodyPost_ret (results_none rfl _ _ _) rfl ?_
    exact ⟨⟨_,rfl⟩,.inr ⟨pre ++ [Lib.ctz 64 c],⟨jT (c &&& (c - 1)),by rw [hx',List.append_assoc]; rfl⟩,hJx3⟩⟩
set_option maxHeartbeats 1000000 in
theorem zK1 (n:Nat) (lev:Int) (c:Nat) (w:World) :
 CallsIn Fence.wide n Tryz.prog 230 #[.agg #[.int .i64 lev,.int .u64 c]] w fun e w'=>e = .returned (.func (.func 316) #[] #[.pointer (some ⟨w.heap.size,0,none⟩)]) ∧ w' = w.alloc (.cells #[.int .i64 lev,.int .u64 c] 72):=by
 refine callsIn_of_wp Tryz.func230 rfl trivial ?_ rfl
 simp only [show Tryz.f230.ntmps = 4 by kernel_rfl,List.size_toArray,List.length_cons,List.length_nil,Nat.reduceAdd,Nat.reduceSub,Array.replicate_succ,Array.replicate_zero,List.push_toArray,List.append_toArray,List.nil_append,List.cons_append]
 gi_wp2
 go_ret
 exact ⟨rfl,rfl⟩
theorem zH9 (n:Nat) (Bn n₀:Nat) (lev:Int) (c0:Nat) (h64:c0 < 18446744073709551616) (w:World) (hBn:Bn < w.heap.size) (hn₀:0 + 1 ≤ n₀) (hn1:n₀ ≤ w.heap.size)
 (hc:w.cell? ⟨Bn,0,none⟩ = some (.int .i64 lev)) (hc1:w.cell? ⟨Bn,1,none⟩ = some (.int .u64 c0)) (hT:zny w) :
 SeqStopsK Fence.wide n Tryz.prog 316 #[.pointer (some ⟨Bn,0,none⟩)] (fun x:Nat=>#[Value.int .i64 x]) (Below n₀) (fun ys=>ys = jT c0) (fun pre=>pre <+: jT c0) (jT c0).length w:=fun l J Jx W hW _ _ hY h0 =>
 zLS n l Bn n₀ lev c0 h64 hn₀ J Jx hY W ((hW.cell (p:=⟨Bn,0,none⟩) hBn).trans hc) ((hW.cell (p:=⟨Bn,1,none⟩) hBn).trans hc1) (fun j hj=>(hW.cell (p:=⟨0,j,none⟩) (show 0 < _ by omega)).trans (hT j hj)) h0
theorem zMU:(Tryz.prog.info? 3).map (fun i=>(i.zero,i.size,i.bytes)) = some (some (.int .i64 0),1,8):=by kernel_rfl
theorem zMV:Tryz.prog.underlying 23 = some (.slice 3):=by kernel_rfl
set_option maxRecDepth 100000 in
set_option maxHeartbeats 2000000 in
theorem zLT (n:Nat) (hn:1 ≤ n) (lev:Int) (c:Nat) (h64:c < 18446744073709551616) (w:World) (hs:0 + 1 ≤ w.heap.size) (hT:zny w) :
 CallsIn Fence.wide n Tryz.prog 126 #[.agg #[.int .i64 lev,.int .u64 c]] w fun e W'=>∃ v,e = .returned v ∧ W'.ownsRow w.heap.size 3 1 v (jT c).length ((jT c).map fun x=>Value.int .i64 (x:Nat)) ∧ Below w.heap.size w W':=by
 obtain ⟨i0,hi,hz0,hz1,hz2⟩:=info_parts zMU
 refine callsIn_of_wp_marks Tryz.func126 rfl trivial ?_ rfl
 simp only [show Tryz.f126.ntmps = 13 by kernel_rfl,List.size_toArray,List.length_cons,List.length_nil,Nat.reduceAdd,Nat.reduceSub,Array.replicate_succ,Array.replicate_zero,List.push_toArray,List.append_toArray,List.nil_append,List.cons_append]
 gi_wp2
 refine ⟨trivial,(zK1 (n - 1) lev c _).mono ?_⟩
 rintro e w' ⟨rfl,rfl⟩
 gi_wp2
 have bO:Boxed (((w.alloc (.cells #[.int .i64 lev,.int .u64 c] 72)).alloc (.cells #[.slice none 0 0] 23)).alloc (.cells #[.int .i64 lev,.int .u64 c] 72)) (w.heap.size + 1) 23 (.slice none 0 0):=by
  have:=Boxed.new (w.alloc (.cells #[.int .i64 lev,.int .u64 c] 72)) 23 (.slice none 0 0)
  rw [World.size_alloc] at this
  exact this.alloc _
 have hB0:Below w.heap.size w (((w.alloc (.cells #[.int .i64 lev,.int .u64 c] 72)).alloc (.cells #[.slice none 0 0] 23)).alloc (.cells #[.int .i64 lev,.int .u64 c] 72)):=(((Below.refl _ w).alloc (Nat.le_refl _) _).alloc (by simp) _).alloc (by simp; omega) _
 have hz:(((w.alloc (.cells #[.int .i64 lev,.int .u64 c] 72)).alloc (.cells #[.slice none 0 0] 23)).alloc (.cells #[.int .i64 lev,.int .u64 c] 72)).heap.size = w.heap.size + 1 + 1 + 1:=by simp
 have hbx:(((w.alloc (.cells #[.int .i64 lev,.int .u64 c] 72)).alloc (.cells #[.slice none 0 0] 23)).alloc (.cells #[.int .i64 lev,.int .u64 c] 72)).heap[w.heap.size + 1 + 1]? = some (.cells #[.int .i64 lev,.int .u64 c] 72 (0,0)):=by
  have:=World.alloc_heap_new ((w.alloc (.cells #[.int .i64 lev,.int .u64 c] 72)).alloc (.cells #[.slice none 0 0] 23)) (.cells #[.int .i64 lev,.int .u64 c] 72)
  simpa [World.size_alloc] using this
 have hT1:zny (((w.alloc (.cells #[.int .i64 lev,.int .u64 c] 72)).alloc (.cells #[.slice none 0 0] 23)).alloc (.cells #[.int .i64 lev,.int .u64 c] 72)):=fun j hj=>(hB0.cell (p:=⟨0,j,none⟩) (show 0 < _ by omega)).trans (hT j hj)
 generalize (((w.alloc (.cells #[.int .i64 lev,.int .u64 c] 72)).alloc (.cells #[.slice none 0 0] 23)).alloc (.cells #[.int .i64 lev,.int .u64 c] 72)) = w1 at bO hB0 hz hbx hT1
 refine wpIn_rangeFunc_ownG rfl (n:=n) hn (gf:=316) (lb:=#[.pointer (some ⟨w.heap.size + 1 + 1,0,none⟩)]) rfl trivial (enters_of Tryz.func316 (by kernel_rfl) rfl)
  (zH9 (n - 1) (w.heap.size + 1 + 1) w.heap.size lev c h64 w1 (by omega) hs (by omega) (by simp [World.cell?,hbx]) (by simp [World.cell?,hbx]) hT1) belowK_t (belowK_b (by omega)) (Below.refl _ _) (fun _=>rfl)
  (fun pre W=>(∃ v,Boxed W (w.heap.size + 1) 23 v ∧ W.ownsRow w.heap.size 3 1 v pre.length (pre.map fun x=>Value.int .i64 (x:Nat)) ∧ True) ∧ Below w.heap.size w W)
  (fun _ _ _=>False)
  (OwnFrom.and (Own.from (holdsRow_own w.heap.size (w.heap.size + 1) 23 3 1 (fun pre:List Nat=>pre.length) (fun pre:List Nat=>pre.map fun x=>Value.int .i64 (x:Nat)) (fun _ _=>True)) _) (ownFrom_below (Nat.le_refl _) (by omega)))
  (fun _ _ _ _ _ hs _ _=>hs)
  ⟨⟨_,bO,World.ownsRow_nil _ _ _ _,trivial⟩,hB0⟩
  (fun x=>{ tmps:=#[.agg #[.int .i64 lev,.int .u64 c],.pointer (some ⟨w.heap.size,0,none⟩),.slice none 0 0,.pointer (some ⟨w.heap.size + 1,0,none⟩),.int .i64 (x:Nat),.agg #[.int .i64 lev,.int .u64 c],.func (.func 316) #[] #[.pointer (some ⟨w.heap.size + 1 + 1,0,none⟩)],.int .i64 (x:Nat),undef,undef,undef,undef,undef],defers:=[] }) ?assign ?body ?done ?stop
 case assign =>
  intro l x W K hK
  gi_wp2
  exact hK
 case body =>
  rintro l pre x W ⟨⟨v,hv,hrow,-⟩,hB⟩ hlt
  have hc:=hv.cell
  have hl64:=zD2 c
  gi_wp2_with (gi_at_builtin; refine wpListIn_append_own _ rfl _ _ 23 rfl w.heap.size 3 i0 (.int .i64 0) 1 8 zMV hi hz0 hz1 hz2 rfl (by decide) _ _ _ rfl (hrow.alloc _) ⟨W.heap.size,0,none⟩ 1 1 [.int .i64 (x:Nat)] rfl rfl (cell_one_new _ _ _) (by simp [Value.oneCell']) (by simp only [Go.maxLen]; omega) (by omega) (by have:=hB.size; simp; omega) ?_; intro v' w1' hown' hgrow _; obtain ⟨g',cap',rfl⟩:=ownsRow_succ hown'; obtain ⟨hv1,hv2,hr2,hk2,hb2⟩:=hv.appended (by decide) hrow hB.size (by omega) hown' hgrow; have hc1:=hv1.cell; have hf1:=hv1.frozen)
  exact ⟨hk2.from _,hb2,⟨_,hv2,by simpa using hr2,trivial⟩,hB.trans hb2⟩
 case done =>
  rintro D ys W hD rfl ⟨⟨v,hv,hrow,-⟩,hB⟩ hK
  have hc:=hv.cell
  gi_wp2
  refine ⟨by simp,.inl ⟨_,_,rfl,run_takeDeferred hK,?_⟩⟩
  exact ⟨_,results_tmp rfl _ _ _,v,rfl,ownsRow_putObj hrow _ hK rfl,hB.trans (belowK_b (w:=w) (Nat.le_refl _) W D _ _ (by omega) hK rfl rfl)⟩
 case stop =>
  rintro D c pre W _ _ h _
  exact h.elim
def zfj:zD1:=fun x=>bif decide (0 ≤ x.1.2.1 ∧ x.1.2.1 < 18446744073709551616) then some ((jT x.1.2.1.toNat).map Int.ofNat,()) else none
theorem zK2 {G F0:FH} {w:World} (hE:EnvOk Tryz.prog G E0) (hG:G.le F0) (hk:F0.ok w):zny w ∧ 0 + 1 ≤ w.heap.size:=by
 obtain ⟨τ,x,cs,h1,⟨-,c,h2,h3⟩,h4⟩:=hE.glob 0 _ rfl
 cases h1
 obtain ⟨-,hr⟩:=h4
 obtain ⟨el,fz,hw⟩:=hk _ _ (hG _ _ h2)
 have hlt:=(Array.getElem?_eq_some_iff.1 hw).1
 refine ⟨fun j hj=>?_,hlt⟩
 have key:∀ (l:List Int) (cs:List Value) (j:Nat),RepL ((RR Tryz.prog (.int .u8)).1 G) l cs→j < l.length→cs[j]? = some (.int .u8 (l.getD j 0)):=by
  intro l
  induction l with
  | nil=>intro cs j _ h; simp at h
  | cons x l ih =>
   rintro cs j ⟨d,e,rfl,hd,he⟩ hj
   have hd:d = [.int .u8 x]:=hd
   subst hd
   cases j with
   | zero=>rfl
   | succ j=>simpa using ih e j he (by simpa using hj)
 have h5:=key _ _ j hr (by simpa [Lib.deBruijn64tab] using hj)
 have h6:=h3 j _ h5
 have e:∀ j,j < 64→((([0,1,56,2,57,49,28,3,61,58,42,50,38,29,17,4,62,47,59,36,45,43,51,22,53,39,33,30,24,18,12,5,63,55,48,27,60,41,37,16,46,35,44,21,52,32,23,11,54,26,40,15,34,20,31,10,25,14,19,9,13,8,7,6]:List Int)).getD j 0) = ((Lib.deBruijn64tab.getD j 0:Nat):Int):=by decide +kernel
 rw [e j (by simpa [Lib.deBruijn64tab] using hj)] at h6
 unfold World.cell?
 simp only [hw]
 simpa using h6
theorem zBv (P:Program) (F:FH):∀ l:List Nat,RepL (Rep P F (.int .i64)) (l.map Int.ofNat) (l.map fun x=>Value.int .i64 (x:Nat))
 | []=>rfl
 | x :: l=>⟨[.int .i64 (x:Nat)],l.map fun x=>Value.int .i64 (x:Nat),rfl,rfl,zBv P F l⟩
theorem zD4:Sd Tryz.prog E0 (zBW zfj):=by
 intro G hE
 refine ⟨⟨Tryz.f126,Tryz.func126,by kernel_rfl,by kernel_rfl⟩,?_⟩
 rintro ⟨⟨(lev:Int),(comps:Int),⟨⟩⟩,⟨⟩⟩ y hy F0 w vs hG hk ⟨v,r,rfl,h1,h2,h3⟩
 obtain ⟨hd,hy⟩:=zb hy
 cases hy
 obtain ⟨hc0,hc1⟩:=of_decide_eq_true hd
 have hc0:0 ≤ comps:=hc0
 have hc1:comps < 18446744073709551616:=hc1
 clear hd
 obtain rfl:r = []:=h3
 obtain ⟨hT,hs⟩:=zK2 hE hG hk
 obtain ⟨c,rfl⟩:=Int.eq_ofNat_of_zero_le hc0
 have hv:v = .agg #[.int .i64 lev,.int .u64 c]:=by
  obtain ⟨d1,e1,k1,(rfl:d1 = _),d2,e2,rfl,(rfl:d2 = _),(rfl:e2 = _)⟩:=h1
  have h2:isAggV v = true:=h2
  cases v with
  | agg cs =>
   have:cs.toList = [.int .i64 lev,.int .u64 c]:=k1
   rw [← Array.toArray_toList (xs:=cs),this]
  | _=>cases h2
 subst hv
 have hin:=callsIn_wide.1 (zLT 1 (Nat.le_refl _) lev c (by omega) w hs hT)
 refine hin.mono ?_
 rintro e W' ⟨v,rfl,hrow,hB⟩
 have hlow:∀ k c',F0 k = some c'→k < w.heap.size:=fun k c' hk'=>by
  obtain ⟨el,fz,hw⟩:=hk _ _ hk'
  exact (Array.getElem?_eq_some_iff.1 hw).1
 let F':FH:=fun k=>if k < w.heap.size then F0 k else FH.of W' k
 have hF':∀ k c',F' k = some c'→∃ el fz,W'.heap[k]? = some (.cells c' el fz):=by
  intro k c' h
  simp only [F'] at h
  split at h
  ·rename_i hlt
   obtain ⟨el,fz,hw⟩:=hk _ _ h
   exact ⟨el,fz,(hB.block k hlt).trans hw⟩
  ·exact FH.of_ok W' _ _ h
 refine ⟨[v],F',rfl,hB,⟨fun k c' hk'=>?_,fun k hk'=>?_⟩,hF',?_⟩
 ·simp only [F']; rw [if_pos (hlow k c' hk')]; exact hk'
 ·simp only [F']; rw [if_pos hk']
 ·show RepA Tryz.prog F' (.pair (.sl tI) .unit) ((jT c).map Int.ofNat,()) [v]
  have hlen:List.length ((jT c).map Int.ofNat) = (jT c).length:=List.length_map ..
  have hr:=zBv Tryz.prog F' (jT c)
  generalize (jT c).map Int.ofNat = L at hlen hr ⊢
  rcases hrow.2 with ⟨rfl,h0⟩ | ⟨g,cap,cur,rfl,hgb,hw,hnc,-,-,htake⟩
  ·obtain rfl:L = []:=List.eq_nil_of_length_eq_zero (by omega)
   exact ⟨_,[],rfl,⟨none,0,rfl,Nat.le_refl _,fun hne=>absurd rfl hne⟩,rfl,rfl⟩
  ·refine ⟨_,[],rfl,⟨some ⟨g,0,none⟩,cap,?_,(show List.length L ≤ cap by omega),fun _=>⟨_,_,rfl,⟨rfl,cur,?_,fun j u hj=>?_⟩,hr⟩⟩,rfl,rfl⟩
   ·show _ = [Value.slice _ (List.length L) cap]
    rw [hlen]; rfl
   ·show (if g < w.heap.size then F0 g else FH.of W' g) = some cur
    rw [if_neg (by omega)]
    simp only [FH.of,hw]
   ·rw [← htake] at hj
    have:=List.getElem?_eq_some_iff.1 hj
    obtain ⟨h1,h2⟩:=this
    rw [List.getElem_take] at h2
    show cur[0 + j]? = _
    rw [Nat.zero_add,← Array.getElem?_toList,List.getElem?_eq_getElem (by rw [List.length_take] at h1; omega),h2]
end Go.Proofs.YtkcakhbkoeimdaaGreatDoor
end
section
namespace Go.Proofs.YtkcakhbkoeimdaaGreatDoor
open Go.Ev Go.RowKit Go.Shelf Go.Proofs Go.Lib
set_option maxHeartbeats 4000000 in
theorem zK3 {u1:Value} {g:FuncId} {first caps:Array Value} {w:World} {Q:World→Prop}
 (hIF:Calls Tryz.prog 195 #[u1,.func (.func g) first caps] w fun e w'=>e = .returned (.int .i64 (-1)) ∧ Q w') (hd:∀ w,Q w→Q w.drew) :
 Calls Tryz.prog 104 #[u1,.func (.func g) first caps] w fun e w'=>e = .returned u1 ∧ Q w':=by
 have HD:Aside _:=hd
 clear hd
 go_enter Tryz.func104,Tryz.ntmps104
 go_wp2_with (go_at_call 195; refine hIF.mono ?_; rintro e w' ⟨rfl,hQ⟩)
 go_ret
 exact ⟨rfl,hQ⟩
set_option maxHeartbeats 4000000 in
theorem zK4 {b cap k0:Nat} {g:FuncId} {first caps:Array Value} {w:World} {xs:List Int} {q:Int→Bool} (R:List Int→World→Prop) (hlen:xs.length ≤ 9223372036854775807) (hcap:xs.length ≤ cap)
 (eg:∀ args w,(callFunc g args).run Tryz.prog w = .ok (.enter g args) w)
 (hIF:Calls Tryz.prog 195 #[.slice (some ⟨b,0,none⟩) xs.length cap,.func (.func g) first caps] w fun e w'=>e = .returned (.int .i64 (k0:Nat)) ∧ R xs w')
 (hcell:∀ ys w,R ys w→∀ j,j < ys.length→w.cell? ⟨b,j,none⟩ = some (.int .i64 (ys.getD j 0)) ∧ w.frozen? ⟨b,j,none⟩ = false)
 (hset:∀ ys w i v,R ys w→i < ys.length→R (ys.set i v) (w.setCell ⟨b,i,none⟩ (.int .i64 v)))
 (hdrew:∀ ys w,R ys w→R ys w.drew)
 (hcall:∀ ys w x,R ys w→x ∈ xs→Calls Tryz.prog g (first ++ #[.int .i64 x] ++ caps) w fun e w'=>e = .returned (.bool (q x)) ∧ R ys w')
 (hclear:∀ ys w i k,R ys w→i + k ≤ ys.length→∃ ys':List Int,ys'.length = ys.length ∧ ys'.take i = ys.take i ∧ R ys' (w.setCells b i (List.replicate k (.int .i64 0))))
 (hk0:k0 < xs.length) (hhit:q (xs.getD k0 0) = true) (hbefore:∀ j,j < k0→q (xs.getD j 0) = false) :
 Calls Tryz.prog 104 #[.slice (some ⟨b,0,none⟩) xs.length cap,.func (.func g) first caps] w fun e w'=>∃ (ys:List Int) (i:Nat),e = .returned (.slice (some ⟨b,0,none⟩) i cap) ∧ R ys w' ∧ ys.take i = xs.filter (fun x=>!q x) ∧ i ≤ ys.length:=by
 have hne1:((k0:Int) == -1) = false:=beq_eq_false_iff_ne.2 (by omega)
 have IS:Aside _:=zeY.start hk0 hhit hbefore
 have A1:Aside _:=hcell
 have A2:Aside _:=hset
 have A3:Aside _:=hdrew
 have A4:Aside _:=hcall
 have A5:Aside _:=hclear
 clear hcell hset hdrew hcall hclear hhit hbefore
 go_enter Tryz.func104,Tryz.ntmps104
 go_wp2_with (go_at_call 195; refine hIF.mono ?_; rintro e w' ⟨rfl,hR0⟩)
 go_loopg [5,6,7] xs.length (fun gg s5 s6 _ wr=>∃ (i j:Nat) (ys:List Int),s5 = .int .i64 i ∧ s6 = .int .i64 j ∧ xs.length - j ≤ gg ∧ Aside (R ys wr ∧ zeY q xs j i ys))
 case atStart=>exact ⟨k0,k0 + 1,xs,rfl,by go_num,by omega,⟨hR0,IS.out⟩⟩
 case round =>
  obtain ⟨i,j,ys,rfl,rfl,hgg,B⟩:=hrel
  have hij:=B.out.2.lt
  have hje:=B.out.2.le
  have hyl:=B.out.2.len
  by_cases hlt:j < xs.length
  ·have hltz:(j:Int) < (xs.length:Int):=by omega
   obtain ⟨cj,_⟩:=A1.out ys wr B.out.1 j (by omega)
   rw [B.out.2.get (Nat.le_refl j)] at cj
   have hmem:xs.getD j 0 ∈ xs:=by
    have e2:xs.getD j 0 = xs[j]'hlt:=by simp [List.getD,hlt]
    rw [e2]; exact List.getElem_mem _
   have hcall:=A4.out ys wr _ B.out.1 hmem
   generalize hu:xs.getD j 0 = u at cj hcall
   have C:Aside (xs.getD j 0 = u):=hu
   clear hu hmem
   cases hq:q u with
   | false =>
    rw [hq] at hcall
    go_wp2_with (go_at_fn g; refine hcall.mono ?_; rintro e w' ⟨rfl,hR1⟩; obtain ⟨ci,fi⟩:=A1.out ys w' hR1 i (by omega); generalize ys.getD i 0 = old at ci)
    go_roundg (xs.length - (j + 1))
    case measure=>omega
    case rel =>
     refine ⟨i + 1,j + 1,_,by go_num,by go_num,Nat.le_refl _,⟨?_,B.out.2.keep hlt (by rw [C.out]; exact hq)⟩⟩
     rw [C.out]
     exact A2.out _ _ _ _ hR1 (by omega)
   | true =>
    rw [hq] at hcall
    go_wp2_with (go_at_fn g; refine hcall.mono ?_; rintro e w' ⟨rfl,hR1⟩)
    go_roundg (xs.length - (j + 1))
    case measure=>omega
    case rel=>exact ⟨i,j + 1,ys,rfl,by go_num,Nat.le_refl _,⟨hR1,B.out.2.skip hlt (by rw [C.out]; exact hq)⟩⟩
  ·obtain rfl:j = xs.length:=by omega
   have hltz:¬ (xs.length:Int) < (xs.length:Int):=by omega
   have hcl:∀ ty,(Builtin.clear_ #[23] ty #[.slice (some ⟨b,i,none⟩) (xs.length - i) (cap - i)]).run Tryz.prog wr = .ok (.tuple #[]) (wr.setCells b i (List.replicate (xs.length - i) (.int .i64 0))) :=
    fun ty=>Lib.run_clear_slice wr 23 3 ty _ Tryz.underlying23 Tryz.zeroValue3 rfl rfl b i _ _ (by omega) (fun t ht=>by
     have:=A1.out ys wr B.out.1 (i + t) (by omega)
     rw [this.1]; rfl) (fun t ht=>by exact (A1.out ys wr B.out.1 (i + t) (by omega)).2)
   go_wp2
   go_ret
   obtain ⟨ys',e1,e2,hR'⟩:=A5.out ys wr i (xs.length - i) B.out.1 (by omega)
   exact ⟨ys',i,rfl,hR',by rw [e2]; exact B.out.2.done,by omega⟩
set_option maxHeartbeats 4000000 in
theorem zK5 {G:FH} {specI:(List Int × Option (Int × Unit→Option (Bool × Unit)) × Unit)→Option (Int × Unit)}
 (hI:zkQ Tryz.prog G 195 ⟨195,.pair (.sl (.int .i64)) (.pair (.fn (.pair (.int .i64) .unit) (.pair .bool .unit)) .unit),.pair (.int .i64) .unit,0,specI⟩)
 (hs:∀ (xs:List Int) (p:Int × Unit→Option (Bool × Unit)),(∀ x ∈ xs,(p (x,())).isSome = true)→xs.length ≤ 9223372036854775807→∃ i:Int,specI (xs,some p,()) = some (i,()) ∧
  ((i = -1 ∧ ∀ j,j < xs.length→zh0 p (xs.getD j 0) = false) ∨ ∃ k:Nat,k < xs.length ∧ i = (k:Int) ∧ zh0 p (xs.getD k 0) = true ∧ ∀ j,j < k→zh0 p (xs.getD j 0) = false)):zDr Tryz.prog G 104 zx4:=by
 refine ⟨⟨Tryz.f104,Tryz.func104,by kernel_rfl,by kernel_rfl⟩,?_⟩
 intro args h h' v he nt F0 w0 fr m F a w vs hG hR hv
 change zzW (AV × List Go.Ev.Obj) args h (fun v h=>some (v,h)) = some (v,h') at he
 unfold zzW at he
 split at he
 case h_2=>cases he
 rename_i id p
 split at he
 case h_2=>cases he
 rename_i xs ho
 obtain ⟨ys,hys,he⟩:=Option.bind_eq_some_iff.1 he
 simp only [Option.some.injEq,Prod.mk.injEq] at he
 obtain ⟨rfl,rfl⟩:=he
 obtain ⟨hall,hys⟩:=zb hys
 obtain ⟨hlen,hys⟩:=zb hys
 have hlen:=of_decide_eq_true hlen
 simp only [Option.some.injEq] at hys
 rw [List.all_eq_true] at hall
 obtain ⟨u1,r1,rfl,hv1,u2,r2,rfl,hv2,rfl⟩:=hv
 obtain ⟨g,first,caps,e,hen,hcall⟩:=zh.one (st:=⟨fr,h⟩) (m:=m) rfl hv2
 obtain rfl:u2 = .func (.func g) first caps:=by simpa using e
 have hcallAt:∀ x,x ∈ xs→∀ (F':FH) (w':World),F.le F'→F'.ok w'→Calls Tryz.prog g (first ++ #[.int .i64 x] ++ caps) w' fun e w''=>e = .returned (.bool (zh0 p x)) ∧ Below w'.heap.size w' w'' ∧ ∃ F'',F'.grow F'' w'.heap.size ∧ F''.ok w'':=by
  intro x hx F' w' hF hk
  obtain ⟨⟨y,⟨⟩⟩,hy⟩:=Option.isSome_iff_exists.1 (hall x hx)
  refine (hcall (x,()) _ hy F' w' [.int .i64 x] hF hk ⟨_,[],rfl,rfl,rfl,rfl⟩).mono ?_
  rintro e w'' ⟨us,F'',rfl,hb,hg,hok,v,r,rfl,h1,h2,h3⟩
  obtain rfl:r = []:=h3
  have h1:v.cells.toList = [.bool y]:=h1
  have e1:zh0 p x = y:=by unfold zh0; rw [hy]
  rw [e1]
  exact ⟨by rw [show v = .bool y from zsK h1 h2]; rfl,hb,F'',hg,hok⟩
 obtain ⟨F1,hF1,hk1,hrow⟩:∃ F1:FH,F.le F1 ∧ F1.ok w ∧ RepA Tryz.prog F1 (.pair (.sl (.int .i64)) (.pair (.fn (.pair (.int .i64) .unit) (.pair .bool .unit)) .unit)) (xs,some p,()) [u1,.func (.func g) first caps]:=by
  have how:=zh.owAt ho rfl hv1
  cases hm:m id with
  | none =>
   rw [hm] at how
   obtain ⟨hl0,ad,rfl⟩:=how
   obtain rfl:=List.eq_nil_of_length_eq_zero hl0
   exact ⟨F,.refl F,hR.fok,_,_,rfl,⟨ad,0,rfl,Nat.le_refl _,fun hx=>absurd rfl hx⟩,rfl,_,[],rfl,hv2.1,rfl,rfl⟩
  | some bn =>
   obtain ⟨b,n⟩:=bn
   rw [hm] at how
   obtain ⟨cap,hc,hl0,rfl⟩:=how
   obtain ⟨el,cs,h1,h2,h3,hl,⟨d,h4⟩,-⟩:=hR.ints ho hm
   have hle:=FH.put_le b cs h3
   refine ⟨F.put b cs,hle,fun k c hk=>?_,_,_,rfl,⟨some ⟨b,0,none⟩,cap,rfl,hl0,fun _=>⟨_,xs.map (Value.int .i64),rfl,⟨rfl,cs,?_,fun j v hj=>?_⟩,znx _⟩⟩,rfl,_,[],rfl,Rep.mono hle hv2.1,rfl,rfl⟩
   ·unfold FH.put at hk
    by_cases e:k = b
    ·subst e; rw [if_pos rfl] at hk; cases hk; exact ⟨el,(0,0),h1⟩
    ·rw [if_neg e] at hk; exact hR.fok _ _ hk
   ·unfold FH.put; rw [if_pos rfl]
   ·show cs[0 + j]? = some v
    rw [Nat.zero_add,← Array.getElem?_toList,h4,List.getElem?_append_left (List.getElem?_eq_some_iff.1 hj).1]
    exact hj
 obtain ⟨i0,hi0,hcase⟩:=hs xs p hall hlen
 have hIF:Calls Tryz.prog 195 #[u1,.func (.func g) first caps] w fun e w'=>e = .returned (.int .i64 i0) ∧ ∃ F',F.grow F' w.heap.size ∧ Rel Tryz.prog nt F0 w0 ⟨fr,h⟩ m F' a w':=by
  refine (hI.2 _ _ hi0 F1 w [u1,.func (.func g) first caps] ((hG.trans hR.gro.1).trans hF1) hk1 hrow).mono ?_
  rintro e w' ⟨us,F2,rfl,hb,hg2,hok2,v,r,rfl,h1,h2,h3⟩
  obtain rfl:r = []:=h3
  have h1:v.cells.toList = [.int .i64 i0]:=h1
  obtain ⟨F',hg',hR'⟩:=hR.stepF hb fun k c hk _=>hok2 k c hk
  exact ⟨by rw [show v = .int .i64 i0 from zsK h1 h2]; rfl,F',hg',hR'⟩
 show Calls Tryz.prog 104 #[u1,.func (.func g) first caps] w _
 rcases hcase with ⟨rfl,hno⟩ | ⟨k0,hk0,rfl,hhit,hbefore⟩
 ·have hfil:(xs.filter fun x=>!zh0 p x) = xs:=by
   rw [List.filter_eq_self]
   intro x hx
   obtain ⟨j,hj,rfl⟩:=List.getElem_of_mem hx
   have:=hno j hj
   have e2:xs.getD j 0 = xs[j]'hj:=by simp [List.getD,hj]
   rw [e2] at this
   simp [this]
  rw [hfil] at hys
  subst hys
  refine (zK3 (Q:=fun w'=>∃ F',F.le F' ∧ Rel Tryz.prog nt F0 w0 ⟨fr,h⟩ m F' a w') (hIF.mono ?_) ?_).mono ?_
  ·rintro e w' ⟨rfl,F',hg',hR'⟩; exact ⟨rfl,F',hg'.1,hR'⟩
  ·rintro w' ⟨F',hg',hR'⟩; exact ⟨F',hg',hR'.drew⟩
  ·rintro e w' ⟨rfl,F',hg',hR'⟩
   have how:=zh.owAt ho rfl hv1
   cases hm:m id with
   | none =>
    rw [hm] at how
    obtain ⟨hl0,ad,rfl⟩:=how
    obtain rfl:=List.eq_nil_of_length_eq_zero hl0
    obtain ⟨m',hR2,hV⟩:=hR'.handed0 ho
    exact ⟨_,m',F',rfl,hg',hR2,hV ad⟩
   | some bn =>
    obtain ⟨b,n⟩:=bn
    rw [hm] at how
    obtain ⟨cap,hc,hl0,rfl⟩:=how
    obtain ⟨m',hR2,hV⟩:=hR'.handed (i:=xs.length) (ys:=xs) ho hm (List.take_length)
    refine ⟨_,m',F',rfl,hg',hR2,?_⟩
    have:n = cap:=by simpa [nc] using hc
    rw [this] at hV
    exact hV
 ·have how:=zh.owAt ho rfl hv1
  cases hm:m id with
  | none =>
   rw [hm] at how
   obtain ⟨hl0,ad,rfl⟩:=how
   have hl0:xs.length = 0:=hl0
   omega
  | some bn =>
   obtain ⟨b,n⟩:=bn
   rw [hm] at how
   obtain ⟨cap,hc,hl0,rfl⟩:=how
   have hcn:n = cap:=by simpa [nc] using hc
   have hoS:∀ ys:List Int,atN (zf h id (.row (.int .i64) ys false)) id = some (.row (.int .i64) ys false):=fun ys=>vw ho
   refine (zK4 (q:=zh0 p) (fun ys w'=>∃ F',F.le F' ∧ Rel Tryz.prog nt F0 w0 ⟨fr,zf h id (.row (.int .i64) ys false)⟩ m F' a w') hlen hl0 (fun _ _=>zfe hen) (hIF.mono ?_) ?_ ?_ ?_ ?_ ?_ hk0 hhit hbefore).mono ?_
   ·rintro e w' ⟨rfl,F',hg',hR'⟩
    exact ⟨rfl,F',hg'.1,by rw [zqP _ _ _ ho]; exact hR'⟩
   ·rintro ys w' ⟨F',hg',hR'⟩ j hj
    exact (hR'.ints (hoS ys) hm).choose_spec.choose_spec.2.2.2.2.2 j hj
   ·rintro ys w' i v ⟨F',hg',hR'⟩ hi
    have:=hR'.intsSet (hoS ys) hm hi v
    rw [zeI] at this
    exact ⟨F',hg',this⟩
   ·rintro ys w' ⟨F',hg',hR'⟩
    exact ⟨F',hg',hR'.drew⟩
   ·rintro ys w' x ⟨F',hg',hR'⟩ hx
    refine (hcallAt x hx F' w' hg' hR'.fok).mono ?_
    rintro e w'' ⟨rfl,hb,F'',hgr,hok⟩
    exact ⟨rfl,F'',hg'.trans hgr.1,hR'.step hb hgr hok⟩
   ·rintro ys w' i k ⟨F',hg',hR'⟩ hi
    obtain ⟨ys',e1,e2,hR2⟩:=Rel.intsClear hm k i w' _ ys hR' (hoS ys) hi
    rw [zeI] at hR2
    exact ⟨ys',e1,e2,F',hg',hR2⟩
   ·rintro e w' ⟨ys',i,rfl,⟨F',hg',hR'⟩,hty,hi⟩
    obtain ⟨m',hR2,hV⟩:=hR'.handed (i:=i) (hoS ys') hm (hty.trans hys)
    rw [zeI] at hR2 hV
    refine ⟨_,m',F',rfl,hg',hR2,?_⟩
    have el:ys.length = i:=by rw [← hys,← hty,List.length_take]; omega
    rw [zko,el,hcn] at hV
    exact hV
end Go.Proofs.YtkcakhbkoeimdaaGreatDoor
end
section
namespace Go.Proofs.YtkcakhbkoeimdaaGreatDoor
open Go.Ev
noncomputable section
abbrev Sq (F:Fun):Prop:=Sd Tryz.prog E0 F
def L0:List Fun:=[]
theorem h0:Sds Tryz.prog E0 L0:=trivial
theorem ms0 {d:Bool} {F:Fun} {f:Go.Func} {K:Nat} (hf:Tryz.prog.funcs[F.id]? = some f) (ho:jC f = true) (h:evF (En E0 d L0) K f F.md F.a F.r = F.spec):Sd Tryz.prog E0 F:=mkS h0 hf ho h
theorem mj0 {d:Bool} {js:List Nat} {F:Fun} {f:Go.Func} {K:Nat} (hf:Tryz.prog.funcs[F.id]? = some f) (ho:jC f = true) (h:evF (Ej E0 d js L0) K f F.md F.a F.r = F.spec):Sd Tryz.prog E0 F:=zM8 h0 hf ho h
theorem ml0 {d:Bool} {F:Fun} {f:Go.Func} {S:Nat→F.a.I→Option F.r.I} (hf:Tryz.prog.funcs[F.id]? = some f) (ho:jC f = true) (h:∀ K,evF (En E0 d L0) K f F.md F.a F.r = S K) (e:S K0 = F.spec):Sd Tryz.prog E0 F:=mkS h0 hf ho ((h K0).trans e)
abbrev Es0:Env:=En E0 false L0
def zbW:(zo × Unit)→Option (Bool × Unit):=fun (x0,()) =>
 bif decide (x0.1 ≥ 0) then bif decide (x0.1 < 4) then some (true,()) else some (false,()) else some (false,())
abbrev zru:Fun:=⟨32,(ch [zn]),(ch [.bool]),0,zbW⟩
theorem zBX:Sq zru:=ms0 (d:=false) (K:=0) Tryz.func32 (by kernel_rfl) (funext fun (x0,())=>by kernel_rfl)
def ql:(Int × (Int × (Int × Unit)))→Option (Bool × Unit):=fun (x0,x1,x2,()) =>
 bif decide (x0 ≥ x1) then bif decide (x0 ≤ x2) then some (true,()) else some (false,()) else some (false,())
abbrev zpc:Fun:=⟨135,(ch [tI,tI,tI]),(ch [.bool]),0,ql⟩
theorem zzX:Sq zpc:=ms0 (d:=false) (K:=0) Tryz.func135 (by kernel_rfl) (funext fun (x0,x1,x2,())=>by kernel_rfl)
abbrev vb:Type:=(List zo) × (Option ((zo × Unit)→Option (Bool × Unit))) × Int × Int
abbrev zoy:vb→St:=fun (v0,v1,v7,v8)=>St.mk [(0,.dat (.sl zn) v0),(1,.dat (.fn (.pair zn .unit) (.pair .bool .unit)) v1),(7,.dat tI v7),(8,.dat tI v8)] []
def zcP (k0:vb→Option (Int × Unit)):vb→Option (Int × Unit):=fun (v0,v1,v7,v8) =>
 bif decide (v8 < v7) then inR v8 ((List.length v0):Int) (Option.bind v1 fun q0=>Option.bind (q0 (ix zA v0 v8,())) fun q1=>bif q1.1 then some (v8,()) else k0 (v0,v1,v7,wI (v8 + 1))) else some ((-1),())
abbrev zgw (K:Nat):vb→Option (Int × Unit):=zk zcP K
theorem zoz (K:Nat):∀ n,evV Es0 K Tryz.f356 0 (ch [tI]) [1,0,1,0] [] zoy n = zk zcP n:=zt fun n0 (v0,v1,v7,v8)=>by kernel_rfl
def zd4 (L0:vb→Option (Int × Unit)):((List zo) × ((Option ((zo × Unit)→Option (Bool × Unit))) × Unit))→Option (Int × Unit):=fun (x0,x1,()) =>
 L0 (x0,x1,((List.length x0):Int),0)
def zaO:((List zo) × ((Option ((zo × Unit)→Option (Bool × Unit))) × Unit))→Option (Int × Unit):=zd4 (zgw K0)
abbrev zh2:Fun:=⟨356,(ch [(.sl zn),(.fn (ch [zn]) (ch [.bool]))]),(ch [tI]),0,zaO⟩
theorem zqQ:Sq zh2:=ml0 (d:=false) (S:=fun K=>zd4 (zgw K)) Tryz.func356 (by kernel_rfl) (fun K=>tr1 (T:=zd4) (zoz K K) fun (x0,x1,())=>by kernel_rfl) rfl
def zao:(Int × Unit)→Option (Bool × Unit):=fun (x0,()) =>
 bif x0 != x0 then some (true,()) else some (false,())
abbrev znz:Fun:=⟨364,(ch [tI]),(ch [.bool]),0,zao⟩
theorem zx5:Sq znz:=ms0 (d:=false) (K:=0) Tryz.func364 (by kernel_rfl) (funext fun (x0,())=>by kernel_rfl)
def vy:(Int × Unit)→Option (Bool × Unit):=fun (x0,()) =>
 bif x0 != x0 then some (true,()) else some (false,())
abbrev zkp:Fun:=⟨363,(ch [tU]),(ch [.bool]),0,vy⟩
theorem zs3:Sq zkp:=ms0 (d:=false) (K:=0) Tryz.func363 (by kernel_rfl) (funext fun (x0,())=>by kernel_rfl)
abbrev zdk:Type:=Int × (List Int) × Int × Int
abbrev zzY:zdk→St:=fun (v3,v6,v7,v8)=>St.mk [(3,.dat tI v3),(6,.dat (.sl tI) v6),(7,.dat tI v7),(8,.dat tI v8)] []
def qU (k0:zdk→Option (Int × Unit)):zdk→Option (Int × Unit):=fun (v3,v6,v7,v8) =>
 bif decide (v8 < v7) then inR v8 ((List.length v6):Int) (bif ix (0:Int) v6 v8 != v3 then some (ix (0:Int) v6 v8,()) else k0 (v3,v6,v7,wI (v8 + 1))) else some (v3,())
abbrev zpd (K:Nat):zdk→Option (Int × Unit):=zk qU K
theorem zzZ (K:Nat):∀ n,evV Es0 K Tryz.f340 0 (ch [tI]) [1,1,0,1,0] [] zzY n = zk qU n:=zt fun n0 (v3,v6,v7,v8)=>by kernel_rfl
def zl3 (L0:zdk→Option (Int × Unit)):((List Int) × Unit)→Option (Int × Unit):=fun (x0,()) =>
 L0 (0,x0,((List.length x0):Int),0)
def zdl:((List Int) × Unit)→Option (Int × Unit):=zl3 (zpd K0)
abbrev zs4:Fun:=⟨340,(ch [(.sl tI)]),(ch [tI]),0,zdl⟩
theorem zD5:Sq zs4:=ml0 (d:=false) (S:=fun K=>zl3 (zpd K)) Tryz.func340 (by kernel_rfl) (fun K=>tr1 (T:=zl3) (zzZ K K) fun (x0,())=>by kernel_rfl) rfl
abbrev vW:Type:=(List Int) × (Option ((Int × Unit)→Option (Bool × Unit))) × Int × Int
abbrev zqR:vW→St:=fun (v0,v1,v7,v8)=>St.mk [(0,.dat (.sl tI) v0),(1,.dat (.fn (.pair tI .unit) (.pair .bool .unit)) v1),(7,.dat tI v7),(8,.dat tI v8)] []
def zaP (k0:vW→Option (Int × Unit)):vW→Option (Int × Unit):=fun (v0,v1,v7,v8) =>
 bif decide (v8 < v7) then inR v8 ((List.length v0):Int) (Option.bind v1 fun q0=>Option.bind (q0 (ix (0:Int) v0 v8,())) fun q1=>bif q1.1 then some (v8,()) else k0 (v0,v1,v7,wI (v8 + 1))) else some ((-1),())
abbrev zh3 (K:Nat):vW→Option (Int × Unit):=zk zaP K
theorem zqS (K:Nat):∀ n,evV Es0 K Tryz.f195 0 (ch [tI]) [1,0,1,0] [] zqR n = zk zaP n:=zt fun n0 (v0,v1,v7,v8)=>by kernel_rfl
def zfk (L0:vW→Option (Int × Unit)):((List Int) × ((Option ((Int × Unit)→Option (Bool × Unit))) × Unit))→Option (Int × Unit):=fun (x0,x1,()) =>
 L0 (x0,x1,((List.length x0):Int),0)
def vz:((List Int) × ((Option ((Int × Unit)→Option (Bool × Unit))) × Unit))→Option (Int × Unit):=zfk (zh3 K0)
abbrev zkq:Fun:=⟨195,(ch [(.sl tI),(.fn (ch [tI]) (ch [.bool]))]),(ch [tI]),0,vz⟩
theorem zkr:Sq zkq:=ml0 (d:=false) (S:=fun K=>zfk (zh3 K)) Tryz.func195 (by kernel_rfl) (fun K=>tr1 (T:=zfk) (zqS K K) fun (x0,x1,())=>by kernel_rfl) rfl
def zfl:(Int × Unit)→Option (Bool × Unit):=fun (x0,()) =>
 bif decide (x0 ≥ 97) then bif decide (x0 ≤ 122) then some (true,()) else some (false,()) else some (false,())
abbrev zs5:Fun:=⟨323,(ch [(.int .u8)]),(ch [.bool]),0,zfl⟩
theorem zD6:Sq zs5:=ms0 (d:=false) (K:=0) Tryz.func323 (by kernel_rfl) (funext fun (x0,())=>by kernel_rfl)
def zh4:(Int × ((Option (Option ((Int × Unit)→Option (Bool × Unit)))) × Unit))→Option (Bool × Unit):=fun (x0,x1,()) =>
 Option.bind x1 fun q0=>Option.bind q0 fun q1=>Option.bind (q1 (x0,())) fun q2=>bif q2.1 then some (false,()) else some (true,())
abbrev zs6:Fun:=⟨220,(ch [(.int .u8),(.ptr (.fn (ch [(.int .u8)]) (ch [.bool])))]),(ch [.bool]),0,zh4⟩
theorem zD7:Sq zs6:=ms0 (d:=false) (K:=0) Tryz.func220 (by kernel_rfl) (funext fun (x0,x1,())=>by kernel_rfl)
abbrev vA:Type:=(List Int) × (Option ((Int × Unit)→Option (Bool × Unit))) × Int × Int
abbrev zpe:vA→St:=fun (v0,v1,v7,v8)=>St.mk [(0,.dat (.sl (.int IntKind.u8)) v0),(1,.dat (.fn (.pair (.int IntKind.u8) .unit) (.pair .bool .unit)) v1),(7,.dat tI v7),(8,.dat tI v8)] []
def zdm (k0:vA→Option (Int × Unit)):vA→Option (Int × Unit):=fun (v0,v1,v7,v8) =>
 bif decide (v8 < v7) then inR v8 ((List.length v0):Int) (Option.bind v1 fun q0=>Option.bind (q0 (ix (ze (.int IntKind.u8)) v0 v8,())) fun q1=>bif q1.1 then some (v8,()) else k0 (v0,v1,v7,wI (v8 + 1))) else some ((-1),())
abbrev zhD (K:Nat):vA→Option (Int × Unit):=zk zdm K
theorem zpf (K:Nat):∀ n,evV Es0 K Tryz.f311 0 (ch [tI]) [1,0,1,0] [] zpe n = zk zdm n:=zt fun n0 (v0,v1,v7,v8)=>by kernel_rfl
def zeO (L0:vA→Option (Int × Unit)):((List Int) × ((Option ((Int × Unit)→Option (Bool × Unit))) × Unit))→Option (Int × Unit):=fun (x0,x1,()) =>
 L0 (x0,x1,((List.length x0):Int),0)
def zbK:((List Int) × ((Option ((Int × Unit)→Option (Bool × Unit))) × Unit))→Option (Int × Unit):=zeO (zhD K0)
abbrev zi7:Fun:=⟨311,(ch [(.sl (.int .u8)),(.fn (ch [(.int .u8)]) (ch [.bool]))]),(ch [tI]),0,zbK⟩
theorem zse:Sq zi7:=ml0 (d:=false) (S:=fun K=>zeO (zhD K)) Tryz.func311 (by kernel_rfl) (fun K=>tr1 (T:=zeO) (zpf K K) fun (x0,x1,())=>by kernel_rfl) rfl
def zh5:(Int × Unit)→Option (Bool × Unit):=fun (x0,()) =>
 bif decide (x0 ≥ 48) then bif decide (x0 ≤ 57) then some (true,()) else some (false,()) else some (false,())
abbrev zs7:Fun:=⟨325,(ch [(.int .u8)]),(ch [.bool]),0,zh5⟩
theorem zD8:Sq zs7:=ms0 (d:=false) (K:=0) Tryz.func325 (by kernel_rfl) (funext fun (x0,())=>by kernel_rfl)
abbrev jJ:Type:=(List qO) × (Option ((qO × Unit)→Option (Bool × Unit))) × Int × Int
abbrev zl4:jJ→St:=fun (v0,v1,v7,v8)=>St.mk [(0,.dat (.sl qN) v0),(1,.dat (.fn (.pair qN .unit) (.pair .bool .unit)) v1),(7,.dat tI v7),(8,.dat tI v8)] []
def zbk (k0:jJ→Option (Int × Unit)):jJ→Option (Int × Unit):=fun (v0,v1,v7,v8) =>
 bif decide (v8 < v7) then inR v8 ((List.length v0):Int) (Option.bind v1 fun q0=>Option.bind (q0 (ix zfi v0 v8,())) fun q1=>bif q1.1 then some (v8,()) else k0 (v0,v1,v7,wI (v8 + 1))) else some ((-1),())
abbrev zfm (K:Nat):jJ→Option (Int × Unit):=zk zbk K
theorem zl5 (K:Nat):∀ n,evV Es0 K Tryz.f357 0 (ch [tI]) [1,0,1,0] [] zl4 n = zk zbk n:=zt fun n0 (v0,v1,v7,v8)=>by kernel_rfl
def zcQ (L0:jJ→Option (Int × Unit)):((List qO) × ((Option ((qO × Unit)→Option (Bool × Unit))) × Unit))→Option (Int × Unit):=fun (x0,x1,()) =>
 L0 (x0,x1,((List.length x0):Int),0)
def y0:((List qO) × ((Option ((qO × Unit)→Option (Bool × Unit))) × Unit))→Option (Int × Unit):=zcQ (zfm K0)
abbrev zgx:Fun:=⟨357,(ch [(.sl qN),(.fn (ch [qN]) (ch [.bool]))]),(ch [tI]),0,y0⟩
theorem zoA:Sq zgx:=ml0 (d:=false) (S:=fun K=>zcQ (zfm K)) Tryz.func357 (by kernel_rfl) (fun K=>tr1 (T:=zcQ) (zl5 K K) fun (x0,x1,())=>by kernel_rfl) rfl
abbrev yz:Type:=(List qO) × Int × Int × List ByteArray
abbrev zsf:yz→St:=fun (v7,v8,v9,o0)=>St.mk [(3,.ow 0),(7,.dat (.sl qN) v7),(8,.dat tI v8),(9,.dat tI v9)] [.row .str o0 false]
def yA (k0:yz→Option ((List ByteArray) × Unit)):yz→Option ((List ByteArray) × Unit):=fun (v7,v8,v9,o0) =>
 bif decide (v9 < v8) then inR v9 ((List.length v7):Int) (bif decide (List.length o0 + List.length (zf (List.replicate 1 (ze .str)) 0 (ix zfi v7 v9).1) ≤ lim) then k0 (v7,v8,wI (v9 + 1),o0 ++ zf (List.replicate 1 (ze .str)) 0 (ix zfi v7 v9).1) else none) else some (o0,())
abbrev zi8 (K:Nat):yz→Option ((List ByteArray) × Unit):=zk yA K
theorem zsg (K:Nat):∀ n,evV Es0 K Tryz.f306 0 (ch [(.sl .str)]) [1,1,0,1,0] [] zsf n = zk yA n:=zt fun n0 (v7,v8,v9,o0)=>by kernel_rfl
def zgf (L0:yz→Option ((List ByteArray) × Unit)):(za × Unit)→Option ((List ByteArray) × Unit):=fun (x0,()) =>
 L0 (x0.2.2.1,((List.length x0.2.2.1):Int),0,[])
def zgg:(za × Unit)→Option ((List ByteArray) × Unit):=zgf (zi8 K0)
abbrev zlb:Fun:=⟨306,(ch [zl]),(ch [(.sl .str)]),0,zgg⟩
theorem zuM:Sq zlb:=ml0 (d:=false) (S:=fun K=>zgf (zi8 K)) Tryz.func306 (by kernel_rfl) (fun K=>tr1 (T:=zgf) (zsg K K) fun (x0,())=>by kernel_rfl) rfl
abbrev zdn:Type:=(List ByteArray) × (List ByteArray) × Int × Int × List (ByteArray × Int)
abbrev zz0:zdn→St:=fun (v0,v7,v8,v9,o0)=>St.mk [(0,.dat (.sl .str) v0),(3,.om 0),(7,.dat (.sl .str) v7),(8,.dat tI v8),(9,.dat tI v9)] [.mp .str tI o0]
def zdo (k0:zdn→Option (Bool × Unit)):zdn→Option (Bool × Unit):=fun (v0,v7,v8,v9,o0) =>
 bif decide (v9 < v8) then inR v9 ((List.length v7):Int) (k0 (v0,v7,v8,wI (v9 + 1),yJ .str o0 (List.getD v7 (Int.toNat v9) (ze .str)) (wI (zcM .str (0:Int) o0 (List.getD v7 (Int.toNat v9) (ze .str)) + 1)))) else bif ((List.length o0):Int) == ((List.length v0):Int) then some (true,()) else some (false,())
abbrev zpg (K:Nat):zdn→Option (Bool × Unit):=zk zdo K
theorem zz1 (K:Nat):∀ n,evV Es0 K Tryz.f305 0 (ch [.bool]) [1,1,0,1,0] [] zz0 n = zk zdo n:=zt fun n0 (v0,v7,v8,v9,o0)=>by kernel_rfl
def zl6 (L0:zdn→Option (Bool × Unit)):((List ByteArray) × Unit)→Option (Bool × Unit):=fun (x0,()) =>
 L0 (x0,x0,((List.length x0):Int),0,[])
def zl7:((List ByteArray) × Unit)→Option (Bool × Unit):=zl6 (zpg K0)
abbrev zs8:Fun:=⟨305,(ch [(.sl .str)]),(ch [.bool]),0,zl7⟩
theorem zD9:Sq zs8:=ml0 (d:=false) (S:=fun K=>zl6 (zpg K)) Tryz.func305 (by kernel_rfl) (fun K=>tr1 (T:=zl6) (zz1 K K) fun (x0,())=>by kernel_rfl) rfl
def zbl:(Int × Unit)→Option (zo × (Int × Unit)):=fun (x0,()) =>
 bif decide (x0 < 0) then some ((0,0,()),1,()) else bif decide (x0 ≥ 64) then some ((0,0,()),1,()) else bif decide (x0 < 0) then none else some ((0,wU (1 * 2 ^ min (Int.toNat x0) (IntKind.bits IntKind.u64)),()),0,())
abbrev zs9:Fun:=⟨136,(ch [tI]),(ch [zn,tI]),0,zbl⟩
theorem zEa:Sq zs9:=ms0 (d:=false) (K:=0) Tryz.func136 (by kernel_rfl) (funext fun (x0,())=>by kernel_rfl)
abbrev zac:Type:=(List zo) × Int × Int × zo
abbrev zta:zac→St:=fun (v0,v7,v8,o0)=>St.mk [(0,.dat (.sl zn) v0),(3,.bp 0 []),(7,.dat tI v7),(8,.dat tI v8)] [.bx (.dat zn o0) false]
def qX (k0:zac→Option (Int × Unit)):zac→Option (Int × Unit):=fun (v0,v7,v8,o0) =>
 bif decide (v8 < v7) then inR v8 ((List.length v0):Int) (bif eqI zn o0 (ix zA v0 v8) then some (v8,()) else k0 (v0,v7,wI (v8 + 1),o0)) else some ((-1),())
abbrev zks (K:Nat):zac→Option (Int × Unit):=zk qX K
theorem ztb (K:Nat):∀ n,evV Es0 K Tryz.f235 0 (ch [tI]) [1,0,1,0] [] zta n = zk qX n:=zt fun n0 (v0,v7,v8,o0)=>by kernel_rfl
def zhc (L0:zac→Option (Int × Unit)):((List zo) × (zo × Unit))→Option (Int × Unit):=fun (x0,x1,()) =>
 L0 (x0,((List.length x0):Int),0,x1)
def zbm:((List zo) × zo × Unit)→Option (Int × Unit):=zhc (zks K0)
abbrev zl8:Fun:=⟨235,(ch [(.sl zn),zn]),(ch [tI]),0,zbm⟩
theorem zwh:Sq zl8:=ml0 (d:=false) (S:=fun K=>zhc (zks K)) Tryz.func235 (by kernel_rfl) (fun K=>tr1 (T:=zhc) (ztb K K) fun (x0,x1,())=>by kernel_rfl) rfl
def zhd:(zo × ((Option Int) × Unit))→Option (Bool × Unit):=fun (x0,x1,()) =>
 Option.bind x1 fun q0=>bif wU (↑(BitVec.toNat (BitVec.ofInt (IntKind.bits IntKind.u64) x0.2.1 &&& ~~~BitVec.ofInt (IntKind.bits IntKind.u64) q0)):Int) != 0 then some (true,()) else some (false,())
abbrev zl9:Fun:=⟨308,(ch [zn,(.ptr tU)]),(ch [.bool]),0,zhd⟩
theorem zwi:Sq zl9:=ms0 (d:=false) (K:=0) Tryz.func308 (by kernel_rfl) (funext fun (x0,x1,())=>by kernel_rfl)
def zh6:(zcb × Unit)→Option ((List Int) × Unit):=fun (x0,()) =>
 some ([x0.1,x0.2.1,x0.2.2.1,x0.2.2.2.1,x0.2.2.2.2.1],())
abbrev znA:Fun:=⟨310,(ch [zdj]),(ch [(.sl tI)]),0,zh6⟩
theorem zx6:Sq znA:=ms0 (d:=false) (K:=0) Tryz.func310 (by kernel_rfl) (funext fun (x0,())=>by kernel_rfl)
def zbL:(zi × ((Option (Option ((zi × Unit)→Option (Bool × Unit)))) × Unit))→Option (Bool × Unit):=fun (x0,x1,()) =>
 Option.bind x1 fun q0=>Option.bind q0 fun q1=>Option.bind (q1 (x0,())) fun q2=>bif q2.1 then some (false,()) else some (true,())
abbrev zi9:Fun:=⟨237,(ch [zp,(.ptr (.fn (ch [zp]) (ch [.bool])))]),(ch [.bool]),0,zbL⟩
theorem zsh:Sq zi9:=ms0 (d:=false) (K:=0) Tryz.func237 (by kernel_rfl) (funext fun (x0,x1,())=>by kernel_rfl)
abbrev vc:Type:=(List zi) × (Option ((zi × Unit)→Option (Bool × Unit))) × Int × Int
abbrev zoB:vc→St:=fun (v0,v1,v7,v8)=>St.mk [(0,.dat (.sl zp) v0),(1,.dat (.fn (.pair zp .unit) (.pair .bool .unit)) v1),(7,.dat tI v7),(8,.dat tI v8)] []
def zcR (k0:vc→Option (Int × Unit)):vc→Option (Int × Unit):=fun (v0,v1,v7,v8) =>
 bif decide (v8 < v7) then inR v8 ((List.length v0):Int) (Option.bind v1 fun q0=>Option.bind (q0 (ix zg v0 v8,())) fun q1=>bif q1.1 then some (v8,()) else k0 (v0,v1,v7,wI (v8 + 1))) else some ((-1),())
abbrev zgy (K:Nat):vc→Option (Int × Unit):=zk zcR K
theorem zoC (K:Nat):∀ n,evV Es0 K Tryz.f321 0 (ch [tI]) [1,0,1,0] [] zoB n = zk zcR n:=zt fun n0 (v0,v1,v7,v8)=>by kernel_rfl
def zd5 (L0:vc→Option (Int × Unit)):((List zi) × ((Option ((zi × Unit)→Option (Bool × Unit))) × Unit))→Option (Int × Unit):=fun (x0,x1,()) =>
 L0 (x0,x1,((List.length x0):Int),0)
def zaQ:((List zi) × ((Option ((zi × Unit)→Option (Bool × Unit))) × Unit))→Option (Int × Unit):=zd5 (zgy K0)
abbrev zh7:Fun:=⟨321,(ch [(.sl zp),(.fn (ch [zp]) (ch [.bool]))]),(ch [tI]),0,zaQ⟩
theorem zqT:Sq zh7:=ml0 (d:=false) (S:=fun K=>zd5 (zgy K)) Tryz.func321 (by kernel_rfl) (fun K=>tr1 (T:=zd5) (zoC K K) fun (x0,x1,())=>by kernel_rfl) rfl
abbrev vB:Type:=(List ja) × (Option ((ja × Unit)→Option (Bool × Unit))) × Int × Int
abbrev zph:vB→St:=fun (v0,v1,v7,v8)=>St.mk [(0,.dat (.sl qn) v0),(1,.dat (.fn (.pair qn .unit) (.pair .bool .unit)) v1),(7,.dat tI v7),(8,.dat tI v8)] []
def zdp (k0:vB→Option (Int × Unit)):vB→Option (Int × Unit):=fun (v0,v1,v7,v8) =>
 bif decide (v8 < v7) then inR v8 ((List.length v0):Int) (Option.bind v1 fun q0=>Option.bind (q0 (ix zuw v0 v8,())) fun q1=>bif q1.1 then some (v8,()) else k0 (v0,v1,v7,wI (v8 + 1))) else some ((-1),())
abbrev zhE (K:Nat):vB→Option (Int × Unit):=zk zdp K
theorem zpi (K:Nat):∀ n,evV Es0 K Tryz.f322 0 (ch [tI]) [1,0,1,0] [] zph n = zk zdp n:=zt fun n0 (v0,v1,v7,v8)=>by kernel_rfl
def zeP (L0:vB→Option (Int × Unit)):((List ja) × ((Option ((ja × Unit)→Option (Bool × Unit))) × Unit))→Option (Int × Unit):=fun (x0,x1,()) =>
 L0 (x0,x1,((List.length x0):Int),0)
def zbM:((List ja) × ((Option ((ja × Unit)→Option (Bool × Unit))) × Unit))→Option (Int × Unit):=zeP (zhE K0)
abbrev zja:Fun:=⟨322,(ch [(.sl qn),(.fn (ch [qn]) (ch [.bool]))]),(ch [tI]),0,zbM⟩
theorem zsi:Sq zja:=ml0 (d:=false) (S:=fun K=>zeP (zhE K)) Tryz.func322 (by kernel_rfl) (fun K=>tr1 (T:=zeP) (zpi K K) fun (x0,x1,())=>by kernel_rfl) rfl
def zfn:(zN × Unit)→Option (Bool × Unit):=fun (x0,()) =>
 bif decide (x0.1 ≥ 0) then bif decide (x0.1 ≤ 127) then bif decide (x0.2.1 ≥ 0) then bif decide (x0.2.1 ≤ 127) then some (true,()) else some (false,()) else some (false,()) else some (false,()) else some (false,())
abbrev ztc:Fun:=⟨326,(ch [zR]),(ch [.bool]),0,zfn⟩
theorem zEb:Sq ztc:=ms0 (d:=false) (K:=0) Tryz.func326 (by kernel_rfl) (funext fun (x0,())=>by kernel_rfl)
def zh8:(Int × Unit)→Option (Bool × Unit):=fun (x0,()) =>
 bif decide (x0 ≥ 0) then bif decide (x0 < 6) then some (true,()) else some (false,()) else some (false,())
abbrev ztd:Fun:=⟨327,(ch [tI]),(ch [.bool]),0,zh8⟩
theorem zEc:Sq ztd:=ms0 (d:=false) (K:=0) Tryz.func327 (by kernel_rfl) (funext fun (x0,())=>by kernel_rfl)
def zfQ:(qg × ((Option zN) × ((Option Int) × Unit)))→Option (Bool × Unit):=fun (x0,x1,x2,()) =>
 bif x0.1 then Option.bind x1 fun q0=>bif eqI zR x0.2.1 q0 then Option.bind x2 fun q1=>bif x0.2.2.2.1 == q1 then some (true,()) else some (false,()) else some (false,()) else some (false,())
abbrev zpj:Fun:=⟨329,(ch [z4,(.ptr zR),(.ptr tI)]),(ch [.bool]),0,zfQ⟩
theorem zz2:Sq zpj:=ms0 (d:=false) (K:=0) Tryz.func329 (by kernel_rfl) (funext fun (x0,x1,x2,())=>by kernel_rfl)
abbrev vC:Type:=(List qg) × (Option ((qg × Unit)→Option (Bool × Unit))) × Int × Int
abbrev zpk:vC→St:=fun (v0,v1,v7,v8)=>St.mk [(0,.dat (.sl z4) v0),(1,.dat (.fn (.pair z4 .unit) (.pair .bool .unit)) v1),(7,.dat tI v7),(8,.dat tI v8)] []
def zdq (k0:vC→Option (Int × Unit)):vC→Option (Int × Unit):=fun (v0,v1,v7,v8) =>
 bif decide (v8 < v7) then inR v8 ((List.length v0):Int) (Option.bind v1 fun q0=>Option.bind (q0 (ix vU v0 v8,())) fun q1=>bif q1.1 then some (v8,()) else k0 (v0,v1,v7,wI (v8 + 1))) else some ((-1),())
abbrev zhF (K:Nat):vC→Option (Int × Unit):=zk zdq K
theorem zpl (K:Nat):∀ n,evV Es0 K Tryz.f328 0 (ch [tI]) [1,0,1,0] [] zpk n = zk zdq n:=zt fun n0 (v0,v1,v7,v8)=>by kernel_rfl
def zeQ (L0:vC→Option (Int × Unit)):((List qg) × ((Option ((qg × Unit)→Option (Bool × Unit))) × Unit))→Option (Int × Unit):=fun (x0,x1,()) =>
 L0 (x0,x1,((List.length x0):Int),0)
def yB:((List qg) × ((Option ((qg × Unit)→Option (Bool × Unit))) × Unit))→Option (Int × Unit):=zeQ (zhF K0)
abbrev zjb:Fun:=⟨328,(ch [(.sl z4),(.fn (ch [z4]) (ch [.bool]))]),(ch [tI]),0,yB⟩
theorem zsj:Sq zjb:=ml0 (d:=false) (S:=fun K=>zeQ (zhF K)) Tryz.func328 (by kernel_rfl) (fun K=>tr1 (T:=zeQ) (zpl K K) fun (x0,x1,())=>by kernel_rfl) rfl
abbrev vD:Type:=(List qb) × (Option ((qb × Unit)→Option (Bool × Unit))) × Int × Int
abbrev zpm:vD→St:=fun (v0,v1,v7,v8)=>St.mk [(0,.dat (.sl zZ) v0),(1,.dat (.fn (.pair zZ .unit) (.pair .bool .unit)) v1),(7,.dat tI v7),(8,.dat tI v8)] []
def zdr (k0:vD→Option (Int × Unit)):vD→Option (Int × Unit):=fun (v0,v1,v7,v8) =>
 bif decide (v8 < v7) then inR v8 ((List.length v0):Int) (Option.bind v1 fun q0=>Option.bind (q0 (ix zd1 v0 v8,())) fun q1=>bif q1.1 then some (v8,()) else k0 (v0,v1,v7,wI (v8 + 1))) else some ((-1),())
abbrev zhG (K:Nat):vD→Option (Int × Unit):=zk zdr K
theorem zpn (K:Nat):∀ n,evV Es0 K Tryz.f330 0 (ch [tI]) [1,0,1,0] [] zpm n = zk zdr n:=zt fun n0 (v0,v1,v7,v8)=>by kernel_rfl
def zeR (L0:vD→Option (Int × Unit)):((List qb) × ((Option ((qb × Unit)→Option (Bool × Unit))) × Unit))→Option (Int × Unit):=fun (x0,x1,()) =>
 L0 (x0,x1,((List.length x0):Int),0)
def zbN:((List qb) × ((Option ((qb × Unit)→Option (Bool × Unit))) × Unit))→Option (Int × Unit):=zeR (zhG K0)
abbrev zjc:Fun:=⟨330,(ch [(.sl zZ),(.fn (ch [zZ]) (ch [.bool]))]),(ch [tI]),0,zbN⟩
theorem zsk:Sq zjc:=ml0 (d:=false) (S:=fun K=>zeR (zhG K)) Tryz.func330 (by kernel_rfl) (fun K=>tr1 (T:=zeR) (zpn K K) fun (x0,x1,())=>by kernel_rfl) rfl
def zqU:(qb × Unit)→Option (zuy × Unit):=fun (x0,()) =>
 some (x0.2.2,())
abbrev zx7:Fun:=⟨331,(ch [zZ]),(ch [zux]),0,zqU⟩
theorem zIa:Sq zx7:=ms0 (d:=false) (K:=0) Tryz.func331 (by kernel_rfl) (funext fun (x0,())=>by kernel_rfl)
def zd6:(Int × Unit)→Option (Bool × Unit):=fun (x0,()) =>
 bif decide (x0 ≥ 0) then bif decide (x0 ≤ 127) then some (true,()) else some (false,()) else some (false,())
abbrev zx8:Fun:=⟨361,(ch [tI]),(ch [.bool]),0,zd6⟩
theorem zIb:Sq zx8:=ms0 (d:=false) (K:=0) Tryz.func361 (by kernel_rfl) (funext fun (x0,())=>by kernel_rfl)
abbrev vE:Type:=(List zm) × (Option ((zm × Unit)→Option (Bool × Unit))) × Int × Int
abbrev zpo:vE→St:=fun (v0,v1,v7,v8)=>St.mk [(0,.dat (.sl zu) v0),(1,.dat (.fn (.pair zu .unit) (.pair .bool .unit)) v1),(7,.dat tI v7),(8,.dat tI v8)] []
def zds (k0:vE→Option (Int × Unit)):vE→Option (Int × Unit):=fun (v0,v1,v7,v8) =>
 bif decide (v8 < v7) then inR v8 ((List.length v0):Int) (Option.bind v1 fun q0=>Option.bind (q0 (ix vP v0 v8,())) fun q1=>bif q1.1 then some (v8,()) else k0 (v0,v1,v7,wI (v8 + 1))) else some ((-1),())
abbrev zhH (K:Nat):vE→Option (Int × Unit):=zk zds K
theorem zpp (K:Nat):∀ n,evV Es0 K Tryz.f282 0 (ch [tI]) [1,0,1,0] [] zpo n = zk zds n:=zt fun n0 (v0,v1,v7,v8)=>by kernel_rfl
def zeS (L0:vE→Option (Int × Unit)):((List zm) × ((Option ((zm × Unit)→Option (Bool × Unit))) × Unit))→Option (Int × Unit):=fun (x0,x1,()) =>
 L0 (x0,x1,((List.length x0):Int),0)
def yC:((List zm) × ((Option ((zm × Unit)→Option (Bool × Unit))) × Unit))→Option (Int × Unit):=zeS (zhH K0)
abbrev zjd:Fun:=⟨282,(ch [(.sl zu),(.fn (ch [zu]) (ch [.bool]))]),(ch [tI]),0,yC⟩
theorem zsl:Sq zjd:=ml0 (d:=false) (S:=fun K=>zeS (zhH K)) Tryz.func282 (by kernel_rfl) (fun K=>tr1 (T:=zeS) (zpp K K) fun (x0,x1,())=>by kernel_rfl) rfl
def zhI:(Int × Unit)→Option (Bool × Unit):=fun (x0,()) =>
 bif decide (x0 ≥ 0) then bif decide (x0 ≤ 127) then some (true,()) else some (false,()) else some (false,())
abbrev zBw:Fun:=⟨190,(ch [tI]),(ch [.bool]),0,zhI⟩
theorem zJX:Sq zBw:=ms0 (d:=false) (K:=0) Tryz.func190 (by kernel_rfl) (funext fun (x0,())=>by kernel_rfl)
def zh9:(Int × Unit)→Option (Bool × Unit):=fun (x0,()) =>
 bif decide (x0 ≥ 32) then bif decide (x0 ≤ 126) then some (true,()) else some (false,()) else some (false,())
abbrev zte:Fun:=⟨122,(ch [(.int .u8)]),(ch [.bool]),0,zh9⟩
theorem zEd:Sq zte:=ms0 (d:=false) (K:=0) Tryz.func122 (by kernel_rfl) (funext fun (x0,())=>by kernel_rfl)
abbrev jz:Type:=ByteArray × Int
abbrev zlz:jz→St:=fun (v0,v1)=>St.mk [(0,.dat .str v0),(1,.dat (.int IntKind.u8) v1)] []
def zM (k0:jz→Option (ByteArray × Unit)):jz→Option (ByteArray × Unit):=fun (v0,v1) =>
 bif decide ((↑(ByteArray.size v0):Int) > 0) then inR (wI ((↑(ByteArray.size v0):Int) - 1)) (↑(ByteArray.size v0):Int) (bif (↑(UInt8.toNat (List.getD (Array.toList (ByteArray.data v0)) (Int.toNat (wI ((↑(ByteArray.size v0):Int) - 1))) 0)):Int) == v1 then bif decide (0 ≤ wI ((↑(ByteArray.size v0):Int) - 1)) then bif decide (wI ((↑(ByteArray.size v0):Int) - 1) ≤ (↑(ByteArray.size v0):Int)) then k0 (ByteArray.extract v0 0 (Int.toNat (wI ((↑(ByteArray.size v0):Int) - 1))),v1) else none else none else some (v0,())) else some (v0,())
abbrev zeZ (K:Nat):jz→Option (ByteArray × Unit):=zk zM K
theorem zlA (K:Nat):∀ n,evV Es0 K Tryz.f223 0 (ch [.str]) [1,0,0] [] zlz n = zk zM n:=zt fun n0 (v0,v1)=>by kernel_rfl
def zbT (L0:jz→Option (ByteArray × Unit)):(ByteArray × (Int × Unit))→Option (ByteArray × Unit):=fun (x0,x1,()) =>
 L0 (x0,x1)
def zbU:(ByteArray × Int × Unit)→Option (ByteArray × Unit):=zbT (zeZ K0)
abbrev zf9:Fun:=⟨223,(ch [.str,(.int .u8)]),(ch [.str]),0,zbU⟩
theorem zm8:Sq zf9:=ml0 (d:=false) (S:=fun K=>zbT (zeZ K)) Tryz.func223 (by kernel_rfl) (fun K=>tr1 (T:=zbT) (zlA K K) fun (x0,x1,())=>by kernel_rfl) rfl
abbrev jK:Type:=ByteArray × Int
abbrev zma:jK→St:=fun (v0,v1)=>St.mk [(0,.dat .str v0),(1,.dat (.int IntKind.u8) v1)] []
def zQ (k0:jK→Option (ByteArray × Unit)):jK→Option (ByteArray × Unit):=fun (v0,v1) =>
 bif decide ((↑(ByteArray.size v0):Int) > 0) then bif decide (0 < (↑(ByteArray.size v0):Int)) then bif (↑(UInt8.toNat (List.getD (Array.toList (ByteArray.data v0)) (Int.toNat 0) 0)):Int) == v1 then bif decide (1 ≤ (↑(ByteArray.size v0):Int)) then k0 (ByteArray.extract v0 (Int.toNat 1) (ByteArray.size v0),v1) else none else some (v0,()) else none else some (v0,())
abbrev zfo (K:Nat):jK→Option (ByteArray × Unit):=zk zQ K
theorem zmb (K:Nat):∀ n,evV Es0 K Tryz.f222 0 (ch [.str]) [1,0,0] [] zma n = zk zQ n:=zt fun n0 (v0,v1)=>by kernel_rfl
def zcS (L0:jK→Option (ByteArray × Unit)):(ByteArray × (Int × Unit))→Option (ByteArray × Unit):=fun (x0,x1,()) =>
 L0 (x0,x1)
def zcT:(ByteArray × Int × Unit)→Option (ByteArray × Unit):=zcS (zfo K0)
abbrev zgz:Fun:=⟨222,(ch [.str,(.int .u8)]),(ch [.str]),0,zcT⟩
theorem zoD:Sq zgz:=ml0 (d:=false) (S:=fun K=>zcS (zfo K)) Tryz.func222 (by kernel_rfl) (fun K=>tr1 (T:=zcS) (zmb K K) fun (x0,x1,())=>by kernel_rfl) rfl
abbrev vd:Type:=(List zw) × (Option ((zw × Unit)→Option (Bool × Unit))) × Int × Int
abbrev zoE:vd→St:=fun (v0,v1,v7,v8)=>St.mk [(0,.dat (.sl zz) v0),(1,.dat (.fn (.pair zz .unit) (.pair .bool .unit)) v1),(7,.dat tI v7),(8,.dat tI v8)] []
def zcU (k0:vd→Option (Int × Unit)):vd→Option (Int × Unit):=fun (v0,v1,v7,v8) =>
 bif decide (v8 < v7) then inR v8 ((List.length v0):Int) (Option.bind v1 fun q0=>Option.bind (q0 (ix qT v0 v8,())) fun q1=>bif q1.1 then some (v8,()) else k0 (v0,v1,v7,wI (v8 + 1))) else some ((-1),())
abbrev zgA (K:Nat):vd→Option (Int × Unit):=zk zcU K
theorem zoF (K:Nat):∀ n,evV Es0 K Tryz.f333 0 (ch [tI]) [1,0,1,0] [] zoE n = zk zcU n:=zt fun n0 (v0,v1,v7,v8)=>by kernel_rfl
def zd7 (L0:vd→Option (Int × Unit)):((List zw) × ((Option ((zw × Unit)→Option (Bool × Unit))) × Unit))→Option (Int × Unit):=fun (x0,x1,()) =>
 L0 (x0,x1,((List.length x0):Int),0)
def zaR:((List zw) × ((Option ((zw × Unit)→Option (Bool × Unit))) × Unit))→Option (Int × Unit):=zd7 (zgA K0)
abbrev zia:Fun:=⟨333,(ch [(.sl zz),(.fn (ch [zz]) (ch [.bool]))]),(ch [tI]),0,zaR⟩
theorem zqV:Sq zia:=ml0 (d:=false) (S:=fun K=>zd7 (zgA K)) Tryz.func333 (by kernel_rfl) (fun K=>tr1 (T:=zd7) (zoF K K) fun (x0,x1,())=>by kernel_rfl) rfl
def zfR:(Int × Unit)→Option (Bool × Unit):=fun (x0,()) =>
 bif decide (x0 ≥ 0) then bif decide (x0 ≤ 127) then some (true,()) else some (false,()) else some (false,())
abbrev zx9:Fun:=⟨334,(ch [tI]),(ch [.bool]),0,zfR⟩
theorem zIc:Sq zx9:=ms0 (d:=false) (K:=0) Tryz.func334 (by kernel_rfl) (funext fun (x0,())=>by kernel_rfl)
def jg:(Int × Unit)→Option (Bool × Unit):=fun (x0,()) =>
 bif decide (x0 ≥ 0) then bif decide (x0 < 4) then some (true,()) else some (false,()) else some (false,())
abbrev ztf:Fun:=⟨267,(ch [tI]),(ch [.bool]),0,jg⟩
theorem zEe:Sq ztf:=ms0 (d:=false) (K:=0) Tryz.func267 (by kernel_rfl) (funext fun (x0,())=>by kernel_rfl)
def zfp:(zly × Unit)→Option (Bool × Unit):=fun (x0,()) =>
 bif eqI zd2 x0 (x0.1,(ze zd2).2.1,-1,(ze zd2).2.2.2) then some (true,()) else some (false,())
abbrev ztg:Fun:=⟨336,(ch [zd2]),(ch [.bool]),0,zfp⟩
theorem zEf:Sq ztg:=ms0 (d:=false) (K:=0) Tryz.func336 (by kernel_rfl) (funext fun (x0,())=>by kernel_rfl)
def za9:(Int × Unit)→Option (Bool × Unit):=fun (x0,()) =>
 bif decide (x0 < 0) then some (true,()) else bif decide (x0 > 2) then some (true,()) else some (false,())
abbrev zpq:Fun:=⟨248,(ch [tI]),(ch [.bool]),0,za9⟩
theorem zz3:Sq zpq:=ms0 (d:=false) (K:=0) Tryz.func248 (by kernel_rfl) (funext fun (x0,())=>by kernel_rfl)
def zc8:(Int × (Int × Unit))→Option (Int × (Int × Unit)):=fun (x0,x1,()) =>
 some (wU (wU (wU (Int.fdiv x0 (2 ^ min (Int.toNat 32) (IntKind.bits IntKind.u64)) * Int.fdiv x1 (2 ^ min (Int.toNat 32) (IntKind.bits IntKind.u64))) + Int.fdiv (wU (wU (Int.fdiv x0 (2 ^ min (Int.toNat 32) (IntKind.bits IntKind.u64)) * wU (↑(BitVec.toNat (BitVec.ofInt (IntKind.bits IntKind.u64) x1 &&& BitVec.ofInt (IntKind.bits IntKind.u64) 4294967295)):Int)) + Int.fdiv (wU (wU (↑(BitVec.toNat (BitVec.ofInt (IntKind.bits IntKind.u64) x0 &&& BitVec.ofInt (IntKind.bits IntKind.u64) 4294967295)):Int) * wU (↑(BitVec.toNat (BitVec.ofInt (IntKind.bits IntKind.u64) x1 &&& BitVec.ofInt (IntKind.bits IntKind.u64) 4294967295)):Int))) (2 ^ min (Int.toNat 32) (IntKind.bits IntKind.u64)))) (2 ^ min (Int.toNat 32) (IntKind.bits IntKind.u64))) + Int.fdiv (wU (wU (↑(BitVec.toNat (BitVec.ofInt (IntKind.bits IntKind.u64) (wU (wU (Int.fdiv x0 (2 ^ min (Int.toNat 32) (IntKind.bits IntKind.u64)) * wU (↑(BitVec.toNat (BitVec.ofInt (IntKind.bits IntKind.u64) x1 &&& BitVec.ofInt (IntKind.bits IntKind.u64) 4294967295)):Int)) + Int.fdiv (wU (wU (↑(BitVec.toNat (BitVec.ofInt (IntKind.bits IntKind.u64) x0 &&& BitVec.ofInt (IntKind.bits IntKind.u64) 4294967295)):Int) * wU (↑(BitVec.toNat (BitVec.ofInt (IntKind.bits IntKind.u64) x1 &&& BitVec.ofInt (IntKind.bits IntKind.u64) 4294967295)):Int))) (2 ^ min (Int.toNat 32) (IntKind.bits IntKind.u64)))) &&& BitVec.ofInt (IntKind.bits IntKind.u64) 4294967295)):Int) + wU (wU (↑(BitVec.toNat (BitVec.ofInt (IntKind.bits IntKind.u64) x0 &&& BitVec.ofInt (IntKind.bits IntKind.u64) 4294967295)):Int) * Int.fdiv x1 (2 ^ min (Int.toNat 32) (IntKind.bits IntKind.u64))))) (2 ^ min (Int.toNat 32) (IntKind.bits IntKind.u64))),wU (x0 * x1),())
abbrev zlc:Fun:=⟨374,(ch [tU,tU]),(ch [tU,tU]),0,zc8⟩
theorem zuN:Sq zlc:=ms0 (d:=false) (K:=0) Tryz.func374 (by kernel_rfl) (funext fun (x0,x1,())=>by kernel_rfl)
def zkt:(Int × Unit)→Option (Bool × Unit):=fun (x0,()) =>
 bif decide (x0 ≥ 0) then bif decide (x0 ≤ 127) then some (true,()) else some (false,()) else some (false,())
abbrev zBx:Fun:=⟨338,(ch [tI]),(ch [.bool]),0,zkt⟩
theorem zJY:Sq zBx:=ms0 (d:=false) (K:=0) Tryz.func338 (by kernel_rfl) (funext fun (x0,())=>by kernel_rfl)
def zd8:(Int × Unit)→Option (Bool × Unit):=fun (x0,()) =>
 bif decide (x0 ≥ 0) then bif decide (x0 ≤ 127) then some (true,()) else some (false,()) else some (false,())
abbrev zya:Fun:=⟨339,(ch [tI]),(ch [.bool]),0,zd8⟩
theorem zId:Sq zya:=ms0 (d:=false) (K:=0) Tryz.func339 (by kernel_rfl) (funext fun (x0,())=>by kernel_rfl)
def zet:(zd × (zN × Unit))→Option (Bool × Unit):=fun (x0,x1,()) =>
 bif decide (x1.1 ≥ 0) then bif decide (x1.1 < ((List.length x0.2.1):Int)) then bif decide (x1.2.1 ≥ 0) then inR x1.1 ((List.length x0.2.1):Int) (bif decide (x1.2.1 < ((List.length (ix zg x0.2.1 x1.1).1):Int)) then inR x1.1 ((List.length x0.2.1):Int) (inR x1.2.1 ((List.length (ix zg x0.2.1 x1.1).1):Int) (bif (List.getD (ix zg x0.2.1 x1.1).1 (Int.toNat x1.2.1) (ze qn)).1 then some (true,()) else some (false,()))) else some (false,())) else some (false,()) else some (false,()) else some (false,())
abbrev zrv:Fun:=⟨147,(ch [zx,zR]),(ch [.bool]),0,zet⟩
theorem zBY:Sq zrv:=ms0 (d:=false) (K:=0) Tryz.func147 (by kernel_rfl) (funext fun (x0,x1,())=>by kernel_rfl)
def zbX:(qL × (Int × Unit))→Option (Bool × Unit):=fun (x0,x1,()) =>
 bif decide (x1 ≥ 0) then bif decide (x1 < ((List.length x0.1.1):Int)) then some (true,()) else some (false,()) else some (false,())
abbrev zrw:Fun:=⟨150,(ch [qk,tI]),(ch [.bool]),0,zbX⟩
theorem zBZ:Sq zrw:=ms0 (d:=false) (K:=0) Tryz.func150 (by kernel_rfl) (funext fun (x0,x1,())=>by kernel_rfl)
def qM:(qL × (Int × Unit))→Option (Bool × Unit):=fun (x0,x1,()) =>
 bif decide (x1 ≥ 0) then bif decide (x1 < ((List.length x0.1.2.2.1):Int)) then some (true,()) else some (false,()) else some (false,())
abbrev znB:Fun:=⟨151,(ch [qk,tI]),(ch [.bool]),0,qM⟩
theorem zyb:Sq znB:=ms0 (d:=false) (K:=0) Tryz.func151 (by kernel_rfl) (funext fun (x0,x1,())=>by kernel_rfl)
def zbO:(zr × ((Option (Option ((zr × Unit)→Option (Bool × Unit)))) × Unit))→Option (Bool × Unit):=fun (x0,x1,()) =>
 Option.bind x1 fun q0=>Option.bind q0 fun q1=>Option.bind (q1 (x0,())) fun q2=>bif q2.1 then some (false,()) else some (true,())
abbrev zje:Fun:=⟨254,(ch [zq,(.ptr (.fn (ch [zq]) (ch [.bool])))]),(ch [.bool]),0,zbO⟩
theorem zsm:Sq zje:=ms0 (d:=false) (K:=0) Tryz.func254 (by kernel_rfl) (funext fun (x0,x1,())=>by kernel_rfl)
abbrev ve:Type:=(List zr) × (Option ((zr × Unit)→Option (Bool × Unit))) × Int × Int
abbrev zoG:ve→St:=fun (v0,v1,v7,v8)=>St.mk [(0,.dat (.sl zq) v0),(1,.dat (.fn (.pair zq .unit) (.pair .bool .unit)) v1),(7,.dat tI v7),(8,.dat tI v8)] []
def zcV (k0:ve→Option (Int × Unit)):ve→Option (Int × Unit):=fun (v0,v1,v7,v8) =>
 bif decide (v8 < v7) then inR v8 ((List.length v0):Int) (Option.bind v1 fun q0=>Option.bind (q0 (ix qt v0 v8,())) fun q1=>bif q1.1 then some (v8,()) else k0 (v0,v1,v7,wI (v8 + 1))) else some ((-1),())
abbrev zgB (K:Nat):ve→Option (Int × Unit):=zk zcV K
theorem zoH (K:Nat):∀ n,evV Es0 K Tryz.f343 0 (ch [tI]) [1,0,1,0] [] zoG n = zk zcV n:=zt fun n0 (v0,v1,v7,v8)=>by kernel_rfl
def zd9 (L0:ve→Option (Int × Unit)):((List zr) × ((Option ((zr × Unit)→Option (Bool × Unit))) × Unit))→Option (Int × Unit):=fun (x0,x1,()) =>
 L0 (x0,x1,((List.length x0):Int),0)
def zaS:((List zr) × ((Option ((zr × Unit)→Option (Bool × Unit))) × Unit))→Option (Int × Unit):=zd9 (zgB K0)
abbrev zib:Fun:=⟨343,(ch [(.sl zq),(.fn (ch [zq]) (ch [.bool]))]),(ch [tI]),0,zaS⟩
theorem zqW:Sq zib:=ml0 (d:=false) (S:=fun K=>zd9 (zgB K)) Tryz.func343 (by kernel_rfl) (fun K=>tr1 (T:=zd9) (zoH K K) fun (x0,x1,())=>by kernel_rfl) rfl
def zbP:(zH × ((Option (Option ((zH × Unit)→Option (Bool × Unit)))) × Unit))→Option (Bool × Unit):=fun (x0,x1,()) =>
 Option.bind x1 fun q0=>Option.bind q0 fun q1=>Option.bind (q1 (x0,())) fun q2=>bif q2.1 then some (false,()) else some (true,())
abbrev zjf:Fun:=⟨256,(ch [zy,(.ptr (.fn (ch [zy]) (ch [.bool])))]),(ch [.bool]),0,zbP⟩
theorem zsn:Sq zjf:=ms0 (d:=false) (K:=0) Tryz.func256 (by kernel_rfl) (funext fun (x0,x1,())=>by kernel_rfl)
abbrev vf:Type:=(List zH) × (Option ((zH × Unit)→Option (Bool × Unit))) × Int × Int
abbrev zoI:vf→St:=fun (v0,v1,v7,v8)=>St.mk [(0,.dat (.sl zy) v0),(1,.dat (.fn (.pair zy .unit) (.pair .bool .unit)) v1),(7,.dat tI v7),(8,.dat tI v8)] []
def zcW (k0:vf→Option (Int × Unit)):vf→Option (Int × Unit):=fun (v0,v1,v7,v8) =>
 bif decide (v8 < v7) then inR v8 ((List.length v0):Int) (Option.bind v1 fun q0=>Option.bind (q0 (ix zh1 v0 v8,())) fun q1=>bif q1.1 then some (v8,()) else k0 (v0,v1,v7,wI (v8 + 1))) else some ((-1),())
abbrev zgC (K:Nat):vf→Option (Int × Unit):=zk zcW K
theorem zoJ (K:Nat):∀ n,evV Es0 K Tryz.f344 0 (ch [tI]) [1,0,1,0] [] zoI n = zk zcW n:=zt fun n0 (v0,v1,v7,v8)=>by kernel_rfl
def zea (L0:vf→Option (Int × Unit)):((List zH) × ((Option ((zH × Unit)→Option (Bool × Unit))) × Unit))→Option (Int × Unit):=fun (x0,x1,()) =>
 L0 (x0,x1,((List.length x0):Int),0)
def zaT:((List zH) × ((Option ((zH × Unit)→Option (Bool × Unit))) × Unit))→Option (Int × Unit):=zea (zgC K0)
abbrev zic:Fun:=⟨344,(ch [(.sl zy),(.fn (ch [zy]) (ch [.bool]))]),(ch [tI]),0,zaT⟩
theorem zqX:Sq zic:=ml0 (d:=false) (S:=fun K=>zea (zgC K)) Tryz.func344 (by kernel_rfl) (fun K=>tr1 (T:=zea) (zoJ K K) fun (x0,x1,())=>by kernel_rfl) rfl
def zc9:(Int × ((Option (Option ((Int × Unit)→Option (Bool × Unit)))) × Unit))→Option (Bool × Unit):=fun (x0,x1,()) =>
 Option.bind x1 fun q0=>Option.bind q0 fun q1=>Option.bind (q1 (x0,())) fun q2=>bif q2.1 then some (false,()) else some (true,())
abbrev zld:Fun:=⟨257,(ch [tI,(.ptr (.fn (ch [tI]) (ch [.bool])))]),(ch [.bool]),0,zc9⟩
theorem zuO:Sq zld:=ms0 (d:=false) (K:=0) Tryz.func257 (by kernel_rfl) (funext fun (x0,x1,())=>by kernel_rfl)
def y3:(zo × (zo × Unit))→Option (Bool × Unit):=fun (x0,x1,()) =>
 bif decide (x0.1 ≤ x1.1) then bif wU (↑(BitVec.toNat (BitVec.ofInt (IntKind.bits IntKind.u64) x0.2.1 &&& ~~~BitVec.ofInt (IntKind.bits IntKind.u64) x1.2.1)):Int) == 0 then some (true,()) else some (false,()) else some (false,())
abbrev zvq:Fun:=⟨31,(ch [zn,zn]),(ch [.bool]),0,y3⟩
theorem zGf:Sq zvq:=ms0 (d:=false) (K:=0) Tryz.func31 (by kernel_rfl) (funext fun (x0,x1,())=>by kernel_rfl)
def ze0:(qg × ((Option (Option ((zN × Unit)→Option (Bool × Unit)))) × Unit))→Option (Bool × Unit):=fun (x0,x1,()) =>
 bif x0.1 then Option.bind x1 fun q0=>Option.bind q0 fun q1=>Option.bind (q1 (x0.2.1,())) fun q2=>bif q2.1 then Option.bind x1 fun q3=>Option.bind q3 fun q4=>Option.bind (q4 (x0.2.2.1,())) fun q5=>bif q5.1 then some (true,()) else some (false,()) else some (false,()) else some (true,())
abbrev znC:Fun:=⟨158,(ch [z4,(.ptr (.fn (ch [zR]) (ch [.bool])))]),(ch [.bool]),0,ze0⟩
theorem zyc:Sq znC:=ms0 (d:=false) (K:=0) Tryz.func158 (by kernel_rfl) (funext fun (x0,x1,())=>by kernel_rfl)
def zcd:(qg × ((Option (Option ((qg × Unit)→Option (Bool × Unit)))) × Unit))→Option (Bool × Unit):=fun (x0,x1,()) =>
 Option.bind x1 fun q0=>Option.bind q0 fun q1=>Option.bind (q1 (x0,())) fun q2=>bif q2.1 then some (false,()) else some (true,())
abbrev zku:Fun:=⟨260,(ch [z4,(.ptr (.fn (ch [z4]) (ch [.bool])))]),(ch [.bool]),0,zcd⟩
theorem zth:Sq zku:=ms0 (d:=false) (K:=0) Tryz.func260 (by kernel_rfl) (funext fun (x0,x1,())=>by kernel_rfl)
def zce:(qb × ((Option (Option ((zN × Unit)→Option (Bool × Unit)))) × Unit))→Option (Bool × Unit):=fun (x0,x1,()) =>
 bif x0.2.2.1 != 2 then some (true,()) else Option.bind x1 fun q0=>Option.bind q0 fun q1=>Option.bind (q1 (x0.2.2.2.2.1,())) fun q2=>bif q2.1 then some (true,()) else some (false,())
abbrev znD:Fun:=⟨160,(ch [zZ,(.ptr (.fn (ch [zR]) (ch [.bool])))]),(ch [.bool]),0,zce⟩
theorem zyd:Sq znD:=ms0 (d:=false) (K:=0) Tryz.func160 (by kernel_rfl) (funext fun (x0,x1,())=>by kernel_rfl)
def zcf:(qb × ((Option (Option ((qb × Unit)→Option (Bool × Unit)))) × Unit))→Option (Bool × Unit):=fun (x0,x1,()) =>
 Option.bind x1 fun q0=>Option.bind q0 fun q1=>Option.bind (q1 (x0,())) fun q2=>bif q2.1 then some (false,()) else some (true,())
abbrev zkv:Fun:=⟨261,(ch [zZ,(.ptr (.fn (ch [zZ]) (ch [.bool])))]),(ch [.bool]),0,zcf⟩
theorem zti:Sq zkv:=ms0 (d:=false) (K:=0) Tryz.func261 (by kernel_rfl) (funext fun (x0,x1,())=>by kernel_rfl)
def zda:(zN × ((Option (Option ((zN × Unit)→Option (Bool × Unit)))) × Unit))→Option (Bool × Unit):=fun (x0,x1,()) =>
 Option.bind x1 fun q0=>Option.bind q0 fun q1=>Option.bind (q1 (x0,())) fun q2=>bif q2.1 then some (false,()) else some (true,())
abbrev zle:Fun:=⟨263,(ch [zR,(.ptr (.fn (ch [zR]) (ch [.bool])))]),(ch [.bool]),0,zda⟩
theorem zuP:Sq zle:=ms0 (d:=false) (K:=0) Tryz.func263 (by kernel_rfl) (funext fun (x0,x1,())=>by kernel_rfl)
abbrev vX:Type:=(List zN) × (Option ((zN × Unit)→Option (Bool × Unit))) × Int × Int
abbrev zqY:vX→St:=fun (v0,v1,v7,v8)=>St.mk [(0,.dat (.sl jf) v0),(1,.dat (.fn (.pair jf .unit) (.pair .bool .unit)) v1),(7,.dat tI v7),(8,.dat tI v8)] []
def zeb (k0:vX→Option (Int × Unit)):vX→Option (Int × Unit):=fun (v0,v1,v7,v8) =>
 bif decide (v8 < v7) then inR v8 ((List.length v0):Int) (Option.bind v1 fun q0=>Option.bind (q0 (ix zD v0 v8,())) fun q1=>bif q1.1 then some (v8,()) else k0 (v0,v1,v7,wI (v8 + 1))) else some ((-1),())
abbrev zid (K:Nat):vX→Option (Int × Unit):=zk zeb K
theorem zqZ (K:Nat):∀ n,evV Es0 K Tryz.f345 0 (ch [tI]) [1,0,1,0] [] zqY n = zk zeb n:=zt fun n0 (v0,v1,v7,v8)=>by kernel_rfl
def zfq (L0:vX→Option (Int × Unit)):((List zN) × ((Option ((zN × Unit)→Option (Bool × Unit))) × Unit))→Option (Int × Unit):=fun (x0,x1,()) =>
 L0 (x0,x1,((List.length x0):Int),0)
def zcg:((List j9) × ((Option ((j9 × Unit)→Option (Bool × Unit))) × Unit))→Option (Int × Unit):=zfq (zid K0)
abbrev zkw:Fun:=⟨345,(ch [(.sl zR),(.fn (ch [zR]) (ch [.bool]))]),(ch [tI]),0,zcg⟩
theorem ztj:Sq zkw:=ml0 (d:=false) (S:=fun K=>zfq (zid K)) Tryz.func345 (by kernel_rfl) (fun K=>tr1 (T:=zfq) (zqZ K K) fun (x0,x1,())=>by kernel_rfl) rfl
def zch:(zm × ((Option (Option ((zm × Unit)→Option (Bool × Unit)))) × Unit))→Option (Bool × Unit):=fun (x0,x1,()) =>
 Option.bind x1 fun q0=>Option.bind q0 fun q1=>Option.bind (q1 (x0,())) fun q2=>bif q2.1 then some (false,()) else some (true,())
abbrev zkx:Fun:=⟨264,(ch [zu,(.ptr (.fn (ch [zu]) (ch [.bool])))]),(ch [.bool]),0,zch⟩
theorem ztk:Sq zkx:=ms0 (d:=false) (K:=0) Tryz.func264 (by kernel_rfl) (funext fun (x0,x1,())=>by kernel_rfl)
def zbQ:(zw × ((Option (Option ((zw × Unit)→Option (Bool × Unit)))) × Unit))→Option (Bool × Unit):=fun (x0,x1,()) =>
 Option.bind x1 fun q0=>Option.bind q0 fun q1=>Option.bind (q1 (x0,())) fun q2=>bif q2.1 then some (false,()) else some (true,())
abbrev zjg:Fun:=⟨265,(ch [zz,(.ptr (.fn (ch [zz]) (ch [.bool])))]),(ch [.bool]),0,zbQ⟩
theorem zso:Sq zjg:=ms0 (d:=false) (K:=0) Tryz.func265 (by kernel_rfl) (funext fun (x0,x1,())=>by kernel_rfl)
def zbn:((List zw) × Unit)→Option ((List zw) × Unit):=fun (x0,()) =>
 bif List.isEmpty x0 then zeN (some ([],())) (bif j8 true zz (List.length (List.replicate 0 (ze zz)) + List.length x0) then some (List.replicate 0 (ze zz) ++ x0,()) else none) else bif j8 true zz (List.length (List.replicate 0 (ze zz)) + List.length x0) then some (List.replicate 0 (ze zz) ++ x0,()) else none
abbrev zmc:Fun:=⟨44,(ch [(.sl zz)]),(ch [(.sl zz)]),1,zbn⟩
theorem zwj:Sq zmc:=mj0 (d:=false) (js:=[999998]) (K:=0) Tryz.func44 (by kernel_rfl) (funext fun (x0,())=>by kernel_rfl)
def vY:(zw × Unit)→Option (Bool × Unit):=fun (x0,()) =>
 bif x0.1 then some (true,()) else some (false,())
abbrev znE:Fun:=⟨169,(ch [zz]),(ch [.bool]),0,vY⟩
theorem zye:Sq znE:=ms0 (d:=false) (K:=0) Tryz.func169 (by kernel_rfl) (funext fun (x0,())=>by kernel_rfl)
def zec:((Option zcc) × Unit)→Option (Bool × Unit):=fun (x0,()) =>
 bif Option.isSome x0 then Option.bind x0 fun q0=>bif Option.isSome q0.2.1 then some (true,()) else some (false,()) else some (false,())
abbrev zmd:Fun:=⟨266,(ch [(.ptr vV)]),(ch [.bool]),0,zec⟩
theorem zwk:Sq zmd:=ms0 (d:=false) (K:=0) Tryz.func266 (by kernel_rfl) (funext fun (x0,())=>by kernel_rfl)
def zbo:((List zr) × Unit)→Option ((List zr) × Unit):=fun (x0,()) =>
 bif List.isEmpty x0 then zeN (some ([],())) (bif j8 true zq (List.length (List.replicate 0 (ze zq)) + List.length x0) then some (List.replicate 0 (ze zq) ++ x0,()) else none) else bif j8 true zq (List.length (List.replicate 0 (ze zq)) + List.length x0) then some (List.replicate 0 (ze zq) ++ x0,()) else none
abbrev zme:Fun:=⟨35,(ch [(.sl zq)]),(ch [(.sl zq)]),1,zbo⟩
theorem zwl:Sq zme:=mj0 (d:=false) (js:=[999998]) (K:=0) Tryz.func35 (by kernel_rfl) (funext fun (x0,())=>by kernel_rfl)
def zie:(zr × Unit)→Option (Bool × Unit):=fun (x0,()) =>
 bif x0.1 then some (true,()) else some (false,())
abbrev ztl:Fun:=⟨376,(ch [zq]),(ch [.bool]),0,zie⟩
theorem zEg:Sq ztl:=ms0 (d:=false) (K:=0) Tryz.func376 (by kernel_rfl) (funext fun (x0,())=>by kernel_rfl)
def zed:((Option zd3) × Unit)→Option (Bool × Unit):=fun (x0,()) =>
 bif Option.isSome x0 then Option.bind x0 fun q0=>bif Option.isSome q0.2.1 then some (true,()) else some (false,()) else some (false,())
abbrev zmf:Fun:=⟨377,(ch [(.ptr yZ)]),(ch [.bool]),0,zed⟩
theorem zwm:Sq zmf:=ms0 (d:=false) (K:=0) Tryz.func377 (by kernel_rfl) (funext fun (x0,())=>by kernel_rfl)
def zgU:(zr × Unit)→Option (Int × Unit):=fun (x0,()) =>
 bif x0.2.2.2.1 == 2 then some (x0.2.2.2.2.1,()) else some (x0.2.2.2.2.2.1,())
abbrev zrx:Fun:=⟨347,(ch [zq]),(ch [tI]),0,zgU⟩
theorem zB0:Sq zrx:=ms0 (d:=false) (K:=0) Tryz.func347 (by kernel_rfl) (funext fun (x0,())=>by kernel_rfl)
end
end Go.Proofs.YtkcakhbkoeimdaaGreatDoor
end
section
namespace Go.Proofs.YtkcakhbkoeimdaaGreatDoor
open Go.Ev
noncomputable section
def zj2:(Int × (Int × Unit))→Option (Int × (Int × Unit)):=fun (x0,x1,()) =>
 bif decide (0 ≤ x0) then bif decide (0 ≤ x1) then bif decide (x1 < 18446744073709551616) then bif extB true x0 x1 != 0 then some (0,7,()) else bif decide (extA true x0 x1 > 4611686018427387904) then some (0,7,()) else some (extA true x0 x1,0,()) else none else none else none
abbrev zvr:Fun:=⟨349,(ch [tU,tU]),(ch [tU,tI]),0,zj2⟩
theorem zGg:Sq zvr:=ms0 (d:=false) (K:=0) Tryz.func349 (by kernel_rfl) (funext fun (x0,x1,())=>by kernel_rfl)
def zgV:(zw × Unit)→Option (Bool × Unit):=fun (x0,()) =>
 bif x0.1 then some (true,()) else some (false,())
abbrev zry:Fun:=⟨367,(ch [zz]),(ch [.bool]),0,zgV⟩
theorem zB1:Sq zry:=ms0 (d:=false) (K:=0) Tryz.func367 (by kernel_rfl) (funext fun (x0,())=>by kernel_rfl)
def zjx:(zi × Unit)→Option ((List Int) × Unit):=fun (x0,()) =>
 some (x0.2.2.2.2.2.2.2.1,())
abbrev zpr:Fun:=⟨272,(ch [zp]),(ch [(.arr 4 tU)]),0,zjx⟩
theorem zz4:Sq zpr:=ms0 (d:=false) (K:=0) Tryz.func272 (by kernel_rfl) (funext fun (x0,())=>by kernel_rfl)
def zjy:(zi × Unit)→Option ((List Int) × Unit):=fun (x0,()) =>
 some (x0.2.2.2.2.2.2.2.2.1,())
abbrev zps:Fun:=⟨273,(ch [zp]),(ch [(.arr 4 tU)]),0,zjy⟩
theorem zz5:Sq zps:=ms0 (d:=false) (K:=0) Tryz.func273 (by kernel_rfl) (funext fun (x0,())=>by kernel_rfl)
def zif:(Int × (Int × Unit))→Option (Int × (Int × Unit)):=fun (x0,x1,()) =>
 bif decide (0 ≤ x0) then bif decide (0 ≤ x1) then bif decide (x1 < 18446744073709551616) then bif extB false x0 x1 != 0 then some (0,6,()) else some (extA false x0 x1,0,()) else none else none else none
abbrev ztm:Fun:=⟨274,(ch [tU,tU]),(ch [tU,tI]),0,zif⟩
theorem zEh:Sq ztm:=ms0 (d:=false) (K:=0) Tryz.func274 (by kernel_rfl) (funext fun (x0,x1,())=>by kernel_rfl)
def zgW:(za × (zcb × Unit))→Option (zi × Unit):=fun (x0,x1,()) =>
 bif decide (0 ≤ x1.1) then bif decide (x1.1 ≤ x1.1) then bif decide (x1.1 ≤ (↑lim:Int)) then bif decide (0 ≤ x1.2.1) then bif decide (x1.2.1 ≤ x1.2.1) then bif decide (x1.2.1 ≤ (↑lim:Int)) then bif decide (0 ≤ x1.2.2.1) then bif decide (x1.2.2.1 ≤ x1.2.2.1) then bif decide (x1.2.2.1 ≤ (↑lim:Int)) then bif decide (0 ≤ x1.2.2.2.1) then bif decide (x1.2.2.2.1 ≤ x1.2.2.2.1) then bif decide (x1.2.2.2.1 ≤ (↑lim:Int)) then bif decide (0 ≤ x1.2.2.2.2.1) then bif decide (x1.2.2.2.2.1 ≤ x1.2.2.2.2.1) then bif decide (x1.2.2.2.2.1 ≤ (↑lim:Int)) then bif decide (((List.length x0.2.2.1):Int) ≤ ((List.length x0.2.2.1):Int)) then bif decide (((List.length x0.2.2.1):Int) ≤ (↑lim:Int)) then bif decide (((List.length x0.2.2.1):Int) ≤ ((List.length x0.2.2.1):Int)) then bif decide (((List.length x0.2.2.1):Int) ≤ (↑lim:Int)) then some ((List.replicate (Int.toNat x1.1) (ze qn),List.replicate (Int.toNat x1.2.1) (ze z4),List.replicate (Int.toNat x1.2.2.1) (ze zZ),List.replicate (Int.toNat x1.2.2.2.1) (ze zu),List.replicate (Int.toNat x1.2.2.2.2.1) (ze zz),List.replicate (Int.toNat ((List.length x0.2.2.1):Int)) (ze (.arr 4 tU)),List.replicate (Int.toNat ((List.length x0.2.2.1):Int)) (ze zR),[0,0,0,0],[0,0,0,0],()),()) else none else none else none else none else none else none else none else none else none else none else none else none else none else none else none else none else none else none else none
abbrev zrz:Fun:=⟨115,(ch [zl,zdj]),(ch [zp]),3,zgW⟩
theorem zB2:Sq zrz:=ms0 (d:=true) (K:=0) Tryz.func115 (by kernel_rfl) (funext fun (x0,x1,())=>by kernel_rfl)
def zj3:(za × (zd × Unit))→Option (Bool × Unit):=fun (x0,x1,()) =>
 bif ((List.length x1.2.1):Int) == ((List.length x0.1):Int) then bif ((List.length x1.2.2.1):Int) == ((List.length x0.2.2.2.1):Int) then bif ((List.length x1.2.2.2.2.2.1):Int) == ((List.length x0.2.1):Int) then some (true,()) else some (false,()) else some (false,()) else some (false,())
abbrev zvs:Fun:=⟨174,(ch [zl,zx]),(ch [.bool]),0,zj3⟩
theorem zGh:Sq zvs:=ms0 (d:=false) (K:=0) Tryz.func174 (by kernel_rfl) (funext fun (x0,x1,())=>by kernel_rfl)
def zgX:(Int × ((Option (Option ((Int × Unit)→Option (Bool × Unit)))) × ((Option za) × Unit)))→Option (Bool × Unit):=fun (x0,x1,x2,()) =>
 Option.bind x1 fun q0=>Option.bind x2 fun q1=>inR x0 ((List.length q1.2.1):Int) (Option.bind q0 fun q2=>Option.bind (q2 (ix (0:Int) q1.2.1 x0,())) fun q3=>bif q3.1 then some (true,()) else some (false,()))
abbrev zrA:Fun:=⟨177,(ch [tI,(.ptr (.fn (ch [tI]) (ch [.bool]))),(.ptr zl)]),(ch [.bool]),0,zgX⟩
theorem zB3:Sq zrA:=ms0 (d:=false) (K:=0) Tryz.func177 (by kernel_rfl) (funext fun (x0,x1,x2,())=>by kernel_rfl)
abbrev vF:Type:=(List zi) × (List zi) × (Option ((Int × Unit)→Option (Bool × Unit))) × Int × Int × List zi × Nat
abbrev zpt:vF→St:=fun (v0,v1,v2,v10,v11,o0,c0)=>St.mk [(0,.dat (.sl zp) v0),(1,.dat (.sl zp) v1),(2,.dat (.fn (.pair tI .unit) (.pair .bool .unit)) v2),(7,.ow 0),(10,.dat tI v10),(11,.dat tI v11)] [.drow zp o0 c0]
def vG (k0:vF→Option ((List zi) × Unit)):vF→Option ((List zi) × Unit):=fun (v0,v1,v2,v10,v11,o0,c0) =>
 bif decide (v11 < v10) then Option.bind v2 fun q0=>Option.bind (q0 (v11,())) fun q1=>bif q1.1 then inR v11 ((List.length v0):Int) (bif decide (List.length o0 + List.length (zf (List.replicate 1 (ze zp)) 0 (ix zg v0 v11)) ≤ lim) then k0 (v0,v1,v2,v10,wI (v11 + 1),o0 ++ zf (List.replicate 1 (ze zp)) 0 (ix zg v0 v11),c0) else none) else inR v11 ((List.length v1):Int) (bif decide (List.length o0 + List.length (zf (List.replicate 1 (ze zp)) 0 (ix zg v1 v11)) ≤ lim) then k0 (v0,v1,v2,v10,wI (v11 + 1),o0 ++ zf (List.replicate 1 (ze zp)) 0 (ix zg v1 v11),c0) else none) else some (o0,())
abbrev zhJ (K:Nat):vF→Option ((List zi) × Unit):=zk vG K
theorem zpu (K:Nat):∀ n,evV Es0 K Tryz.f178 0 (ch [(.sl zp)]) [1,1,0,1,0] [] zpt n = zk vG n:=zt fun n0 (v0,v1,v2,v10,v11,o0,c0)=>by kernel_rfl
def zeT (L0:vF→Option ((List zi) × Unit)):((List zi) × ((List zi) × ((Option ((Int × Unit)→Option (Bool × Unit))) × Unit)))→Option ((List zi) × Unit):=fun (x0,x1,x2,()) =>
 L0 (x0,x1,x2,((List.length x0):Int),0,[],0)
def zeU:((List zi) × ((List zi) × ((Option ((Int × Unit)→Option (Bool × Unit))) × Unit)))→Option ((List zi) × Unit):=zeT (zhJ K0)
abbrev zjh:Fun:=⟨178,(ch [(.sl zp),(.sl zp),(.fn (ch [tI]) (ch [.bool]))]),(ch [(.sl zp)]),0,zeU⟩
theorem zsp:Sq zjh:=ml0 (d:=false) (S:=fun K=>zeT (zhJ K)) Tryz.func178 (by kernel_rfl) (fun K=>tr1 (T:=zeT) (zpu K K) fun (x0,x1,x2,())=>by kernel_rfl) rfl
abbrev vZ:Type:=(List (List Int)) × (List (List Int)) × (Option ((Int × Unit)→Option (Bool × Unit))) × Int × Int × List (List Int) × Nat
abbrev zq0:vZ→St:=fun (v0,v1,v2,v10,v11,o0,c0)=>St.mk [(0,.dat (.sl (.sl tI)) v0),(1,.dat (.sl (.sl tI)) v1),(2,.dat (.fn (.pair tI .unit) (.pair .bool .unit)) v2),(7,.ow 0),(10,.dat tI v10),(11,.dat tI v11)] [.drow (.sl tI) o0 c0]
def ya (k0:vZ→Option ((List (List Int)) × Unit)):vZ→Option ((List (List Int)) × Unit):=fun (v0,v1,v2,v10,v11,o0,c0) =>
 bif decide (v11 < v10) then Option.bind v2 fun q0=>Option.bind (q0 (v11,())) fun q1=>bif q1.1 then inR v11 ((List.length v0):Int) (bif decide (List.length o0 + List.length (zf (List.replicate 1 ([]:List Int)) 0 (List.getD v0 (Int.toNat v11) ([]:List Int))) ≤ lim) then k0 (v0,v1,v2,v10,wI (v11 + 1),o0 ++ zf (List.replicate 1 ([]:List Int)) 0 (List.getD v0 (Int.toNat v11) ([]:List Int)),c0) else none) else inR v11 ((List.length v1):Int) (bif decide (List.length o0 + List.length (zf (List.replicate 1 ([]:List Int)) 0 (List.getD v1 (Int.toNat v11) ([]:List Int))) ≤ lim) then k0 (v0,v1,v2,v10,wI (v11 + 1),o0 ++ zf (List.replicate 1 ([]:List Int)) 0 (List.getD v1 (Int.toNat v11) ([]:List Int)),c0) else none) else some (o0,())
abbrev zig (K:Nat):vZ→Option ((List (List Int)) × Unit):=zk ya K
theorem zq1 (K:Nat):∀ n,evV Es0 K Tryz.f179 0 (ch [(.sl (.sl tI))]) [1,1,0,1,0] [] zq0 n = zk ya n:=zt fun n0 (v0,v1,v2,v10,v11,o0,c0)=>by kernel_rfl
def zfr (L0:vZ→Option ((List (List Int)) × Unit)):((List (List Int)) × ((List (List Int)) × ((Option ((Int × Unit)→Option (Bool × Unit))) × Unit)))→Option ((List (List Int)) × Unit):=fun (x0,x1,x2,()) =>
 L0 (x0,x1,x2,((List.length x0):Int),0,[],0)
def zfs:((List (List Int)) × ((List (List Int)) × ((Option ((Int × Unit)→Option (Bool × Unit))) × Unit)))→Option ((List (List Int)) × Unit):=zfr (zig K0)
abbrev zky:Fun:=⟨179,(ch [(.sl (.sl tI)),(.sl (.sl tI)),(.fn (ch [tI]) (ch [.bool]))]),(ch [(.sl (.sl tI))]),0,zfs⟩
theorem ztn:Sq zky:=ml0 (d:=false) (S:=fun K=>zfr (zig K)) Tryz.func179 (by kernel_rfl) (fun K=>tr1 (T:=zfr) (zq1 K K) fun (x0,x1,x2,())=>by kernel_rfl) rfl
abbrev yD:Type:=(List Int) × (List Int) × (Option ((Int × Unit)→Option (Bool × Unit))) × Int × Int × List Int
abbrev zsq:yD→St:=fun (v0,v1,v2,v10,v11,o0)=>St.mk [(0,.dat (.sl tI) v0),(1,.dat (.sl tI) v1),(2,.dat (.fn (.pair tI .unit) (.pair .bool .unit)) v2),(7,.ow 0),(10,.dat tI v10),(11,.dat tI v11)] [.row tI o0 false]
def yE (k0:yD→Option ((List Int) × Unit)):yD→Option ((List Int) × Unit):=fun (v0,v1,v2,v10,v11,o0) =>
 bif decide (v11 < v10) then Option.bind v2 fun q0=>Option.bind (q0 (v11,())) fun q1=>bif q1.1 then inR v11 ((List.length v0):Int) (bif decide (List.length o0 + List.length (zf (List.replicate 1 (0:Int)) 0 (ix (0:Int) v0 v11)) ≤ lim) then k0 (v0,v1,v2,v10,wI (v11 + 1),o0 ++ zf (List.replicate 1 (0:Int)) 0 (ix (0:Int) v0 v11)) else none) else inR v11 ((List.length v1):Int) (bif decide (List.length o0 + List.length (zf (List.replicate 1 (0:Int)) 0 (ix (0:Int) v1 v11)) ≤ lim) then k0 (v0,v1,v2,v10,wI (v11 + 1),o0 ++ zf (List.replicate 1 (0:Int)) 0 (ix (0:Int) v1 v11)) else none) else some (o0,())
abbrev zji (K:Nat):yD→Option ((List Int) × Unit):=zk yE K
theorem zsr (K:Nat):∀ n,evV Es0 K Tryz.f180 0 (ch [(.sl tI)]) [1,1,0,1,0] [] zsq n = zk yE n:=zt fun n0 (v0,v1,v2,v10,v11,o0)=>by kernel_rfl
def zgh (L0:yD→Option ((List Int) × Unit)):((List Int) × ((List Int) × ((Option ((Int × Unit)→Option (Bool × Unit))) × Unit)))→Option ((List Int) × Unit):=fun (x0,x1,x2,()) =>
 L0 (x0,x1,x2,((List.length x0):Int),0,[])
def zgi:((List Int) × ((List Int) × ((Option ((Int × Unit)→Option (Bool × Unit))) × Unit)))→Option ((List Int) × Unit):=zgh (zji K0)
abbrev zlf:Fun:=⟨180,(ch [(.sl tI),(.sl tI),(.fn (ch [tI]) (ch [.bool]))]),(ch [(.sl tI)]),0,zgi⟩
theorem zuQ:Sq zlf:=ml0 (d:=false) (S:=fun K=>zgh (zji K)) Tryz.func180 (by kernel_rfl) (fun K=>tr1 (T:=zgh) (zsr K K) fun (x0,x1,x2,())=>by kernel_rfl) rfl
def zhe:((List zH) × Unit)→Option ((List zH) × Unit):=fun (x0,()) =>
 bif List.isEmpty x0 then zeN (some ([],())) (bif j8 true zy (List.length (List.replicate 0 (ze zy)) + List.length x0) then some (List.replicate 0 (ze zy) ++ x0,()) else none) else bif j8 true zy (List.length (List.replicate 0 (ze zy)) + List.length x0) then some (List.replicate 0 (ze zy) ++ x0,()) else none
abbrev zmg:Fun:=⟨36,(ch [(.sl zy)]),(ch [(.sl zy)]),1,zhe⟩
theorem zwn:Sq zmg:=mj0 (d:=false) (js:=[999998]) (K:=0) Tryz.func36 (by kernel_rfl) (funext fun (x0,())=>by kernel_rfl)
def yL:((List Int) × Unit)→Option ((List Int) × Unit):=fun (x0,()) =>
 bif List.isEmpty x0 then zeN (some ([],())) (bif j8 true tI (List.length (List.replicate 0 (0:Int)) + List.length x0) then some (List.replicate 0 (0:Int) ++ x0,()) else none) else bif j8 true tI (List.length (List.replicate 0 (0:Int)) + List.length x0) then some (List.replicate 0 (0:Int) ++ x0,()) else none
abbrev zpv:Fun:=⟨37,(ch [(.sl tI)]),(ch [(.sl tI)]),1,yL⟩
theorem zz6:Sq zpv:=mj0 (d:=false) (js:=[999998]) (K:=0) Tryz.func37 (by kernel_rfl) (funext fun (x0,())=>by kernel_rfl)
def zih:((List (List Int)) × Unit)→Option ((List (List Int)) × Unit):=fun (x0,()) =>
 bif List.isEmpty x0 then zeN (some ([],())) (bif j8 true (.sl tI) (List.length (List.replicate 0 ([]:List Int)) + List.length x0) then some (List.replicate 0 ([]:List Int) ++ x0,()) else none) else bif j8 true (.sl tI) (List.length (List.replicate 0 ([]:List Int)) + List.length x0) then some (List.replicate 0 ([]:List Int) ++ x0,()) else none
abbrev znF:Fun:=⟨38,(ch [(.sl (.sl tI))]),(ch [(.sl (.sl tI))]),1,zih⟩
theorem zyf:Sq znF:=mj0 (d:=false) (js:=[999998]) (K:=0) Tryz.func38 (by kernel_rfl) (funext fun (x0,())=>by kernel_rfl)
def zhf:((List zi) × Unit)→Option ((List zi) × Unit):=fun (x0,()) =>
 bif List.isEmpty x0 then zeN (some ([],())) (bif j8 true zp (List.length (List.replicate 0 (ze zp)) + List.length x0) then some (List.replicate 0 (ze zp) ++ x0,()) else none) else bif j8 true zp (List.length (List.replicate 0 (ze zp)) + List.length x0) then some (List.replicate 0 (ze zp) ++ x0,()) else none
abbrev zmh:Fun:=⟨39,(ch [(.sl zp)]),(ch [(.sl zp)]),1,zhf⟩
theorem zwo:Sq zmh:=mj0 (d:=false) (js:=[999998]) (K:=0) Tryz.func39 (by kernel_rfl) (funext fun (x0,())=>by kernel_rfl)
def zii:((List ja) × Unit)→Option ((List ja) × Unit):=fun (x0,()) =>
 bif List.isEmpty x0 then zeN (some ([],())) (bif j8 true qn (List.length (List.replicate 0 (ze qn)) + List.length x0) then some (List.replicate 0 (ze qn) ++ x0,()) else none) else bif j8 true qn (List.length (List.replicate 0 (ze qn)) + List.length x0) then some (List.replicate 0 (ze qn) ++ x0,()) else none
abbrev znG:Fun:=⟨40,(ch [(.sl qn)]),(ch [(.sl qn)]),1,zii⟩
theorem zyg:Sq znG:=mj0 (d:=false) (js:=[999998]) (K:=0) Tryz.func40 (by kernel_rfl) (funext fun (x0,())=>by kernel_rfl)
def zij:((List qg) × Unit)→Option ((List qg) × Unit):=fun (x0,()) =>
 bif List.isEmpty x0 then zeN (some ([],())) (bif j8 true z4 (List.length (List.replicate 0 (ze z4)) + List.length x0) then some (List.replicate 0 (ze z4) ++ x0,()) else none) else bif j8 true z4 (List.length (List.replicate 0 (ze z4)) + List.length x0) then some (List.replicate 0 (ze z4) ++ x0,()) else none
abbrev znH:Fun:=⟨41,(ch [(.sl z4)]),(ch [(.sl z4)]),1,zij⟩
theorem zyh:Sq znH:=mj0 (d:=false) (js:=[999998]) (K:=0) Tryz.func41 (by kernel_rfl) (funext fun (x0,())=>by kernel_rfl)
def zik:((List qb) × Unit)→Option ((List qb) × Unit):=fun (x0,()) =>
 bif List.isEmpty x0 then zeN (some ([],())) (bif j8 true zZ (List.length (List.replicate 0 (ze zZ)) + List.length x0) then some (List.replicate 0 (ze zZ) ++ x0,()) else none) else bif j8 true zZ (List.length (List.replicate 0 (ze zZ)) + List.length x0) then some (List.replicate 0 (ze zZ) ++ x0,()) else none
abbrev znI:Fun:=⟨42,(ch [(.sl zZ)]),(ch [(.sl zZ)]),1,zik⟩
theorem zyi:Sq znI:=mj0 (d:=false) (js:=[999998]) (K:=0) Tryz.func42 (by kernel_rfl) (funext fun (x0,())=>by kernel_rfl)
def zap:((List zm) × Unit)→Option ((List zm) × Unit):=fun (x0,()) =>
 bif List.isEmpty x0 then zeN (some ([],())) (bif j8 true zu (List.length (List.replicate 0 (ze zu)) + List.length x0) then some (List.replicate 0 (ze zu) ++ x0,()) else none) else bif j8 true zu (List.length (List.replicate 0 (ze zu)) + List.length x0) then some (List.replicate 0 (ze zu) ++ x0,()) else none
abbrev znJ:Fun:=⟨43,(ch [(.sl zu)]),(ch [(.sl zu)]),1,zap⟩
theorem zyj:Sq znJ:=mj0 (d:=false) (js:=[999998]) (K:=0) Tryz.func43 (by kernel_rfl) (funext fun (x0,())=>by kernel_rfl)
def zkU:((List (List Int)) × Unit)→Option ((List (List Int)) × Unit):=fun (x0,()) =>
 bif List.isEmpty x0 then zeN (some ([],())) (bif j8 true (.arr 4 tU) (List.length (List.replicate 0 (ze (.arr 4 tU))) + List.length x0) then some (List.replicate 0 (ze (.arr 4 tU)) ++ x0,()) else none) else bif j8 true (.arr 4 tU) (List.length (List.replicate 0 (ze (.arr 4 tU))) + List.length x0) then some (List.replicate 0 (ze (.arr 4 tU)) ++ x0,()) else none
abbrev zrB:Fun:=⟨45,(ch [(.sl (.arr 4 tU))]),(ch [(.sl (.arr 4 tU))]),1,zkU⟩
theorem zB4:Sq zrB:=mj0 (d:=false) (js:=[999998]) (K:=0) Tryz.func45 (by kernel_rfl) (funext fun (x0,())=>by kernel_rfl)
def zjz:((List zN) × Unit)→Option ((List zN) × Unit):=fun (x0,()) =>
 bif List.isEmpty x0 then zeN (some ([],())) (bif j8 true zR (List.length (List.replicate 0 (ze zR)) + List.length x0) then some (List.replicate 0 (ze zR) ++ x0,()) else none) else bif j8 true zR (List.length (List.replicate 0 (ze zR)) + List.length x0) then some (List.replicate 0 (ze zR) ++ x0,()) else none
abbrev zpw:Fun:=⟨46,(ch [(.sl zR)]),(ch [(.sl zR)]),1,zjz⟩
theorem zz7:Sq zpw:=mj0 (d:=false) (js:=[999998]) (K:=0) Tryz.func46 (by kernel_rfl) (funext fun (x0,())=>by kernel_rfl)
abbrev vg:Type:=(List zi) × (Option ((zi × (zi × Unit))→Option (Bool × Unit))) × (List zi) × Int × Int
abbrev zoK:vg→St:=fun (v1,v2,v15,v16,v17)=>St.mk [(1,.dat (.sl zp) v1),(2,.dat (.fn (.pair zp (.pair zp .unit)) (.pair .bool .unit)) v2),(15,.dat (.sl zp) v15),(16,.dat tI v16),(17,.dat tI v17)] []
def vh (k0:vg→Option (Bool × Unit)):vg→Option (Bool × Unit):=fun (v1,v2,v15,v16,v17) =>
 bif decide (v17 < v16) then inR v17 ((List.length v15):Int) (inR v17 ((List.length v1):Int) (Option.bind v2 fun q0=>Option.bind (q0 (ix zg v15 v17,ix zg v1 v17,())) fun q1=>bif q1.1 then k0 (v1,v2,v15,v16,wI (v17 + 1)) else some (false,()))) else some (true,())
abbrev zgD (K:Nat):vg→Option (Bool × Unit):=zk vh K
theorem zoL (K:Nat):∀ n,evV Es0 K Tryz.f181 0 (ch [.bool]) [1,1,0,1,0] [] zoK n = zk vh n:=zt fun n0 (v1,v2,v15,v16,v17)=>by kernel_rfl
def zee (L0:vg→Option (Bool × Unit)):((List zi) × ((List zi) × ((Option ((zi × (zi × Unit))→Option (Bool × Unit))) × Unit)))→Option (Bool × Unit):=fun (x0,x1,x2,()) =>
 bif ((List.length x0):Int) != ((List.length x1):Int) then some (false,()) else L0 (x1,x2,x0,((List.length x0):Int),0)
def zef:((List zi) × ((List zi) × ((Option ((zi × zi × Unit)→Option (Bool × Unit))) × Unit)))→Option (Bool × Unit):=zee (zgD K0)
abbrev zil:Fun:=⟨181,(ch [(.sl zp),(.sl zp),(.fn (ch [zp,zp]) (ch [.bool]))]),(ch [.bool]),0,zef⟩
theorem zq2:Sq zil:=ml0 (d:=false) (S:=fun K=>zee (zgD K)) Tryz.func181 (by kernel_rfl) (fun K=>tr1 (T:=zee) (zoL K K) fun (x0,x1,x2,())=>by kernel_rfl) rfl
abbrev zaC:Type:=(List ja) × (List ja) × Int × Int
abbrev zuR:zaC→St:=fun (v0,v1,v12,v13)=>St.mk [(0,.dat (.sl qn) v0),(1,.dat (.sl qn) v1),(12,.dat tI v12),(13,.dat tI v13)] []
def zgj (k0:zaC→Option (Bool × Unit)):zaC→Option (Bool × Unit):=fun (v0,v1,v12,v13) =>
 bif decide (v13 < v12) then inR v13 ((List.length v0):Int) (inR v13 ((List.length v1):Int) (bif !eqI qn (ix zuw v0 v13) (ix zuw v1 v13) then some (false,()) else k0 (v0,v1,v12,wI (v13 + 1)))) else some (true,())
abbrev zlg (K:Nat):zaC→Option (Bool × Unit):=zk zgj K
theorem zuS (K:Nat):∀ n,evV Es0 K Tryz.f275 0 (ch [.bool]) [1,1,0,1,0] [] zuR n = zk zgj n:=zt fun n0 (v0,v1,v12,v13)=>by kernel_rfl
def zim (L0:zaC→Option (Bool × Unit)):((List ja) × ((List ja) × Unit))→Option (Bool × Unit):=fun (x0,x1,()) =>
 bif ((List.length x0):Int) != ((List.length x1):Int) then some (false,()) else L0 (x0,x1,((List.length x0):Int),0)
def zin:((List ja) × (List ja) × Unit)→Option (Bool × Unit):=zim (zlg K0)
abbrev znK:Fun:=⟨275,(ch [(.sl qn),(.sl qn)]),(ch [.bool]),0,zin⟩
theorem zyk:Sq znK:=ml0 (d:=false) (S:=fun K=>zim (zlg K)) Tryz.func275 (by kernel_rfl) (fun K=>tr1 (T:=zim) (zuS K K) fun (x0,x1,())=>by kernel_rfl) rfl
abbrev zaD:Type:=(List qg) × (List qg) × Int × Int
abbrev zuT:zaD→St:=fun (v0,v1,v12,v13)=>St.mk [(0,.dat (.sl z4) v0),(1,.dat (.sl z4) v1),(12,.dat tI v12),(13,.dat tI v13)] []
def zgk (k0:zaD→Option (Bool × Unit)):zaD→Option (Bool × Unit):=fun (v0,v1,v12,v13) =>
 bif decide (v13 < v12) then inR v13 ((List.length v0):Int) (inR v13 ((List.length v1):Int) (bif !eqI z4 (ix vU v0 v13) (ix vU v1 v13) then some (false,()) else k0 (v0,v1,v12,wI (v13 + 1)))) else some (true,())
abbrev zlh (K:Nat):zaD→Option (Bool × Unit):=zk zgk K
theorem zuU (K:Nat):∀ n,evV Es0 K Tryz.f276 0 (ch [.bool]) [1,1,0,1,0] [] zuT n = zk zgk n:=zt fun n0 (v0,v1,v12,v13)=>by kernel_rfl
def zio (L0:zaD→Option (Bool × Unit)):((List qg) × ((List qg) × Unit))→Option (Bool × Unit):=fun (x0,x1,()) =>
 bif ((List.length x0):Int) != ((List.length x1):Int) then some (false,()) else L0 (x0,x1,((List.length x0):Int),0)
def ziq:((List qg) × (List qg) × Unit)→Option (Bool × Unit):=zio (zlh K0)
abbrev znL:Fun:=⟨276,(ch [(.sl z4),(.sl z4)]),(ch [.bool]),0,ziq⟩
theorem zyl:Sq znL:=ml0 (d:=false) (S:=fun K=>zio (zlh K)) Tryz.func276 (by kernel_rfl) (fun K=>tr1 (T:=zio) (zuU K K) fun (x0,x1,())=>by kernel_rfl) rfl
abbrev zaE:Type:=(List qb) × (List qb) × Int × Int
abbrev zuV:zaE→St:=fun (v0,v1,v12,v13)=>St.mk [(0,.dat (.sl zZ) v0),(1,.dat (.sl zZ) v1),(12,.dat tI v12),(13,.dat tI v13)] []
def zgl (k0:zaE→Option (Bool × Unit)):zaE→Option (Bool × Unit):=fun (v0,v1,v12,v13) =>
 bif decide (v13 < v12) then inR v13 ((List.length v0):Int) (inR v13 ((List.length v1):Int) (bif !eqI zZ (ix zd1 v0 v13) (ix zd1 v1 v13) then some (false,()) else k0 (v0,v1,v12,wI (v13 + 1)))) else some (true,())
abbrev zli (K:Nat):zaE→Option (Bool × Unit):=zk zgl K
theorem zuW (K:Nat):∀ n,evV Es0 K Tryz.f277 0 (ch [.bool]) [1,1,0,1,0] [] zuV n = zk zgl n:=zt fun n0 (v0,v1,v12,v13)=>by kernel_rfl
def zir (L0:zaE→Option (Bool × Unit)):((List qb) × ((List qb) × Unit))→Option (Bool × Unit):=fun (x0,x1,()) =>
 bif ((List.length x0):Int) != ((List.length x1):Int) then some (false,()) else L0 (x0,x1,((List.length x0):Int),0)
def zis:((List qb) × (List qb) × Unit)→Option (Bool × Unit):=zir (zli K0)
abbrev znM:Fun:=⟨277,(ch [(.sl zZ),(.sl zZ)]),(ch [.bool]),0,zis⟩
theorem zym:Sq znM:=ml0 (d:=false) (S:=fun K=>zir (zli K)) Tryz.func277 (by kernel_rfl) (fun K=>tr1 (T:=zir) (zuW K K) fun (x0,x1,())=>by kernel_rfl) rfl
abbrev zaF:Type:=(List zm) × (List zm) × Int × Int
abbrev zuX:zaF→St:=fun (v0,v1,v12,v13)=>St.mk [(0,.dat (.sl zu) v0),(1,.dat (.sl zu) v1),(12,.dat tI v12),(13,.dat tI v13)] []
def zgm (k0:zaF→Option (Bool × Unit)):zaF→Option (Bool × Unit):=fun (v0,v1,v12,v13) =>
 bif decide (v13 < v12) then inR v13 ((List.length v0):Int) (inR v13 ((List.length v1):Int) (bif !eqI zu (ix vP v0 v13) (ix vP v1 v13) then some (false,()) else k0 (v0,v1,v12,wI (v13 + 1)))) else some (true,())
abbrev zlj (K:Nat):zaF→Option (Bool × Unit):=zk zgm K
theorem zuY (K:Nat):∀ n,evV Es0 K Tryz.f278 0 (ch [.bool]) [1,1,0,1,0] [] zuX n = zk zgm n:=zt fun n0 (v0,v1,v12,v13)=>by kernel_rfl
def zit (L0:zaF→Option (Bool × Unit)):((List zm) × ((List zm) × Unit))→Option (Bool × Unit):=fun (x0,x1,()) =>
 bif ((List.length x0):Int) != ((List.length x1):Int) then some (false,()) else L0 (x0,x1,((List.length x0):Int),0)
def ziu:((List zm) × (List zm) × Unit)→Option (Bool × Unit):=zit (zlj K0)
abbrev znN:Fun:=⟨278,(ch [(.sl zu),(.sl zu)]),(ch [.bool]),0,ziu⟩
theorem zyn:Sq znN:=ml0 (d:=false) (S:=fun K=>zit (zlj K)) Tryz.func278 (by kernel_rfl) (fun K=>tr1 (T:=zit) (zuY K K) fun (x0,x1,())=>by kernel_rfl) rfl
abbrev zad:Type:=(List zw) × (List zw) × Int × Int
abbrev zto:zad→St:=fun (v0,v1,v12,v13)=>St.mk [(0,.dat (.sl zz) v0),(1,.dat (.sl zz) v1),(12,.dat tI v12),(13,.dat tI v13)] []
def zft (k0:zad→Option (Bool × Unit)):zad→Option (Bool × Unit):=fun (v0,v1,v12,v13) =>
 bif decide (v13 < v12) then inR v13 ((List.length v0):Int) (inR v13 ((List.length v1):Int) (bif !eqI zz (ix qT v0 v13) (ix qT v1 v13) then some (false,()) else k0 (v0,v1,v12,wI (v13 + 1)))) else some (true,())
abbrev zkz (K:Nat):zad→Option (Bool × Unit):=zk zft K
theorem ztp (K:Nat):∀ n,evV Es0 K Tryz.f279 0 (ch [.bool]) [1,1,0,1,0] [] zto n = zk zft n:=zt fun n0 (v0,v1,v12,v13)=>by kernel_rfl
def zhg (L0:zad→Option (Bool × Unit)):((List zw) × ((List zw) × Unit))→Option (Bool × Unit):=fun (x0,x1,()) =>
 bif ((List.length x0):Int) != ((List.length x1):Int) then some (false,()) else L0 (x0,x1,((List.length x0):Int),0)
def zhh:((List zw) × (List zw) × Unit)→Option (Bool × Unit):=zhg (zkz K0)
abbrev zmi:Fun:=⟨279,(ch [(.sl zz),(.sl zz)]),(ch [.bool]),0,zhh⟩
theorem zwp:Sq zmi:=ml0 (d:=false) (S:=fun K=>zhg (zkz K)) Tryz.func279 (by kernel_rfl) (fun K=>tr1 (T:=zhg) (ztp K K) fun (x0,x1,())=>by kernel_rfl) rfl
abbrev zci:Type:=(List (List Int)) × (List (List Int)) × Int × Int
abbrev zyo:zci→St:=fun (v0,v1,v12,v13)=>St.mk [(0,.dat (.sl (.arr 4 tU)) v0),(1,.dat (.sl (.arr 4 tU)) v1),(12,.dat tI v12),(13,.dat tI v13)] []
def ziv (k0:zci→Option (Bool × Unit)):zci→Option (Bool × Unit):=fun (v0,v1,v12,v13) =>
 bif decide (v13 < v12) then inR v13 ((List.length v0):Int) (inR v13 ((List.length v1):Int) (bif !eqI (.arr 4 tU) (List.getD v0 (Int.toNat v13) (ze (.arr 4 tU))) (List.getD v1 (Int.toNat v13) (ze (.arr 4 tU))) then some (false,()) else k0 (v0,v1,v12,wI (v13 + 1)))) else some (true,())
abbrev znO (K:Nat):zci→Option (Bool × Unit):=zk ziv K
theorem zyp (K:Nat):∀ n,evV Es0 K Tryz.f280 0 (ch [.bool]) [1,1,0,1,0] [] zyo n = zk ziv n:=zt fun n0 (v0,v1,v12,v13)=>by kernel_rfl
def zkV (L0:zci→Option (Bool × Unit)):((List (List Int)) × ((List (List Int)) × Unit))→Option (Bool × Unit):=fun (x0,x1,()) =>
 bif ((List.length x0):Int) != ((List.length x1):Int) then some (false,()) else L0 (x0,x1,((List.length x0):Int),0)
def zkW:((List (List Int)) × (List (List Int)) × Unit)→Option (Bool × Unit):=zkV (znO K0)
abbrev zrC:Fun:=⟨280,(ch [(.sl (.arr 4 tU)),(.sl (.arr 4 tU))]),(ch [.bool]),0,zkW⟩
theorem zB5:Sq zrC:=ml0 (d:=false) (S:=fun K=>zkV (znO K)) Tryz.func280 (by kernel_rfl) (fun K=>tr1 (T:=zkV) (zyp K K) fun (x0,x1,())=>by kernel_rfl) rfl
abbrev zbp:Type:=(List zN) × (List zN) × Int × Int
abbrev zwq:zbp→St:=fun (v0,v1,v12,v13)=>St.mk [(0,.dat (.sl jf) v0),(1,.dat (.sl jf) v1),(12,.dat tI v12),(13,.dat tI v13)] []
def zhi (k0:zbp→Option (Bool × Unit)):zbp→Option (Bool × Unit):=fun (v0,v1,v12,v13) =>
 bif decide (v13 < v12) then inR v13 ((List.length v0):Int) (inR v13 ((List.length v1):Int) (bif !eqI jf (ix zD v0 v13) (ix zD v1 v13) then some (false,()) else k0 (v0,v1,v12,wI (v13 + 1)))) else some (true,())
abbrev zmj (K:Nat):zbp→Option (Bool × Unit):=zk zhi K
theorem zwr (K:Nat):∀ n,evV Es0 K Tryz.f281 0 (ch [.bool]) [1,1,0,1,0] [] zwq n = zk zhi n:=zt fun n0 (v0,v1,v12,v13)=>by kernel_rfl
def zjA (L0:zbp→Option (Bool × Unit)):((List zN) × ((List zN) × Unit))→Option (Bool × Unit):=fun (x0,x1,()) =>
 bif ((List.length x0):Int) != ((List.length x1):Int) then some (false,()) else L0 (x0,x1,((List.length x0):Int),0)
def zjB:((List j9) × (List j9) × Unit)→Option (Bool × Unit):=zjA (zmj K0)
abbrev zpx:Fun:=⟨281,(ch [(.sl zR),(.sl zR)]),(ch [.bool]),0,zjB⟩
theorem zz8:Sq zpx:=ml0 (d:=false) (S:=fun K=>zjA (zmj K)) Tryz.func281 (by kernel_rfl) (fun K=>tr1 (T:=zjA) (zwr K K) fun (x0,x1,())=>by kernel_rfl) rfl
abbrev vH:Type:=(List (List Int)) × (Option (((List Int) × ((List Int) × Unit))→Option (Bool × Unit))) × (List (List Int)) × Int × Int
abbrev zpy:vH→St:=fun (v1,v2,v15,v16,v17)=>St.mk [(1,.dat (.sl (.sl tI)) v1),(2,.dat (.fn (.pair (.sl tI) (.pair (.sl tI) .unit)) (.pair .bool .unit)) v2),(15,.dat (.sl (.sl tI)) v15),(16,.dat tI v16),(17,.dat tI v17)] []
def vI (k0:vH→Option (Bool × Unit)):vH→Option (Bool × Unit):=fun (v1,v2,v15,v16,v17) =>
 bif decide (v17 < v16) then inR v17 ((List.length v15):Int) (inR v17 ((List.length v1):Int) (Option.bind v2 fun q0=>Option.bind (q0 (List.getD v15 (Int.toNat v17) ([]:List Int),List.getD v1 (Int.toNat v17) ([]:List Int),())) fun q1=>bif q1.1 then k0 (v1,v2,v15,v16,wI (v17 + 1)) else some (false,()))) else some (true,())
abbrev zhK (K:Nat):vH→Option (Bool × Unit):=zk vI K
theorem zpz (K:Nat):∀ n,evV Es0 K Tryz.f183 0 (ch [.bool]) [1,1,0,1,0] [] zpy n = zk vI n:=zt fun n0 (v1,v2,v15,v16,v17)=>by kernel_rfl
def zeV (L0:vH→Option (Bool × Unit)):((List (List Int)) × ((List (List Int)) × ((Option (((List Int) × ((List Int) × Unit))→Option (Bool × Unit))) × Unit)))→Option (Bool × Unit):=fun (x0,x1,x2,()) =>
 bif ((List.length x0):Int) != ((List.length x1):Int) then some (false,()) else L0 (x1,x2,x0,((List.length x0):Int),0)
def zeW:((List (List Int)) × ((List (List Int)) × ((Option (((List Int) × (List Int) × Unit)→Option (Bool × Unit))) × Unit)))→Option (Bool × Unit):=zeV (zhK K0)
abbrev zjj:Fun:=⟨183,(ch [(.sl (.sl tI)),(.sl (.sl tI)),(.fn (ch [(.sl tI),(.sl tI)]) (ch [.bool]))]),(ch [.bool]),0,zeW⟩
theorem zss:Sq zjj:=ml0 (d:=false) (S:=fun K=>zeV (zhK K)) Tryz.func183 (by kernel_rfl) (fun K=>tr1 (T:=zeV) (zpz K K) fun (x0,x1,x2,())=>by kernel_rfl) rfl
abbrev zbq:Type:=(List Int) × (List Int) × Int × Int
abbrev zws:zbq→St:=fun (v0,v1,v12,v13)=>St.mk [(0,.dat (.sl tI) v0),(1,.dat (.sl tI) v1),(12,.dat tI v12),(13,.dat tI v13)] []
def zhj (k0:zbq→Option (Bool × Unit)):zbq→Option (Bool × Unit):=fun (v0,v1,v12,v13) =>
 bif decide (v13 < v12) then inR v13 ((List.length v0):Int) (inR v13 ((List.length v1):Int) (bif ix (0:Int) v0 v13 != ix (0:Int) v1 v13 then some (false,()) else k0 (v0,v1,v12,wI (v13 + 1)))) else some (true,())
abbrev zmk (K:Nat):zbq→Option (Bool × Unit):=zk zhj K
theorem zwt (K:Nat):∀ n,evV Es0 K Tryz.f184 0 (ch [.bool]) [1,1,0,1,0] [] zws n = zk zhj n:=zt fun n0 (v0,v1,v12,v13)=>by kernel_rfl
def zjC (L0:zbq→Option (Bool × Unit)):((List Int) × ((List Int) × Unit))→Option (Bool × Unit):=fun (x0,x1,()) =>
 bif ((List.length x0):Int) != ((List.length x1):Int) then some (false,()) else L0 (x0,x1,((List.length x0):Int),0)
def zba:((List Int) × (List Int) × Unit)→Option (Bool × Unit):=zjC (zmk K0)
abbrev zpA:Fun:=⟨184,(ch [(.sl tI),(.sl tI)]),(ch [.bool]),0,zba⟩
theorem zz9:Sq zpA:=ml0 (d:=false) (S:=fun K=>zjC (zmk K)) Tryz.func184 (by kernel_rfl) (fun K=>tr1 (T:=zjC) (zwt K K) fun (x0,x1,())=>by kernel_rfl) rfl
abbrev zae:Type:=(List zr) × (List zr) × Int × Int
abbrev ztq:zae→St:=fun (v0,v1,v12,v13)=>St.mk [(0,.dat (.sl zq) v0),(1,.dat (.sl zq) v1),(12,.dat tI v12),(13,.dat tI v13)] []
def zfu (k0:zae→Option (Bool × Unit)):zae→Option (Bool × Unit):=fun (v0,v1,v12,v13) =>
 bif decide (v13 < v12) then inR v13 ((List.length v0):Int) (inR v13 ((List.length v1):Int) (bif !eqI zq (ix qt v0 v13) (ix qt v1 v13) then some (false,()) else k0 (v0,v1,v12,wI (v13 + 1)))) else some (true,())
abbrev zkA (K:Nat):zae→Option (Bool × Unit):=zk zfu K
theorem ztr (K:Nat):∀ n,evV Es0 K Tryz.f185 0 (ch [.bool]) [1,1,0,1,0] [] ztq n = zk zfu n:=zt fun n0 (v0,v1,v12,v13)=>by kernel_rfl
def zhk (L0:zae→Option (Bool × Unit)):((List zr) × ((List zr) × Unit))→Option (Bool × Unit):=fun (x0,x1,()) =>
 bif ((List.length x0):Int) != ((List.length x1):Int) then some (false,()) else L0 (x0,x1,((List.length x0):Int),0)
def zhl:((List zr) × (List zr) × Unit)→Option (Bool × Unit):=zhk (zkA K0)
abbrev zml:Fun:=⟨185,(ch [(.sl zq),(.sl zq)]),(ch [.bool]),0,zhl⟩
theorem zwu:Sq zml:=ml0 (d:=false) (S:=fun K=>zhk (zkA K)) Tryz.func185 (by kernel_rfl) (fun K=>tr1 (T:=zhk) (ztr K K) fun (x0,x1,())=>by kernel_rfl) rfl
abbrev zaf:Type:=(List zH) × (List zH) × Int × Int
abbrev zts:zaf→St:=fun (v0,v1,v12,v13)=>St.mk [(0,.dat (.sl zy) v0),(1,.dat (.sl zy) v1),(12,.dat tI v12),(13,.dat tI v13)] []
def zfv (k0:zaf→Option (Bool × Unit)):zaf→Option (Bool × Unit):=fun (v0,v1,v12,v13) =>
 bif decide (v13 < v12) then inR v13 ((List.length v0):Int) (inR v13 ((List.length v1):Int) (bif !eqI zy (ix zh1 v0 v13) (ix zh1 v1 v13) then some (false,()) else k0 (v0,v1,v12,wI (v13 + 1)))) else some (true,())
abbrev zkB (K:Nat):zaf→Option (Bool × Unit):=zk zfv K
theorem ztt (K:Nat):∀ n,evV Es0 K Tryz.f186 0 (ch [.bool]) [1,1,0,1,0] [] zts n = zk zfv n:=zt fun n0 (v0,v1,v12,v13)=>by kernel_rfl
def zhm (L0:zaf→Option (Bool × Unit)):((List zH) × ((List zH) × Unit))→Option (Bool × Unit):=fun (x0,x1,()) =>
 bif ((List.length x0):Int) != ((List.length x1):Int) then some (false,()) else L0 (x0,x1,((List.length x0):Int),0)
def zhn:((List zH) × (List zH) × Unit)→Option (Bool × Unit):=zhm (zkB K0)
abbrev zmm:Fun:=⟨186,(ch [(.sl zy),(.sl zy)]),(ch [.bool]),0,zhn⟩
theorem zwv:Sq zmm:=ml0 (d:=false) (S:=fun K=>zhm (zkB K)) Tryz.func186 (by kernel_rfl) (fun K=>tr1 (T:=zhm) (ztt K K) fun (x0,x1,())=>by kernel_rfl) rfl
def zrD:Unit→Option (za × Unit):=fun () =>
 some (([(0,0,()),(0,1,()),(1,1,())],[0,1,2],[(ByteArray.mk #[97,110,110],ByteArray.mk #[97],1,true,()),(ByteArray.mk #[98,111,98],ByteArray.mk #[98],0,false,())],[(0,0,())],[(2,2,2,2,2,1000,()),(2,2,2,2,2,1000,()),(2,2,2,2,2,1000,())],4,6,2,3,()),())
abbrev zrE:Fun:=⟨61,.unit,(ch [zl]),0,zrD⟩
theorem zB6:Sq zrE:=ms0 (d:=false) (K:=0) Tryz.func61 (by kernel_rfl) (funext fun ()=>by kernel_rfl)
def qV:(zm × Unit)→Option (Bool × Unit):=fun (x0,()) =>
 bif x0.1 then some (true,()) else some (false,())
abbrev ztu:Fun:=⟨192,(ch [zu]),(ch [.bool]),0,qV⟩
theorem zEi:Sq ztu:=ms0 (d:=false) (K:=0) Tryz.func192 (by kernel_rfl) (funext fun (x0,())=>by kernel_rfl)
def yb:((Option yp) × Unit)→Option (Bool × Unit):=fun (x0,()) =>
 bif Option.isSome x0 then Option.bind x0 fun q0=>bif Option.isSome q0.2.1 then some (true,()) else some (false,()) else some (false,())
abbrev znP:Fun:=⟨194,(ch [(.ptr j3)]),(ch [.bool]),0,yb⟩
theorem zyq:Sq znP:=ms0 (d:=false) (K:=0) Tryz.func194 (by kernel_rfl) (funext fun (x0,())=>by kernel_rfl)
def zkC:(zm × ((Option (Option yp)) × Unit))→Option (Bool × Unit):=fun (x0,x1,()) =>
 Option.bind x1 fun q0=>Option.bind q0 fun q1=>Option.bind q1.2.1 fun q2=>Option.bind (q2 (x0,())) fun q3=>bif q3.1 then some (false,()) else some (true,())
abbrev zkD:Fun:=⟨283,(ch [zu,(.ptr (.ptr j3))]),(ch [.bool]),0,zkC⟩
theorem ztv:Sq zkD:=ms0 (d:=false) (K:=0) Tryz.func283 (by kernel_rfl) (funext fun (x0,x1,())=>by kernel_rfl)
def zdt:(zd × (pMe × Unit))→Option ((List zm) × Unit):=fun (x0,x1,()) =>
 inR x1.2.1 ((List.length x0.2.1):Int) (some ((ix zg x0.2.1 x1.2.1).2.2.2.1,()))
abbrev ztw:Fun:=⟨54,(ch [zx,tMe]),(ch [(.sl zu)]),0,zdt⟩
theorem zEj:Sq ztw:=ms0 (d:=false) (K:=0) Tryz.func54 (by kernel_rfl) (funext fun (x0,x1,())=>by kernel_rfl)
def y4:(Int × ((Option (List zm)) × ((Option Int) × Unit)))→Option (Bool × Unit):=fun (x0,x1,x2,()) =>
 Option.bind x1 fun q0=>inR x0 ((List.length q0):Int) (Option.bind x2 fun q1=>bif (ix vP q0 x0).2.2.2.1 != q1 then some (true,()) else some (false,()))
abbrev zvt:Fun:=⟨103,(ch [tI,(.ptr (.sl zu)),(.ptr tI)]),(ch [.bool]),0,y4⟩
theorem zGi:Sq zvt:=ms0 (d:=false) (K:=0) Tryz.func103 (by kernel_rfl) (funext fun (x0,x1,x2,())=>by kernel_rfl)
def vi:(pMe × ((Option zd) × Unit))→Option (zN × Unit):=fun (x0,x1,()) =>
 Option.bind x1 fun q0=>inR x0.2.1 ((List.length q0.2.1):Int) (inR x0.2.2.1 ((List.length (ix zg q0.2.1 x0.2.1).2.2.2.2.2.2.1):Int) (some (List.getD (ix zg q0.2.1 x0.2.1).2.2.2.2.2.2.1 (Int.toNat x0.2.2.1) (ze zR),())))
abbrev ztx:Fun:=⟨68,(ch [tMe,(.ptr zx)]),(ch [zR]),0,vi⟩
theorem zEk:Sq ztx:=ms0 (d:=false) (K:=0) Tryz.func68 (by kernel_rfl) (funext fun (x0,x1,())=>by kernel_rfl)
def zfw:(pMe × ((Option (Option ((pMe × Unit)→Option (zN × Unit)))) × ((Option pMe) × Unit)))→Option (Bool × Unit):=fun (x0,x1,x2,()) =>
 Option.bind x1 fun q0=>Option.bind q0 fun q1=>Option.bind (q1 (x0,())) fun q2=>Option.bind x1 fun q3=>Option.bind x2 fun q4=>Option.bind q3 fun q5=>Option.bind (q5 (q4,())) fun q6=>bif eqI zR q2.1 q6.1 then some (true,()) else some (false,())
abbrev zty:Fun:=⟨70,(ch [tMe,(.ptr (.fn (ch [tMe]) (ch [zR]))),(.ptr tMe)]),(ch [.bool]),0,zfw⟩
theorem zEl:Sq zty:=ms0 (d:=false) (K:=0) Tryz.func70 (by kernel_rfl) (funext fun (x0,x1,x2,())=>by kernel_rfl)
def zdu:(za × (Int × Unit))→Option (Bool × Unit):=fun (x0,x1,()) =>
 bif decide (x1 ≥ 0) then bif decide (x1 < ((List.length x0.2.2.2.1):Int)) then some (true,()) else some (false,()) else some (false,())
abbrev zpB:Fun:=⟨72,(ch [zl,tI]),(ch [.bool]),0,zdu⟩
theorem zAa:Sq zpB:=ms0 (d:=false) (K:=0) Tryz.func72 (by kernel_rfl) (funext fun (x0,x1,())=>by kernel_rfl)
abbrev zEm:Fun:=⟨126,(ch [zn]),(ch [(.sl tI)]),0,zfj⟩
abbrev zbr:Type:=(List Int) × Int × Int × Int
abbrev zww:zbr→St:=fun (v0,v1,v7,v8)=>St.mk [(0,.dat (.sl tI) v0),(1,.dat tI v1),(7,.dat tI v7),(8,.dat tI v8)] []
def zbs (k0:zbr→Option (Int × Unit)):zbr→Option (Int × Unit):=fun (v0,v1,v7,v8) =>
 bif decide (v8 < v7) then inR v8 ((List.length v0):Int) (bif v1 == ix (0:Int) v0 v8 then some (v8,()) else k0 (v0,v1,v7,wI (v8 + 1))) else some ((-1),())
abbrev zmn (K:Nat):zbr→Option (Int × Unit):=zk zbs K
theorem zwx (K:Nat):∀ n,evV Es0 K Tryz.f125 0 (ch [tI]) [1,0,1,0] [] zww n = zk zbs n:=zt fun n0 (v0,v1,v7,v8)=>by kernel_rfl
def zjD (L0:zbr→Option (Int × Unit)):((List Int) × (Int × Unit))→Option (Int × Unit):=fun (x0,x1,()) =>
 L0 (x0,x1,((List.length x0):Int),0)
def zjE:((List Int) × Int × Unit)→Option (Int × Unit):=zjD (zmn K0)
abbrev zpC:Fun:=⟨125,(ch [(.sl tI),tI]),(ch [tI]),0,zjE⟩
theorem zAb:Sq zpC:=ml0 (d:=false) (S:=fun K=>zjD (zmn K)) Tryz.func125 (by kernel_rfl) (fun K=>tr1 (T:=zjD) (zwx K K) fun (x0,x1,())=>by kernel_rfl) rfl
def zjF:(pMe × Unit)→Option (Bool × Unit):=fun (x0,()) =>
 some (true,())
abbrev zpD:Fun:=⟨75,(ch [tMe]),(ch [.bool]),0,zjF⟩
theorem zAc:Sq zpD:=ms0 (d:=false) (K:=0) Tryz.func75 (by kernel_rfl) (funext fun (x0,())=>by kernel_rfl)
def zdU:(Int × (Int × Unit))→Option (Bool × Unit):=fun (x0,x1,()) =>
 bif decide (x0 ≥ 0) then bif decide (x0 < x1) then some (true,()) else some (false,()) else some (false,())
abbrev zBy:Fun:=⟨231,(ch [tI,tI]),(ch [.bool]),0,zdU⟩
theorem zJZ:Sq zBy:=ms0 (d:=false) (K:=0) Tryz.func231 (by kernel_rfl) (funext fun (x0,x1,())=>by kernel_rfl)
abbrev vj:Type:=(List zN) × (Option ((zN × Unit)→Option (Bool × Unit))) × Int × Int
abbrev zoM:vj→St:=fun (v0,v1,v7,v8)=>St.mk [(0,.dat (.sl jf) v0),(1,.dat (.fn (.pair jf .unit) (.pair .bool .unit)) v1),(7,.dat tI v7),(8,.dat tI v8)] []
def zcX (k0:vj→Option (Int × Unit)):vj→Option (Int × Unit):=fun (v0,v1,v7,v8) =>
 bif decide (v8 < v7) then inR v8 ((List.length v0):Int) (Option.bind v1 fun q0=>Option.bind (q0 (ix zD v0 v8,())) fun q1=>bif q1.1 then some (v8,()) else k0 (v0,v1,v7,wI (v8 + 1))) else some ((-1),())
abbrev zgE (K:Nat):vj→Option (Int × Unit):=zk zcX K
theorem zoN (K:Nat):∀ n,evV Es0 K Tryz.f318 0 (ch [tI]) [1,0,1,0] [] zoM n = zk zcX n:=zt fun n0 (v0,v1,v7,v8)=>by kernel_rfl
def zeg (L0:vj→Option (Int × Unit)):((List zN) × ((Option ((zN × Unit)→Option (Bool × Unit))) × Unit))→Option (Int × Unit):=fun (x0,x1,()) =>
 L0 (x0,x1,((List.length x0):Int),0)
def zaU:((List zN) × ((Option ((zN × Unit)→Option (Bool × Unit))) × Unit))→Option (Int × Unit):=zeg (zgE K0)
abbrev ziw:Fun:=⟨318,(ch [(.sl jf),(.fn (ch [jf]) (ch [.bool]))]),(ch [tI]),0,zaU⟩
theorem zq3:Sq ziw:=ml0 (d:=false) (S:=fun K=>zeg (zgE K)) Tryz.func318 (by kernel_rfl) (fun K=>tr1 (T:=zeg) (zoN K K) fun (x0,x1,())=>by kernel_rfl) rfl
def zbt:(Int × ((Option (List (List Int))) × ((Option Int) × Unit)))→Option (Bool × Unit):=fun (x0,x1,x2,()) =>
 Option.bind x1 fun q0=>inR x0 ((List.length q0):Int) (Option.bind x2 fun q1=>inR q1 ((List.length (List.getD q0 (Int.toNat x0) ([]:List Int))):Int) (bif List.getD (List.getD q0 (Int.toNat x0) ([]:List Int)) (Int.toNat q1) (0:Int) == 0 then some (true,()) else some (false,())))
abbrev zmo:Fun:=⟨320,(ch [tI,(.ptr (.sl (.sl tI))),(.ptr tI)]),(ch [.bool]),0,zbt⟩
theorem zwy:Sq zmo:=ms0 (d:=false) (K:=0) Tryz.func320 (by kernel_rfl) (funext fun (x0,x1,x2,())=>by kernel_rfl)
def znQ:(Int × (Bool × Unit))→Option (Int × (Int × Unit)):=fun (x0,x1,()) =>
 bif x0 != 0 then some (0,4,()) else some (1,0,())
abbrev znR:Fun:=⟨128,(ch [tI,.bool]),(ch [tI,tI]),0,znQ⟩
theorem zyr:Sq znR:=ms0 (d:=false) (K:=0) Tryz.func128 (by kernel_rfl) (funext fun (x0,x1,())=>by kernel_rfl)
def zpE:(Int × (Bool × Unit))→Option (Int × (Int × Unit)):=fun (x0,x1,()) =>
 bif x0 == 0 then some (0,3,()) else bif x0 == 2 then some (0,4,()) else some (2,0,())
abbrev zpF:Fun:=⟨129,(ch [tI,.bool]),(ch [tI,tI]),0,zpE⟩
theorem zAd:Sq zpF:=ms0 (d:=false) (K:=0) Tryz.func129 (by kernel_rfl) (funext fun (x0,x1,())=>by kernel_rfl)
def zpG:(Int × (Bool × Unit))→Option (Int × (Int × Unit)):=fun (x0,x1,()) =>
 bif x0 == 0 then some (0,3,()) else bif x1 then some (0,5,()) else some (0,0,())
abbrev zpH:Fun:=⟨130,(ch [tI,.bool]),(ch [tI,tI]),0,zpG⟩
theorem zAe:Sq zpH:=ms0 (d:=false) (K:=0) Tryz.func130 (by kernel_rfl) (funext fun (x0,x1,())=>by kernel_rfl)
abbrev zdv:Type:=(List Int) × (List Int) × Int
abbrev zAf:zdv→St:=fun (v0,v1,v5)=>St.mk [(0,.dat (.sl tI) v0),(1,.dat (.sl tI) v1),(5,.dat tI v5)] []
def zdw (k0:zdv→Option (Bool × Unit)):zdv→Option (Bool × Unit):=fun (v0,v1,v5) =>
 bif decide (v5 < ((List.length v0):Int)) then inR v5 ((List.length v0):Int) (inR v5 ((List.length v1):Int) (bif ix (0:Int) v0 v5 != ix (0:Int) v1 v5 then some (false,()) else k0 (v0,v1,wI (v5 + 1)))) else some (true,())
abbrev zpI (K:Nat):zdv→Option (Bool × Unit):=zk zdw K
theorem zAg (K:Nat):∀ n,evV Es0 K Tryz.f16 0 (ch [.bool]) [1,1,0,1,0] [] zAf n = zk zdw n:=zt fun n0 (v0,v1,v5)=>by kernel_rfl
def zmp (L0:zdv→Option (Bool × Unit)):((List Int) × ((List Int) × Unit))→Option (Bool × Unit):=fun (x0,x1,()) =>
 bif ((List.length x0):Int) != ((List.length x1):Int) then some (false,()) else L0 (x0,x1,0)
def qF:((List Int) × (List Int) × Unit)→Option (Bool × Unit):=zmp (zpI K0)
abbrev ztz:Fun:=⟨16,(ch [(.sl tI),(.sl tI)]),(ch [.bool]),0,qF⟩
theorem zEn:Sq ztz:=ml0 (d:=false) (S:=fun K=>zmp (zpI K)) Tryz.func16 (by kernel_rfl) (fun K=>tr1 (T:=zmp) (zAg K K) fun (x0,x1,())=>by kernel_rfl) rfl
abbrev L1:List Fun:=zru :: zpc :: zh2 :: znz :: zkp :: zs4 :: zkq :: zs5 :: zs6 :: zi7 :: zs7 :: zgx :: zlb :: zs8 :: zs9 :: zl8 :: zl9 :: znA :: zi9 :: zh7 :: zja :: ztc :: ztd :: zpj :: zjb :: zjc :: zx7 :: zx8 :: zjd :: zBw :: zte :: zf9 :: zgz :: zia :: zx9 :: ztf :: ztg :: zpq :: zlc :: zBx :: zya :: zrv :: zrw :: znB :: zje :: zib :: zjf :: zic :: zld :: zvq :: znC :: zku :: znD :: zkv :: zle :: zkw :: zkx :: zjg :: zmc :: znE :: zmd :: zme :: ztl :: zmf :: zrx :: zvr :: zry :: zpr :: zps :: ztm :: zrz :: zvs :: zrA :: zjh :: zky :: zlf :: zmg :: zpv :: znF :: zmh :: znG :: znH :: znI :: znJ :: zrB :: zpw :: zil :: znK :: znL :: znM :: znN :: zmi :: zrC :: zpx :: zjj :: zpA :: zml :: zmm :: zrE :: ztu :: znP :: zkD :: ztw :: zvt :: ztx :: zty :: zpB :: zEm :: zpC :: zpD :: zBy :: ziw :: zmo :: znR :: zpF :: zpH :: ztz :: L0
theorem h1:Sds Tryz.prog E0 L1:=⟨zBX,zzX,zqQ,zx5,zs3,zD5,zkr,zD6,zD7,zse,zD8,zoA,zuM,zD9,zEa,zwh,zwi,zx6,zsh,zqT,zsi,zEb,zEc,zz2,zsj,zsk,zIa,zIb,zsl,zJX,zEd,zm8,zoD,zqV,zIc,zEe,zEf,zz3,zuN,zJY,zId,zBY,zBZ,zyb,zsm,zqW,zsn,zqX,zuO,zGf,zyc,zth,zyd,zti,zuP,ztj,ztk,zso,zwj,zye,zwk,zwl,zEg,zwm,zB0,zGg,zB1,zz4,zz5,zEh,zB2,zGh,zB3,zsp,ztn,zuQ,zwn,zz6,zyf,zwo,zyg,zyh,zyi,zyj,zB4,zz7,zq2,zyk,zyl,zym,zyn,zwp,zB5,zz8,zss,zz9,zwu,zwv,zB6,zEi,zyq,ztv,zEj,zGi,zEk,zEl,zAa,zD4,zAb,zAc,zJZ,zq3,zwy,zyr,zAd,zAe,zEn,h0⟩
theorem ms1 {d:Bool} {F:Fun} {f:Go.Func} {K:Nat} (hf:Tryz.prog.funcs[F.id]? = some f) (ho:jC f = true) (h:evF (En E0 d L1) K f F.md F.a F.r = F.spec):Sd Tryz.prog E0 F:=mkS h1 hf ho h
theorem ml1 {d:Bool} {F:Fun} {f:Go.Func} {S:Nat→F.a.I→Option F.r.I} (hf:Tryz.prog.funcs[F.id]? = some f) (ho:jC f = true) (h:∀ K,evF (En E0 d L1) K f F.md F.a F.r = S K) (e:S K0 = F.spec):Sd Tryz.prog E0 F:=mkS h1 hf ho ((h K0).trans e)
abbrev Es1:Env:=En E0 false L1
abbrev Ed1:Env:=En E0 true L1
def zeh:(zo × Unit)→Option (Bool × Unit):=fun (x0,()) =>
 Option.bind (zbW (x0,())) fun q0=>bif q0.1 then some (false,()) else some (true,())
abbrev zmq:Fun:=⟨299,(ch [zn]),(ch [.bool]),0,zeh⟩
theorem zwz:Sq zmq:=ms1 (d:=false) (K:=0) Tryz.func299 (by kernel_rfl) (funext fun (x0,())=>by kernel_rfl)
end
end Go.Proofs.YtkcakhbkoeimdaaGreatDoor
end
