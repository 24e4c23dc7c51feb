import Derived.Test.YtlklokhlgcfcdaaGreatDoorSsc
import Derived.Carry
import Derived.OpenShut
import Derived.Test.YtlklokhlgcfcdaaGreatDoorProg
import Derived.RangeFuncBox
import Derived.RangeFuncLeaves
import Derived.Shelf.Abstract
import Derived.WalkKit
import Derived.OwnWalkIn
import Derived.TacticsInMore
import Derived.LoopNIn
import Derived.LoopIn
import Derived.Maps.AppendAt
import Derived.Laws.Bits64b
import Derived.Lib.TrailingZeros
set_option linter.unusedSimpArgs false
set_option linter.unusedVariables false
section
namespace Go.Ev
open Go.RowKit
section
variable {P:Program} {nt:Up} {F0 F G:FH} {w0 w:World} {st st':St} {m:MM} {a:Act} {E:Env} {v:AV} {u:Value}
def zkH (ids:Nat→Option Nat) (h:List Obj):(b:Ty)→Nat→b.I→List AV→Prop
  | .pair (.sl σ) b,i,x,v :: vs=>(∃ id,v = .ow id ∧ ids i = some id ∧ atN h id = some (mkO σ (bif σ.deep then some (List.length x.1) else none) x.1)) ∧ zkH ids h b (i + 1) x.2 vs
  | .pair a b,i,x,v :: vs=>v = .dat a x.1 ∧ zkH ids h b (i + 1) x.2 vs
  | .unit,_,_,[]=>True
  | _,_,_,_=>False
theorem zkH.ids {ids ids':Nat→Option Nat} {h:List Obj}:∀ {b:Ty} {i:Nat} {x:b.I} {vs:List AV},(∀ f,i ≤ f→ids' f = ids f)→zkH ids h b i x vs→zkH ids' h b i x vs:=by
  intro b
  induction b with
  | unit=>intro i x vs _ ho; cases vs <;> exact ho
  | pair t b _ ihb =>
    intro i x vs hi ho
    cases vs with
    | nil=>cases t <;> exact ho.elim
    | cons v vs =>
      cases t with
      | sl σ =>
        obtain ⟨⟨id,h1,h2,h3⟩,h4⟩:=ho
        exact ⟨⟨id,h1,by rw [hi i (Nat.le_refl _)]; exact h2,h3⟩,ihb (fun f hf=>hi f (by omega)) h4⟩
      | _=>exact ⟨ho.1,ihb (fun f hf=>hi f (by omega)) ho.2⟩
  | _=>intro i x vs _ ho; cases vs <;> exact ho.elim
theorem zkH.heap {ids:Nat→Option Nat} {h h':List Obj}:∀ {b:Ty} {i:Nat} {x:b.I} {vs:List AV},(∀ f id,ids f = some id→atN h' id = atN h id)→zkH ids h b i x vs→zkH ids h' b i x vs:=by
  intro b
  induction b with
  | unit=>intro i x vs _ ho; cases vs <;> exact ho
  | pair t b _ ihb =>
    intro i x vs hi ho
    cases vs with
    | nil=>cases t <;> exact ho.elim
    | cons v vs =>
      cases t with
      | sl σ =>
        obtain ⟨⟨id,h1,h2,h3⟩,h4⟩:=ho
        exact ⟨⟨id,h1,h2,by rw [hi _ _ h2]; exact h3⟩,ihb hi h4⟩
      | _=>exact ⟨ho.1,ihb hi ho.2⟩
  | _=>intro i x vs _ ho; cases vs <;> exact ho.elim
theorem zBc {h h0 h1:List Obj} (hdr:∀ i τ xs k,atN h i = some (.drow τ xs k)→τ.deep = true) {t:Ty} {x:t.I} (hz:zrw h0 t v = some (x,h1)) (l:vO h0 h) :
    (v = .dat t x ∧ t.dl = false ∧ h1 = h0) ∨ ∃ (σ:Ty) (xs:List σ.I) (id:Nat),(⟨t,x⟩:(τ:Ty) × τ.I) = ⟨.sl σ,xs⟩ ∧ v = .ow id ∧ atN h id = some (mkO σ (bif σ.deep then some (List.length xs) else none) xs) ∧ atN h0 id ≠ some .gone ∧ (∃ o,atN h0 id = some o) ∧ h1 = zj h0 id .gone:=by
  cases v with
  | dat τ y =>
    simp only [zrw] at hz
    obtain ⟨hdl,hz⟩:=z3 hz
    split at hz
    · rename_i z hc
      cases hz
      obtain ⟨rfl,rfl⟩:=zH hc
      exact .inl ⟨rfl,hdl,rfl⟩
    · cases hz
  | ow id =>
    simp only [zrw] at hz
    right
    split at hz
    · rename_i τ xs ho
      obtain ⟨hd,hz⟩:=z3 hz
      split at hz
      · rename_i z hc
        cases hz
        obtain ⟨e,rfl⟩:=zH hc
        subst e
        refine ⟨τ,xs,id,rfl,rfl,?_,(by rw [ho]; intro e; cases e),⟨_,ho⟩,rfl⟩
        rw [l.at ho (by intro e; cases e),hd]
        rfl
      · cases hz
    · rename_i τ xs n ho
      split at hz
      · rename_i z hc
        obtain ⟨hn,hz⟩:=zd hz
        cases hz
        obtain ⟨e,rfl⟩:=zH hc
        subst e
        have hat:=l.at ho (by intro e; cases e)
        refine ⟨τ,xs,id,rfl,rfl,?_,(by rw [ho]; intro e; cases e),⟨_,ho⟩,rfl⟩
        rw [hat,hdr _ _ _ _ hat,of_decide_eq_true hn]
        rfl
      · cases hz
    · cases hz
  | _=>cases hz
theorem zvJ {h:List Obj} (hdr:∀ i τ xs k,atN h i = some (.drow τ xs k)→τ.deep = true):∀ {b:Ty} {vs:List AV} {x:b.I} {h0 h1:List Obj} (i:Nat),ownC b vs h0 = some (x,h1)→vO h0 h →
    ∃ ids:Nat→Option Nat,zkH ids h b i x vs ∧ vO h1 h ∧ (∀ f id,ids f = some id→i ≤ f ∧ atN h0 id ≠ some .gone ∧ atN h1 id = some .gone ∧ ∃ σ k xs,atN h id = some (mkO σ k xs)) ∧ (∀ j,atN h0 j = some .gone→atN h1 j = some .gone) ∧
      ∀ f f' id,ids f = some id→ids f' = some id→f = f':=by
  intro b
  induction b with
  | unit =>
    intro vs x h0 h1 i hz l
    cases vs with
    | nil=>cases hz; exact ⟨fun _=>none,trivial,l,fun f id e=>(by cases e),fun _ h=>h,fun f f' id e=>(by cases e)⟩
    | cons _ _=>cases hz
  | pair t b _ ihb =>
    intro vs x h0 h1 i hz l
    cases vs with
    | nil=>cases hz
    | cons v vs =>
      simp only [ownC] at hz
      split at hz
      · rename_i y h2 hy
        split at hz
        · rename_i ys h3 hys
          cases hz
          rcases zBc hdr hy l with ⟨rfl,hdl,rfl⟩ | ⟨σ,xs,id,e,rfl,hat,hng,⟨o,ho⟩,rfl⟩
          · obtain ⟨ids,g1,g2,g3,g4,g5⟩:=ihb (i + 1) hys l
            refine ⟨ids,?_,g2,fun f id hf=>⟨by have:=(g3 f id hf).1; omega,(g3 f id hf).2⟩,g4,g5⟩
            cases t with
            | sl σ=>cases hdl
            | _=>exact ⟨rfl,g1⟩
          · cases e
            obtain ⟨ids,g1,g2,g3,g4,g5⟩:=ihb (i + 1) hys (l.gone ho)
            have hid:atN (zj h0 id .gone) id = some .gone:=vF ho
            have hids:∀ f,i + 1 ≤ f→(if f = i then some id else ids f) = ids f:=fun f hf=>by rw [if_neg (by omega)]
            refine ⟨fun f=>if f = i then some id else ids f,⟨⟨id,rfl,if_pos rfl,hat⟩,g1.ids hids⟩,g2,fun f id' hf=>?_,fun j hj=>?_,fun f f' id' hf hf'=>?_⟩
            · by_cases e:f = i
              · simp only [e,if_true,Option.some.injEq] at hf
                subst hf
                exact ⟨by omega,hng,g4 _ hid,σ,_,_,hat⟩
              · simp only [e,if_false] at hf
                obtain ⟨k1,k2,k3,k4⟩:=g3 f id' hf
                refine ⟨by omega,fun hg=>k2 ?_,k3,k4⟩
                by_cases e2:id = id'
                · rw [← e2]; exact hid
                · rw [zY e2]; exact hg
            · refine g4 j ?_
              by_cases e2:id = j
              · rw [← e2]; exact hid
              · rw [zY e2]; exact hj
            · by_cases e:f = i <;> by_cases e':f' = i
              · omega
              · simp only [e,if_true,Option.some.injEq] at hf
                simp only [e',if_false] at hf'
                subst hf
                exact absurd hid (g3 f' _ hf').2.1
              · simp only [e,if_false] at hf
                simp only [e',if_true,Option.some.injEq] at hf'
                subst hf'
                exact absurd hid (g3 f _ hf).2.1
              · simp only [e,if_false] at hf
                simp only [e',if_false] at hf'
                exact g5 f f' id' hf hf'
        · cases hz
      · cases hz
  | _=>intro vs x h0 h1 i hz l; cases vs <;> cases hz
def MM.ofI (m:MM) (ids:Nat→Option Nat):Nat→Nat→List Nat→Option (Nat × Nat):=fun f=>match ids f with | some id=>m.d id | none=>fun _ _=>none
theorem MM.ofI_some {m:MM} {ids:Nat→Option Nat} {f j:Nat} {p:List Nat} {b:Nat × Nat} (h:m.ofI ids f j p = some b):∃ id,ids f = some id ∧ m.d id j p = some b:=by
  unfold MM.ofI at h
  cases hi:ids f with
  | none=>rw [hi] at h; cases h
  | some id=>rw [hi] at h; exact ⟨id,rfl,h⟩
theorem zzq (h:Rel P nt F0 w0 st m F a w) {ids:Nat→Option Nat}:∀ {b:Ty} {i:Nat} {x:b.I} {vs:List AV} {cs:List Value},zkH ids st.h b i x vs→zN P st.h m F b vs cs→zea P F w (fun f=>(ids f).bind m) (m.ofI ids) b i x cs:=by
  intro b
  induction b with
  | unit =>
    intro i x vs cs ho hv
    cases vs with
    | nil=>exact hv
    | cons _ _=>exact hv.elim
  | pair t b _ ihb =>
    intro i x vs cs ho hv
    cases vs with
    | nil=>exact hv.elim
    | cons v vs =>
      obtain ⟨c,d,rfl,h1,h2⟩:=hv
      cases t with
      | sl σ =>
        obtain ⟨⟨id,rfl,hi,hat⟩,h4⟩:=ho
        obtain ⟨σ',u,e1,rfl,hs,_⟩:=h1
        cases e1
        refine ⟨u,d,rfl,⟨fun j p bk n hp=>?_,?_⟩,ihb h4 h2⟩
        · obtain ⟨id',hi',hp⟩:=MM.ofI_some hp
          rw [hi] at hi'; cases hi'
          obtain ⟨⟨o,g1,g2⟩,_⟩:=h.dok _ _ _ _ _ hp
          rw [hat] at g1
          cases g1
          cases hd:σ.deep with
          | false=>rw [hd] at g2; cases g2
          | true =>
            rw [hd] at g2
            simp only [cond_true,mkO,Obj.deepAt,decide_eq_true_eq] at g2
            exact ⟨rfl,g2⟩
        · have hq:=zy.owAt hat (zlc _ _ _) hs
          show match (ids i).bind m with | some (b,n)=>_ | none=>_
          rw [hi,Option.bind_some]
          cases hmi:m id with
          | none =>
            rw [hmi] at hq
            exact ⟨zxa (h.obs _ _ hat) hmi,hq.2⟩
          | some bn =>
            obtain ⟨bk,n⟩:=bn
            rw [hmi] at hq
            obtain ⟨cap,g1,g2,g3⟩:=hq
            refine ⟨cap,g1,g2,g3,?_⟩
            have:=zmN (h.obs _ _ hat) hmi
            have hd:m.ofI ids i = m.d id:=by unfold MM.ofI; rw [hi]
            rw [hd]
            exact this
      | _ =>
        obtain ⟨rfl,h4⟩:=ho
        exact ⟨c,d,rfl,h1.2,ihb h4 h2⟩
  | _=>intro i x vs cs ho; cases vs <;> exact ho.elim
theorem zzr (h:Rel P nt F0 w0 st m F a w) {ids:Nat→Option Nat} (hat:∀ f id,ids f = some id→∃ σ k xs,atN st.h id = some (mkO σ k xs)) (hinj:∀ f f' id,ids f = some id→ids f' = some id→f = f'):zwX F w w0.heap.size (fun f=>(ids f).bind m) (m.ofI ids):=by
  refine ⟨fun f b n hf=>?_,fun f j p b n hp=>?_,fun f f' b n n' hf hf'=>?_,fun f j p b n f' j' p' n' hp hp'=>?_,fun f b n f' j p n' hf hp=>?_⟩
  · obtain ⟨id,hi,hf⟩:=Option.bind_eq_some_iff.1 hf
    obtain ⟨σ,k,xs,ho⟩:=hat f id hi
    obtain ⟨el,cs,c,d,_,_,_,hF,_⟩:=zmN (h.obs _ _ ho) hf
    have:=h.rng _ _ _ hf
    exact ⟨this.2.1,this.2.2,hF⟩
  · obtain ⟨id,hi,hp⟩:=MM.ofI_some hp
    have:=h.dok _ _ _ _ _ hp
    exact ⟨this.2.1,this.2.2.1,this.2.2.2.1⟩
  · obtain ⟨id,hi,hf⟩:=Option.bind_eq_some_iff.1 hf
    obtain ⟨id',hi',hf'⟩:=Option.bind_eq_some_iff.1 hf'
    have:=h.inj _ _ _ _ _ hf hf'
    subst this
    exact hinj _ _ _ hi hi'
  · obtain ⟨id,hi,hp⟩:=MM.ofI_some hp
    obtain ⟨id',hi',hp'⟩:=MM.ofI_some hp'
    obtain ⟨rfl,e2,e3⟩:=h.din _ _ _ _ _ _ _ _ _ hp hp'
    exact ⟨hinj _ _ _ hi hi',e2,e3⟩
  · obtain ⟨id,hi,hf⟩:=Option.bind_eq_some_iff.1 hf
    obtain ⟨id',hi',hp⟩:=MM.ofI_some hp
    exact (h.dok _ _ _ _ _ hp).2.2.2.2 _ _ hf
theorem zBZ {ρ:Type} {h:List Obj} {σ:Ty} {v:AV} {k:σ.I→List Obj→Option ρ}:zzy h σ v k = (zrw h σ v).bind fun p=>k p.1 p.2:=by
  unfold zzy zrw
  cases v with
  | dat τ x =>
    simp only
    cases τ.dl with
    | true=>rfl
    | false=>simp only [cond_false]; cases qf τ σ x <;> rfl
  | ow id =>
    simp only
    cases atN h id with
    | none=>rfl
    | some o =>
      cases o with
      | row τ xs f =>
        cases f with
        | true=>rfl
        | false =>
          simp only
          cases τ.deep with
          | true=>rfl
          | false=>simp only [cond_false]; cases qf (.sl τ) σ xs <;> rfl
      | drow τ xs n =>
        simp only
        cases qf (.sl τ) σ xs with
        | none=>rfl
        | some x=>simp only; cases decide (n = List.length xs) <;> rfl
      | _=>rfl
  | _=>rfl
theorem zxt {ρ:Type}:∀ {σ:Ty} {vs:List AV} {h:List Obj} {k:σ.I→List Obj→Option ρ},zsF σ vs h k = (ownC σ vs h).bind fun p=>k p.1 p.2:=by
  intro σ
  induction σ with
  | unit=>intro vs h k; cases vs <;> rfl
  | pair a b _ ihb =>
    intro vs h k
    cases vs with
    | nil=>rfl
    | cons v vs =>
      simp only [zsF,ownC,zBZ,ihb]
      cases zrw h a v with
      | none=>rfl
      | some p =>
        obtain ⟨x,h1⟩:=p
        simp only [Option.bind_some]
        cases ownC b vs h1 <;> rfl
  | _=>intro vs h k; cases vs <;> rfl
theorem zBd {md:Nat} {r:Ty} {y:r.I} {vs:List AV} {us:List Value} (h:Rel P nt F0 w0 st m F a w) (hv:qx P st.h m F vs us) (hz:zzz md r vs st = some y) :
    ∃ F',F0.grow F' w0.heap.size ∧ F'.ok w ∧ zfL P F' w w0.heap.size md r y us:=by
  unfold zzz at hz
  split at hz
  ·
    rename_i b c v vs
    split at hz
    · rename_i x h1 hx
      split at hz
      · rename_i p hp
        cases hz
        obtain ⟨u,r,rfl,hv1,hv2⟩:=hv
        obtain ⟨id,k,rfl,hat,rfl,hkr⟩:∃ id k,v = .ow id ∧ atN st.h id = some (mkO b k x) ∧ h1 = zj st.h id .gone ∧ (k = none ∨ k = some 0):=by
          unfold zAy at hx
          split at hx
          · rename_i id
            split at hx
            · rename_i τ xs ho
              split at hx
              · rename_i z hc
                cases hx
                obtain ⟨e,rfl⟩:=zH hc
                cases e
                exact ⟨id,none,rfl,ho,rfl,.inl rfl⟩
              · cases hx
            · rename_i τ xs n ho
              split at hx
              · rename_i z hc
                obtain ⟨hn,hx⟩:=zd hx
                cases hx
                obtain ⟨e,rfl⟩:=zH hc
                cases e
                have hn:n = 0:=of_decide_eq_true hn
                subst hn
                exact ⟨id,some 0,rfl,ho,rfl,.inr rfl⟩
              · cases hx
            · cases hx
          · cases hx
        obtain ⟨st2fr,st2h⟩:=st
        have l:vO (zj st2h id .gone) st2h:=(vO.refl st2h).gone hat
        obtain ⟨h',e1,e2,e3⟩:=zkG l (show qE false c vs ⟨st2fr,zj st2h id .gone⟩ = some (p.1,p.2) from hp)
        obtain ⟨m',F',g1,g2,g3⟩:=zbA e1 h hv2
        have hat':atN h' id = some (mkO b k x):=by rw [(e3.2 id (vF hat)).2]; exact hat
        have hq:=zy.owAt hat' (zlc _ _ _) (show zy P h' m' F' (.ow id) u from hv1.ext g3)
        refine ⟨F',g1.gro,g1.fok,?_⟩
        simp only [zfL]
        refine ⟨u,r,rfl,g2,?_⟩
        cases hmi:m' id with
        | none =>
          rw [hmi] at hq
          exact .inr ⟨zxa (g1.obs _ _ hat') hmi,hq.2⟩
        | some bn =>
          obtain ⟨bk,n⟩:=bn
          rw [hmi] at hq
          obtain ⟨cap,k1,k2,k3⟩:=hq
          obtain ⟨el,cs,cc,d,f1,f2,f3,f4,f5⟩:=zmN (g1.obs _ _ hat') hmi
          refine .inl ⟨bk,cap,el,cs,cc,d,k3,k2,(g1.rng _ _ _ hmi).2.1,f1,f4,by rw [f2,k1],f3,?_⟩
          rcases hkr with rfl | rfl
          · exact f5
          · exact zQ.toL (fun j x c _ _ hx=>by unfold DE at hx; rw [if_neg (by omega)] at hx; exact hx) (show zQ (DE P F' w (m'.d id) b 0) 0 x cc from f5)
      · cases hz
    · cases hz
  ·
    rename_i b c c' vs us'
    obtain ⟨hbc,hz⟩:=zd hz
    simp only [decide_eq_true_eq] at hbc
    rw [zxt] at hz
    obtain ⟨⟨x,h1⟩,hx,hz⟩:=Option.bind_eq_some_iff.1 hz
    · split at hz
      · rename_i p hp
        cases hz
        obtain ⟨u,r,rfl,hv1,hv2⟩:=hv
        obtain ⟨cs,rfl,hfs⟩:=(show zx P st.h m F (.fld c' vs) u from hv1)
        subst hbc
        obtain ⟨ids,k1,k2,k3,k4,k5⟩:=zvJ (fun i τ xs k ho=>(h.drowk ho).2) 0 hx (vO.refl _)
        obtain ⟨st2fr,st2h⟩:=st
        obtain ⟨h',e1,e2,e3⟩:=zkG k2 (show qE false c us' ⟨st2fr,h1⟩ = some (p.1,p.2) from hp)
        obtain ⟨m',F',g1,g2,g3⟩:=zbA e1 h hv2
        have hkeep:∀ f id,ids f = some id→atN h' id = atN st2h id:=fun f id hf=>(e3.2 id (k3 f id hf).2.2.1).2
        refine ⟨F',g1.gro,g1.fok,?_⟩
        simp only [zfL]
        refine ⟨.agg cs,r,cs,_,_,rfl,g2,rfl,zzq g1 (k1.heap hkeep) (hfs.ext g3),zzr g1 (fun f id hf=>?_) k5⟩
        obtain ⟨σ,k,xs,ho⟩:=(k3 f id hf).2.2.2
        exact ⟨σ,k,xs,by rw [hkeep f id hf]; exact ho⟩
      · cases hz
  ·
    rename_i b c v us'
    rw [zxt] at hz
    obtain ⟨⟨x,h1⟩,hx,hz⟩:=Option.bind_eq_some_iff.1 hz
    · split at hz
      · rename_i p hp
        cases hz
        obtain ⟨u,r,rfl,hv1,hv2⟩:=hv
        obtain ⟨ids,k1,k2,k3,k4,k5⟩:=zvJ (fun i τ xs k ho=>(h.drowk ho).2) 0 hx (vO.refl _)
        obtain ⟨⟨id,rfl,hi0,hat0⟩,_⟩:=(show (∃ id,v = .ow id ∧ ids 0 = some id ∧ atN st.h id = some (mkO b _ x.1)) ∧ _ from k1)
        have hT:yA st.h id = some b:=by rw [zqe hat0,zlc]; rfl
        have hfs:zN P st.h m F (.pair (.sl b) .unit) [.ow id] [u]:=⟨[u],[],rfl,jJ.ofRow hT (show zy P st.h m F (.ow id) u from hv1),rfl⟩
        obtain ⟨st2fr,st2h⟩:=st
        obtain ⟨h',e1,e2,e3⟩:=zkG k2 (show qE false c us' ⟨st2fr,h1⟩ = some (p.1,p.2) from hp)
        obtain ⟨m',F',g1,g2,g3⟩:=zbA e1 h hv2
        have hkeep:∀ f id,ids f = some id→atN h' id = atN st2h id:=fun f id hf=>(e3.2 id (k3 f id hf).2.2.1).2
        refine ⟨F',g1.gro,g1.fok,?_⟩
        simp only [zfL]
        refine ⟨u,r,_,_,rfl,g2,zzq g1 (k1.heap hkeep) (hfs.ext g3),zzr g1 (fun f id hf=>?_) k5⟩
        obtain ⟨σ,k,xs,ho⟩:=(k3 f id hf).2.2.2
        exact ⟨σ,k,xs,by rw [hkeep f id hf]; exact ho⟩
      · cases hz
  ·
    split at hz
    · rename_i p hp
      cases hz
      obtain ⟨m',F',g1,g2,_⟩:=zbA (x:=p.1) (st':=p.2) hp h hv
      exact ⟨F',g1.gro,g1.fok,g2⟩
    · cases hz
  · cases hz
theorem zBe (hm:P.follows .mixedOrders = true) (hE:EnvOk P G E) {fi:FuncId} {f:Func} (hf:P.funcs[fi]? = some f) {K md:Nat} {a r:Ty} {x:a.I} {y:r.I} (he:evF E K f md a r x = some y)
    {F0:FH} {w:World} {vs:List Value} (hG:G.le F0) (hk:F0.ok w) (hr:RepA P F0 a x vs) :
    Calls P fi vs.toArray w fun e w'=>∃ us F',e = .returned (zmz us) ∧ Below w.heap.size w w' ∧ F0.grow F' w.heap.size ∧ F'.ok w' ∧ zfL P F' w' w.heap.size md r y us:=by
  unfold evF at he
  cases hb:f.body with
  | none=>rw [hb] at he; cases he
  | some c =>
    rw [hb] at he
    simp only at he
    have hE':EnvOk P G { E with nt:=f.ntmps }:=⟨hE.types,hE.funs,hE.glob,hE.ext,hE.hnd⟩
    refine calls_of_wp hf hb ?_
    refine zzp (nt:=⟨f.ntmps,[],F0⟩) (F0:=F0) (w0:=w) (.inr rfl) hm hE' hG rfl c (r:=y) ?_ ⟨_,F0,Rel.enter hk hr f.ntmps⟩ he
    rintro e st a' w' ⟨m,F,h⟩ hfin
    have hdone:(cond ((f.results.toList.map (zaF { E with nt:=f.ntmps } st)).all Option.isSome) (zzz md r ((f.results.toList.map (zaF { E with nt:=f.ntmps } st)).filterMap id) st) none) = some y →
        a'.defers = [] ∧ ∃ v,(results f a'.tmps).run P w' = .ok v w' ∧ ∃ us F',Ending.returned v = .returned (zmz us) ∧ Below w.heap.size w w' ∧ F0.grow F' w.heap.size ∧ F'.ok w' ∧ zfL P F' w' w.heap.size md r y us:=by
      intro hfin
      obtain ⟨h1,h2⟩:=zd hfin
      obtain ⟨us,h3,h4⟩:=zq7 hE' h (zgN h1)
      obtain ⟨F',g1,g2,g3⟩:=zBd h h4 h2
      exact ⟨h.dfr,_,h3,us,F',rfl,h.bel,g1,g2,g3⟩
    cases e with
    | normal=>exact hdone hfin
    | ret=>exact hdone hfin
    | exit id=>cases hfin
theorem qx.one {h:List Obj}:∀ {vs:List AV} {us:List Value},qx P h m F vs us→vs.all AV.one = true→zge P h m F vs us
  | [],_,e,_=>e
  | v :: vs,_,⟨u,r,e,h1,h2⟩,ho=>by
    simp only [List.all_cons,Bool.and_eq_true] at ho
    rw [zg.eq1 (by rintro ws rfl; cases ho.1)] at h1
    exact ⟨u,r,e,h1,qx.one h2 ho.2⟩
theorem zte:∀ {vs:List AV} {us:List Value} {h:List Obj} {m:MM} {F:FH} {i t:Nat} {v:AV},look (slots vs i) t = some v→qx P h m F vs us→i ≤ t ∧ ∃ u,us[t - i]? = some u ∧ zg P h m F v u
  | [],_,_,_,_,_,_,_,h,_=>by simp [slots,look] at h
  | x :: vs,_,hp,m,F,i,t,v,h,⟨u,r,rfl,h1,h2⟩=>by
    simp only [slots] at h
    by_cases e:i = t
    · subst e
      simp only [look,beq_self,cond_true,Option.some.injEq] at h
      subst h
      exact ⟨Nat.le_refl _,u,by simp,h1⟩
    · simp only [look,yC e,cond_false] at h
      obtain ⟨g1,u',g2,g3⟩:=zte h h2
      refine ⟨by omega,u',?_,g3⟩
      rw [show t - i = (t - (i + 1)) + 1 by omega,List.getElem?_cons_succ]
      exact g2
theorem zCP (hm:P.follows .mixedOrders = true) (hE:EnvOk P G E) {fi:FuncId} {f:Func} (hf:P.funcs[fi]? = some f) (hn:(f.name == "runtime.NumGoroutine") = false) (hb':f.body.isNone = false):zDk P G fi (zDt E f):=by
  refine ⟨⟨f,hf,hn,hb'⟩,fun args h h' v he nt F0 w0 fr m F a w vs hG hr hv=>?_⟩
  change zmU E f (AV × List Obj) args h (fun v h=>some (v,h)) = some (v,h') at he
  unfold zmU at he
  cases hb:f.body with
  | none=>rw [hb] at he; cases he
  | some c =>
    rw [hb] at he
    simp only at he
    have hE':EnvOk P G (inE E f):=⟨hE.types,hE.funs,hE.glob,hE.ext,hE.hnd⟩
    refine calls_of_wp hf hb ?_
    let up:List (AV × Value):=fr.filterMap (fun p=>(look fr p.1).map fun v=>(v,a.tmps.getD p.1 undef)) ++ nt.up
    have hup:∀ v u,(v,u) ∈ up→zg P h m F v u:=by
      intro v u hv
      rcases List.mem_append.1 hv with hv | hv
      · obtain ⟨p,hp,e⟩:=List.mem_filterMap.1 hv
        obtain ⟨v',h1,h2⟩:=Option.map_eq_some_iff.1 e
        cases h2
        exact hr.fr _ _ h1
      · exact hr.up v u hv
    have hst:Rel P ⟨f.ntmps,up,F⟩ F0 w0 ⟨slots args 0,h⟩ m F { tmps:=vs.toArray ++ Array.replicate (f.ntmps - vs.toArray.size) undef,defers:=[] } w:=by
      refine ⟨by simp; omega,fun t v ht=>?_,hup,.refl F,hr.obs,hr.inj,hr.rng,hr.dok,hr.din,hr.fok,hr.gro,hr.bel,rfl⟩
      obtain ⟨_,u,h2,h3⟩:=zte ht hv
      rw [Nat.sub_zero] at h2
      have hlt:=(List.getElem?_eq_some_iff.1 h2).1
      have:(vs.toArray ++ Array.replicate (f.ntmps - vs.toArray.size) undef).getD t undef = u:=by
        rw [Array.getD_eq_getD_getElem?,Array.getElem?_append_left (by simpa using hlt)]
        simp [h2]
      rw [this]
      exact h3
    refine zzp (nt:=⟨f.ntmps,up,F⟩) (F0:=F0) (w0:=w0) (.inl rfl) hm hE' hG rfl c (r:=(v,h')) ?_ ⟨m,F,hst⟩ he
    rintro e st a' w' ⟨m',F',h2⟩ hfin
    have hdone:(cond ((f.results.toList.map (zaF (inE E f) st)).all Option.isSome && ((f.results.toList.map (zaF (inE E f) st)).filterMap id).all AV.one) (some (unT ((f.results.toList.map (zaF (inE E f) st)).filterMap id),st.h)) none) = some (v,h') →
        a'.defers = [] ∧ ∃ v1,(results f a'.tmps).run P w' = .ok v1 w' ∧ ∃ u m' F',Ending.returned v1 = .returned u ∧ F.le F' ∧ Rel P nt F0 w0 ⟨fr,h'⟩ m' F' a w' ∧ zg P h' m' F' v u:=by
      intro hfin
      obtain ⟨g1,g2⟩:=zd hfin
      rw [Bool.and_eq_true] at g1
      cases g2
      obtain ⟨us,g3,g4⟩:=zq7 hE' h2 (zgN g1.1)
      refine ⟨h2.dfr,_,g3,_,m',F',rfl,h2.lo,⟨hr.nt,fun t v ht=>?_,fun v u hv=>h2.up v u (List.mem_append.2 (.inr hv)),hr.lo.trans h2.lo,h2.obs,h2.inj,h2.rng,h2.dok,h2.din,h2.fok,h2.gro,h2.bel,hr.dfr⟩,zaN (qx.one g4 g1.2)⟩
      have hmem:∀ (l:List (Nat × AV)),look l t = some v→∃ p ∈ l,p.1 = t:=by
        intro l
        induction l with
        | nil=>intro h; simp [look] at h
        | cons p l ih =>
          intro h
          obtain ⟨k,y⟩:=p
          simp only [look] at h
          cases hb:Nat.beq k t with
          | true=>exact ⟨(k,y),by simp,Nat.eq_of_beq_eq_true hb⟩
          | false=>rw [hb] at h; obtain ⟨p,hp,e⟩:=ih h; exact ⟨p,by simp [hp],e⟩
      obtain ⟨p,hp,rfl⟩:=hmem fr ht
      exact h2.up v _ (List.mem_append.2 (.inl (List.mem_filterMap.2 ⟨p,hp,by rw [ht]; rfl⟩)))
    cases e with
    | normal=>exact hdone hfin
    | ret=>exact hdone hfin
    | exit id=>cases hfin
end
end Go.Ev
end
section
namespace Go.Ev
open Go.RowKit Go.ChangeShapes
def InR:(τ:Ty)→τ.I→Prop
  | .int k,n=>(Lit.int k n).wf = true
  | .str,s=>ByteArray.size s ≤ maxLen
  | .pair a b,x=>InR a x.1 ∧ InR b x.2
  | .st a,x=>InR a x
  | .arr n a,xs=>List.length xs = n ∧ ∀ x ∈ (show List a.I from xs),InR a x
  | .sl a,xs=>List.length xs ≤ maxLen ∧ ∀ x ∈ (show List a.I from xs),InR a x
  | _,_=>True
def Ty.data:Ty→Bool
  | .bool | .int _ | .str | .unit=>true
  | .pair a b=>a.data && b.data
  | .st a=>a.data
  | .arr _ a=>a.data
  | .sl a=>a.data
  | _=>false
mutual
def dbk {H:Type}:DataW H→Nat
  | .slice elems _=>zcU elems + 1
  | .agg parts=>zcU parts + 1
  | _=>1
def zcU {H:Type}:List (DataW H)→Nat
  | []=>0
  | d :: r=>dbk d + zcU r
end
def bkI:(τ:Ty)→τ.I→Nat
  | .unit,_=>0
  | .pair a b,x=>bkI a x.1 + bkI b x.2
  | .st a,x=>bkI a x + 1
  | .arr _ a,xs=>(List.map (bkI a) xs).sum + 1
  | .sl a,xs=>(List.map (bkI a) xs).sum + 1
  | _,_=>1
def WtR:(τ:Ty)→τ.I→Prop
  | .str,s=>ByteArray.size s ≤ reachBytes
  | .pair a b,x=>WtR a x.1 ∧ WtR b x.2
  | .st a,x=>WtR a x
  | .arr _ a,xs=>∀ x ∈ (show List a.I from xs),WtR a x
  | .sl a,xs=>List.length xs * a.bts ≤ reachBytes ∧ ∀ x ∈ (show List a.I from xs),WtR a x
  | _,_=>True
theorem zrL {P:Program} {H:Type} {e:TypeId} {n:Nat} {d:DataW H}:∀ {l:List (DataW H)},d ∈ l→n ∈ DataW.weights P e d→n ∈ DataW.weightsAll P e l
  | x :: l,h,hn=>by
    simp only [DataW.weightsAll,List.mem_append]
    rcases List.mem_cons.1 h with rfl | h
    · exact .inl hn
    · exact .inr (zrL h hn)
theorem zxu {α β:Type} {f:α→Option β}:∀ (l:List α) (ys:List β),l.mapM f = some ys→ys.length = l.length
  | [],ys,h=>by
    have:ys = []:=by simpa using h.symm
    subst this; rfl
  | x :: l,ys,h=>by
    rw [List.mapM_cons] at h
    simp only [Option.bind_eq_bind,Option.bind_eq_some_iff,Option.pure_def,Option.some.injEq] at h
    obtain ⟨y,_,ys',h2,rfl⟩:=h
    simp [zxu l ys' h2]
theorem zqo {H:Type} (d:DataW H):1 ≤ dbk d:=by cases d <;> simp [dbk]
section
variable {P:Program} {H:Type} {enc:TypeId × Value→H} {w:World} {base:Nat} {sp:Nat→Bool} {held:Bool}
theorem zxv {a:Addr} {j:Nat} {v:Value} (h:w.cell? (a.add j) = some v) (h0:a.spot = none ∨ j = 0):a.spot = none ∧ ∃ c el fz,w.heap[a.block]? = some (.cells c el fz) ∧ c[a.off + j]? = some v:=by
  have hs:a.spot = none:=by
    rcases h0 with h0 | rfl
    · exact h0
    · have:a.add 0 = a:=by unfold Addr.add; rfl
      rw [this] at h
      unfold World.cell? at h
      split at h
      · cases hsp:a.spot with
        | none=>rfl
        | some x=>rw [hsp] at h; simp at h
      · cases h
  refine ⟨hs,?_⟩
  rw [zmD hs] at h
  unfold World.cell? at h
  simp only at h
  split at h
  · rename_i c el fz hk
    exact ⟨c,el,fz,hk,by simpa using h⟩
  · cases h
theorem zxw {a:Addr} {n:Nat} {cs:List Value} (h:w.cells? base a n = some cs) (hn:0 < n):∃ c,FH.of w a.block = some c ∧ a.spot = none ∧ ∀ (j:Nat) (v:Value),cs[j]? = some v→c[a.off + j]? = some v:=by
  obtain ⟨hb,hl,hc⟩:=World.cells?_some h
  have h0:=hc 0 hn
  rw [List.getElem?_eq_getElem (by omega)] at h0
  obtain ⟨hs,c,el,fz,hk,_⟩:=zxv h0 (.inr rfl)
  refine ⟨c,by simp [FH.of,hk],hs,fun j v hv=>?_⟩
  have hj:=(List.getElem?_eq_some_iff.1 hv).1
  have:=hc j (by omega)
  rw [hv] at this
  obtain ⟨_,c',_,_,hk',h2⟩:=zxv this (.inl hs)
  rw [hk] at hk'
  cases hk'
  exact h2
theorem zzs {ad:Addr} {n:Nat} (hn:0 < n) {c:Array Value} (hs:ad.spot = none) (hc:FH.of w ad.block = some c):∀ (m i0:Nat) (css:List (List Value)),((List.range' i0 m).mapM fun i=>w.cells? base (ad.add (i * n)) n) = some css →
    ∀ (j:Nat) (v:Value),css.flatten[j]? = some v→c[ad.off + i0 * n + j]? = some v
  | 0,i0,css,h,j,v,hj=>by simp at h; subst h; simp at hj
  | m + 1,i0,css,h,j,v,hj=>by
    rw [List.range'_succ,List.mapM_cons] at h
    simp only [Option.bind_eq_bind,Option.bind_eq_some_iff,Option.pure_def,Option.some.injEq] at h
    obtain ⟨cs,h1,css',h2,rfl⟩:=h
    have hl:=(World.cells?_some h1).2.1
    obtain ⟨c',h3,_,h5⟩:=zxw h1 hn
    rw [zmD hs] at h3 h5
    simp only at h3 h5
    rw [hc] at h3
    cases h3
    rw [List.flatten_cons] at hj
    by_cases hjn:j < n
    · rw [List.getElem?_append_left (by omega)] at hj
      exact h5 j v hj
    · rw [List.getElem?_append_right (by omega),hl] at hj
      have:=zzs hn hs hc m (i0 + 1) css' h2 (j - n) v hj
      rw [show ad.off + i0 * n + j = ad.off + (i0 + 1) * n + (j - n) by rw [Nat.add_mul]; omega]
      exact this
theorem zrM {α:Type} {R:α→List Value→Prop} {f:Nat→Option (List Value)} {g:List Value→Option (DataW H × List MemPlace)} {I:α→Prop} {bk:α→Nat} {Wd:DataW H→Prop} {J:α→Prop} (hg:∀ cs y,g cs = some y→∃ x,R x cs ∧ I x ∧ bk x ≤ dbk y.1 ∧ (Wd y.1→J x)) :
    ∀ (l:List Nat) (ys:List (DataW H × List MemPlace)),(l.mapM fun i=>(f i).bind g) = some ys→∃ (xs:List α) (css:List (List Value)),xs.length = l.length ∧ l.mapM f = some css ∧ RepL R xs css.flatten ∧ (∀ x ∈ xs,I x) ∧ (xs.map bk).sum ≤ zcU (ys.map (·.1)) ∧ ((∀ d ∈ ys.map (·.1),Wd d)→∀ x ∈ xs,J x)
  | [],ys,h=>⟨[],[],rfl,rfl,rfl,by simp,Nat.zero_le _,fun _ x hx=>by cases hx⟩
  | i :: l,ys,h=>by
    rw [List.mapM_cons] at h
    simp only [Option.bind_eq_bind,Option.bind_eq_some_iff,Option.pure_def,Option.some.injEq] at h
    obtain ⟨y,⟨cs,hcs,hy⟩,ys',h2,rfl⟩:=h
    obtain ⟨x,hx,hI,hk,hJ⟩:=hg cs y hy
    obtain ⟨xs,css,h3,h4,h5,h6,h7,h8⟩:=zrM hg l ys' h2
    refine ⟨x :: xs,cs :: css,by simp [h3],?_,⟨cs,css.flatten,rfl,hx,h5⟩,?_,by simp only [List.map_cons,List.sum_cons,zcU]; omega,?_⟩
    · rw [List.mapM_cons,hcs,h4]; rfl
    · intro z hz
      rcases List.mem_cons.1 hz with rfl | hz
      · exact hI
      · exact h6 z hz
    · intro hw z hz
      rcases List.mem_cons.1 hz with rfl | hz
      · exact hJ (hw _ (by simp))
      · exact h8 (fun d hd=>hw d (by rw [List.map_cons]; exact List.mem_cons_of_mem _ hd)) z hz
theorem zlg {cs:List Value} {n:Nat}:∀ (m i0:Nat) (css:List (List Value)),(i0 + m) * n ≤ cs.length→((List.range' i0 m).mapM fun i=>some ((cs.drop (i * n)).take n)) = some css→css.flatten = (cs.drop (i0 * n)).take (m * n)
  | 0,i0,css,_,h=>by simp at h; subst h; simp
  | m + 1,i0,css,hl,h=>by
    rw [List.range'_succ,List.mapM_cons] at h
    simp only [Option.bind_eq_bind,Option.bind_some,Option.bind_eq_some_iff,Option.pure_def,Option.some.injEq] at h
    obtain ⟨css',h2,rfl⟩:=h
    have:=zlg m (i0 + 1) css' (by rw [show i0 + 1 + m = i0 + (m + 1) by omega]; exact hl) h2
    rw [List.flatten_cons,this,Nat.add_mul i0 1 n,Nat.one_mul,← List.drop_drop,show (m + 1) * n = n + m * n by rw [Nat.add_mul]; omega,List.take_add]
theorem zB0:∀ (τ:Ty),τ.data = true →
    (∀ (fuel:Nat) (t:TypeId) (cs:List Value) (x:DataW H × List MemPlace),τ.np = true→zO P t τ→DataW.trod enc P w base sp held fuel t cs = some x→∃ y,Rep P (FH.of w) τ y cs ∧ InR τ y ∧ bkI τ y ≤ dbk x.1 ∧ ((∀ n ∈ DataW.weights P t x.1,n ≤ reachBytes)→WtR τ y)) ∧
    (∀ (fuel:Nat) (fs:List Field) (off:Nat) (cs:List Value) (xs:List (DataW H × List MemPlace)),(tyB P τ).2 fs off = true→(fs.mapM fun f=>DataW.trod enc P w base sp held fuel f.type ((cs.drop f.offset).take (P.cellsOf f.type))) = some xs→cs.length = off + nc τ→∃ y,Rep P (FH.of w) τ y (cs.drop off) ∧ InR τ y ∧ bkI τ y ≤ zcU (xs.map (·.1)) ∧ ((∀ n ∈ DataW.weightsEach P (fs.map (·.type)) (xs.map (·.1)),n ≤ reachBytes)→WtR τ y)):=by
  intro τ
  induction τ with
  | unit =>
    intro _
    refine ⟨fun fuel t cs x _ h=>(by cases h),fun fuel fs off cs xs h _ hl=>⟨(),?_,trivial,Nat.zero_le _,fun _=>trivial⟩⟩
    show cs.drop off = []
    rw [List.drop_eq_nil_iff]
    simp only [nc] at hl
    omega
  | bool =>
    intro _
    refine ⟨fun fuel t cs x _ h hx=>?_,fun fuel fs off cs xs h=>(by cases h)⟩
    have hu:P.underlying t = some .bool:=by
      simp only [zO,tyB,Bool.and_eq_true] at h
      have:=h.2
      split at this
      · assumption
      · cases this
    cases fuel with
    | zero=>simp [DataW.trod] at hx
    | succ fuel =>
      unfold DataW.trod at hx
      rw [hu] at hx
      split at hx <;> first | (cases hx; done) | skip
      all_goals first | exact ⟨_,rfl,trivial,zqo _,fun _=>trivial⟩ | (rename_i hh; simp at hh)
  | int k =>
    intro _
    refine ⟨fun fuel t cs x _ h hx=>?_,fun fuel fs off cs xs h=>(by cases h)⟩
    have hu:P.underlying t = some (.int k):=by
      simp only [zO,tyB,Bool.and_eq_true] at h
      have:=h.2
      split at this
      · simp only [decide_eq_true_eq] at this; subst this; assumption
      · cases this
    cases fuel with
    | zero=>simp [DataW.trod] at hx
    | succ fuel =>
      unfold DataW.trod at hx
      rw [hu] at hx
      split at hx <;> first | (cases hx; done) | skip
      · rename_i hh; cases hh
      · rename_i k1 k2 n hh
        cases hh
        split at hx
        · rename_i hc; obtain ⟨rfl,hw⟩:=hc; exact ⟨n,rfl,hw,zqo _,fun _=>trivial⟩
        · cases hx
      all_goals (rename_i hh; simp at hh)
  | str =>
    intro _
    refine ⟨fun fuel t cs x _ h hx=>?_,fun fuel fs off cs xs h=>(by cases h)⟩
    have hu:P.underlying t = some .string:=by
      simp only [zO,tyB,Bool.and_eq_true] at h
      have:=h.2
      split at this
      · assumption
      · cases this
    cases fuel with
    | zero=>simp [DataW.trod] at hx
    | succ fuel =>
      unfold DataW.trod at hx
      rw [hu] at hx
      split at hx <;> first | (cases hx; done) | skip
      all_goals first
        | (rename_i hh; simp at hh; done)
        | (rename_i s hh; split at hx; · rename_i hc; cases hx; exact ⟨s,rfl,hc,zqo _,fun hw=>by have:=hw s.data.toList.length (by simp [DataW.weights]); exact this⟩
           · cases hx)
        | skip
  | pair a b iha ihb =>
    intro hd
    simp only [Ty.data,Bool.and_eq_true] at hd
    refine ⟨fun fuel t cs x _ h hx=>?_,fun fuel fs off cs xs h hx hl=>?_⟩
    · rename_i hnp; cases hnp
    · cases fs with
      | nil=>cases h
      | cons f fs =>
        simp only [tyB,Bool.and_eq_true] at h
        obtain ⟨⟨⟨⟨h1,h2⟩,h3⟩,_⟩,h4⟩:=h
        obtain rfl:=Nat.eq_of_beq_eq_true h1
        obtain ⟨i,hi,hsz⟩:=zO.size h2 (Ty.np_spec h3.2)
        rw [List.mapM_cons] at hx
        simp only [Option.bind_eq_bind,Option.bind_eq_some_iff,Option.pure_def,Option.some.injEq] at hx
        obtain ⟨x1,hx1,xs2,hx2,rfl⟩:=hx
        have hcells:P.cellsOf f.type = nc a:=by unfold Program.cellsOf; rw [hi]; exact hsz
        rw [hcells] at hx1
        obtain ⟨y1,g1,g2,b1,c1⟩:=(iha hd.1).1 fuel f.type _ x1 h3.2 h2 hx1
        simp only [nc] at hl
        obtain ⟨y2,g3,g4,b2,c2⟩:=(ihb hd.2).2 fuel fs (f.offset + nc a) cs xs2 h4 hx2 (by omega)
        refine ⟨(y1,y2),⟨_,_,?_,g1,g3⟩,⟨g2,g4⟩,by simp only [bkI,List.map_cons,zcU]; omega,fun hw=>?_⟩
        rotate_left
        · simp only [List.map_cons,DataW.weightsEach,List.mem_append] at hw
          exact ⟨c1 fun n hn=>hw n (.inl hn),c2 fun n hn=>hw n (.inr hn)⟩
        rw [← List.drop_drop,List.take_append_drop]
  | st a iha =>
    intro hd
    refine ⟨fun fuel t cs x _ h hx=>?_,fun fuel fs off cs xs h=>(by cases h)⟩
    obtain ⟨fs,hu,hf,_⟩:=zO.st h
    obtain ⟨i,hi,hsz⟩:=zO.size h (by intro a b e; cases e)
    have hcells:P.cellsOf t = nc a:=by unfold Program.cellsOf; rw [hi]; exact hsz
    cases fuel with
    | zero=>simp [DataW.trod] at hx
    | succ fuel =>
      unfold DataW.trod at hx
      rw [hu] at hx
      simp only at hx
      split at hx
      · rename_i hl
        simp only [Option.map_eq_some_iff] at hx
        obtain ⟨xs,hx,rfl⟩:=hx
        obtain ⟨y,g1,g2,b1,c1⟩:=(iha hd).2 fuel fs.toList 0 cs xs hf hx (by omega)
        refine ⟨y,g1,g2,by simp only [bkI,dbk]; omega,fun hw=>c1 ?_⟩
        simp only [DataW.weights,hu] at hw
        exact hw
      · cases hx
  | arr n a iha =>
    intro hd
    refine ⟨fun fuel t cs x _ h hx=>?_,fun fuel fs off cs xs h=>(by cases h)⟩
    obtain ⟨e,hu,he,hpos,hnp,_⟩:=zO.arr h
    obtain ⟨i,hi,hsz⟩:=zO.size h (by intro a b e; cases e)
    obtain ⟨ie,hie,hsze⟩:=zO.size he (Ty.np_spec hnp)
    have hcells:P.cellsOf t = n * nc a:=by unfold Program.cellsOf; rw [hi]; exact hsz
    have hcellse:P.cellsOf e = nc a:=by unfold Program.cellsOf; rw [hie]; exact hsze
    cases fuel with
    | zero=>simp [DataW.trod] at hx
    | succ fuel =>
      unfold DataW.trod at hx
      rw [hu] at hx
      simp only at hx
      split at hx
      · rename_i hl
        simp only [Option.map_eq_some_iff] at hx
        obtain ⟨xs,hx,rfl⟩:=hx
        rw [hcellse] at hx
        obtain ⟨ys,css,h1,h2,h3,h4,h5,h6⟩:=zrM (bk:=bkI a) (Wd:=fun d=>∀ n ∈ DataW.weights P e d,n ≤ reachBytes) (J:=WtR a) (f:=fun i=>some ((cs.drop (i * nc a)).take (nc a))) (g:=DataW.trod enc P w base sp held fuel e) (R:=Rep P (FH.of w) a) (I:=InR a) (fun cs y hy=>(iha hd).1 fuel e cs y hnp he hy) (List.range n) xs hx
        rw [List.range_eq_range'] at h2
        have:=zlg n 0 css (by rw [Nat.zero_add]; omega) h2
        rw [this] at h3
        simp only [Nat.zero_mul,List.drop_zero] at h3
        rw [List.take_of_length_le (by omega)] at h3
        refine ⟨ys,⟨by simpa using h1,h3⟩,⟨by simpa using h1,h4⟩,by simp only [bkI,dbk]; omega,fun hw=>h6 fun d hd n hn=>?_⟩
        simp only [DataW.weights,hu] at hw
        exact hw n (zrL hd hn)
      · cases hx
  | sl a iha =>
    intro hd
    refine ⟨fun fuel t cs x _ h hx=>?_,fun fuel fs off cs xs h=>(by cases h)⟩
    obtain ⟨e,hu,he,hpos,hnp⟩:=zO.sl h
    obtain ⟨ie,hie,hsze⟩:=zO.size he (Ty.np_spec hnp)
    have hcellse:P.cellsOf e = nc a:=by unfold Program.cellsOf; rw [hie]; exact hsze
    cases fuel with
    | zero=>simp [DataW.trod] at hx
    | succ fuel =>
      unfold DataW.trod at hx
      rw [hu] at hx
      split at hx <;> first | (cases hx; done) | skip
      all_goals first
        | (rename_i hh; cases hh; done)
        | exact ⟨[],⟨_,0,rfl,Nat.le_refl _,fun hne=>absurd rfl hne⟩,⟨Nat.zero_le _,fun x hx=>(by cases hx)⟩,zqo _,fun _=>⟨by simp,fun x hx=>(by cases hx)⟩⟩
        | skip
      rename_i e' ad len cap heq
      simp only [Option.some.injEq,TypeDesc.slice.injEq] at heq
      subst heq
      simp only at hx
      split at hx
      · rename_i hc
        simp only [Option.bind_eq_some_iff] at hx
        obtain ⟨elems,hx,hx2⟩:=hx
        rw [hcellse] at hx
        obtain ⟨ys,css,h1,h2,h3,h4,h5,h6⟩:=zrM (bk:=bkI a) (Wd:=fun d=>∀ n ∈ DataW.weights P e d,n ≤ reachBytes) (J:=WtR a) (f:=fun i=>w.cells? base (ad.add (i * nc a)) (nc a)) (g:=DataW.trod enc P w base sp held fuel e) (R:=Rep P (FH.of w) a) (I:=InR a) (fun cs y hy=>(iha hd).1 fuel e cs y hnp he hy) (List.range len) elems hx
        rw [List.length_range] at h1
        refine ⟨ys,⟨some ad,cap,by rw [h1],by rw [h1]; exact hc.2.1,fun hne=>?_⟩,⟨(show ys.length ≤ maxLen by omega),h4⟩,?_,fun hw=>?_⟩
        rotate_left
        · obtain ⟨rest,-,rfl⟩:=Option.map_eq_some_iff.1 hx2
          simp only [bkI,dbk]; omega
        · obtain ⟨rest,-,rfl⟩:=Option.map_eq_some_iff.1 hx2
          simp only [DataW.weights,hu,List.mem_cons,List.mem_append] at hw
          have hel:=zxu _ _ hx
          rw [List.length_range] at hel
          have hb:=he.bts (Ty.np_spec hnp)
          refine ⟨?_,h6 fun d hd n hn=>hw n (.inr (.inl (zrL hd hn)))⟩
          have h9:=hw _ (.inl rfl)
          rw [hb,List.length_map,hel] at h9
          refine Nat.le_trans (Nat.mul_le_mul_right _ ?_) h9
          rw [h1]; exact Nat.le_add_right _ _
        have hlen:0 < len:=by
          rw [← h1]
          exact List.length_pos_iff.2 hne
        rw [List.range_eq_range'] at h2
        obtain ⟨m,rfl⟩:∃ m,len = m + 1:=⟨len - 1,by omega⟩
        have h2':=h2
        rw [List.range'_succ,List.mapM_cons] at h2'
        simp only [Option.bind_eq_bind,Option.bind_eq_some_iff,Option.pure_def,Option.some.injEq] at h2'
        obtain ⟨cs0,g1,_⟩:=h2'
        rw [Nat.zero_mul,show ad.add 0 = ad from rfl] at g1
        obtain ⟨c,g2,g3,g4⟩:=zxw g1 hpos
        refine ⟨ad,css.flatten,rfl,⟨g3,c,g2,fun j v hv=>?_⟩,h3⟩
        have:=zzs hpos g3 g2 (m + 1) 0 css h2 j v hv
        simpa using this
      · cases hx
  | ptr a=>intro hd; cases hd
  | fn a b=>intro hd; cases hd
def tyL (P:Program):Ty→List TypeId→Bool
  | .unit,[]=>true
  | .pair a b,t :: ts=>(tyB P a).1 t && a.np && a.data && tyL P b ts
  | _,_=>false
theorem zq8:∀ {τ:Ty} {ts:List TypeId} {vs:List Value} {ds:List (DataW H)} {ps:List MemPlace},tyL P τ ts = true→DataW.TrodAll enc P w base sp held ts vs ds ps→(∀ (j:Nat) (t:TypeId) (v:Value),ts[j]? = some t→vs[j]? = some v→∃ W r b,Value.okWide P W r b t v) →
    ∃ x,RepA P (FH.of w) τ x vs ∧ InR τ x ∧ bkI τ x ≤ zcU ds ∧ ((∀ n ∈ DataW.weightsEach P ts ds,n ≤ reachBytes)→WtR τ x)
  | .unit,[],[],[],ps,_,_,_=>⟨(),rfl,trivial,Nat.zero_le _,fun _=>trivial⟩
  | .pair a b,t :: ts,v :: vs,d :: ds,ps,h,hr,hf=>by
    simp only [tyL,Bool.and_eq_true] at h
    obtain ⟨⟨⟨h1,h2⟩,h3⟩,h4⟩:=h
    obtain ⟨p,q,⟨fuel,h5⟩,h6,_⟩:=hr
    obtain ⟨y,g1,g2,b1,c1⟩:=(zB0 a h3).1 fuel t v.cells.toList (d,p) h2 h1 h5
    obtain ⟨x,g3,g4,b2,c2⟩:=zq8 h4 h6 fun j t v ht hv=>hf (j + 1) t v (by simpa using ht) (by simpa using hv)
    refine ⟨(y,x),⟨v,vs,rfl,g1,?_,g3⟩,⟨g2,g4⟩,by simp only [bkI,zcU]; exact Nat.add_le_add b1 b2,fun hw=>by
      simp only [DataW.weightsEach,List.mem_append] at hw
      exact ⟨c1 fun n hn=>hw n (.inl hn),c2 fun n hn=>hw n (.inr hn)⟩⟩
    obtain ⟨W,r,b0,hform⟩:=hf 0 t v rfl rfl
    obtain ⟨de,hu,hagg⟩:=zO.isAgg h1
    unfold Value.okWide at hform
    rw [hu] at hform
    rw [← hagg]
    have hno:∀ cs,v = .agg cs→Cell.okWide P W r b0 t v→(match de with | .struct _ | .array _ _=>true | _=>false) = false→False:=by
      rintro cs rfl hc hde
      unfold Cell.okWide at hc
      rw [hu] at hc
      cases de <;> simp [Cell.ok,hu] at hc hde
    cases de <;> simp only at hform hno ⊢
    case struct=>obtain ⟨cs,rfl,_⟩:=hform; rfl
    case array=>obtain ⟨cs,rfl,_⟩:=hform; rfl
    all_goals (cases v <;> first | rfl | exact (hno _ rfl hform trivial).elim)
  | .unit,[],[],_ :: _,_,_,h,_=>h.elim
  | .unit,[],_ :: _,_,_,_,h,_=>(by cases h)
  | .unit,_ :: _,_,_,_,h,_,_=>(by cases h)
  | .pair _ _,[],_,_,_,h,_,_=>(by cases h)
  | .pair _ _,_ :: _,[],_,_,_,h,_=>(by cases h)
  | .pair _ _,_ :: _,_ :: _,[],_,_,h,_=>(by cases h)
  | .bool,_,_,_,_,h,_,_=>(by cases h)
  | .int _,_,_,_,_,h,_,_=>(by cases h)
  | .str,_,_,_,_,h,_,_=>(by cases h)
  | .st _,_,_,_,_,h,_,_=>(by cases h)
  | .arr _ _,_,_,_,_,h,_,_=>(by cases h)
  | .sl _,_,_,_,_,h,_,_=>(by cases h)
  | .ptr _,_,_,_,_,h,_,_=>(by cases h)
  | .fn _ _,_,_,_,_,h,_,_=>(by cases h)
theorem zni {W W':World} (hl:laidOutB P = true) (hb:Below W.heap.size W W'):∀ {ts:List TypeId} {vs:List Value} {ds:List (DataW H)} {ps:List MemPlace},
    (∀ t ∈ ts,P.readableRec t = true ∧ t < P.types.size)→DataW.TrodAll enc P W 0 (fun _=>true) true ts vs ds ps→(∀ x ∈ ps,x.block < W.heap.size)→∀ s:Nat→Bool,(∀ p ∈ ps,s p.block = true)→DataW.TrodAll enc P W' 0 s true ts vs ds ps
  | [],[],[],ps,_,h,_,s,_=>h
  | t :: ts,v :: vs,d :: ds,ps,ht,⟨p,q,h1,h2,e⟩,hlt,s,hs=>by
    subst e
    have h0:=ht t (by simp)
    refine ⟨p,q,?_,zni hl hb (fun t' h'=>ht t' (by simp [h'])) h2 (fun x hx=>hlt x (by simp [hx])) s (fun x hx=>hs x (by simp [hx])),rfl⟩
    exact WideElems.Trod_stays hl h0.1 h0.2 h1 (fun x hx=>hb.same (hlt x (by simp [hx]))) (fun x hx=>hs x (by simp [hx]))
  | [],[],_ :: _,_,_,h,_,_,_=>h.elim
  | [],_ :: _,_,_,_,h,_,_,_=>h.elim
  | _ :: _,[],_,_,_,h,_,_,_=>h.elim
  | _ :: _,_ :: _,[],_,_,h,_,_,_=>h.elim
end
section
variable {P:Program} {H:Type} {enc:TypeId × Value→H}
theorem ztf {n:Nat}:∀ {ts us:List TypeId} {ds gs:List (DataW H)},n ∈ DataW.weightsEach P ts ds→n ∈ DataW.weightsEach P (ts ++ us) (ds ++ gs)
  | t :: ts,us,d :: ds,gs,h=>by
    simp only [List.cons_append,DataW.weightsEach,List.mem_append] at h ⊢
    exact h.imp id ztf
  | [],_,_,_,h=>by simp [DataW.weightsEach] at h
  | _ :: _,_,[],_,h=>by simp [DataW.weightsEach] at h
theorem zv0 {fi:FuncId} {f:Func} {a:Ty} {tb:TypeId} {spec:ChangeSpec} {W:World} {base:Nat} {args:Array Value} {ds gs:List (DataW H)} {before:List MemPlace}
    (hl:laidOutB P = true) (hts:∀ t ∈ f.params.toList,P.readableRec t = true ∧ t < P.types.size) (hty:tyL P a f.params.toList = true) (hres:f.resultTypes = #[tb]) (hbool:P.underlying tb = some .bool) (hvars:spec.vars = [])
    (hfn:∀ ds:List (DataW H),ds.length = f.params.size→spec.fn H ds = { results:=[.lit (.bool true)],args:=ds })
    (hval:∀ (j:Nat) t v,f.params[j]? = some t→args[j]? = some v→Value.okWide P W .any base t v)
    (hW:DataW.Whole enc P f.params.toList spec.vars false W args.toList ds gs before)
    (hcall:∀ x,InR a x→bkI a x ≤ zcU ds→((∀ n ∈ DataW.weightsEach P f.params.toList ds,n ≤ reachBytes)→WtR a x)→RepA P (FH.of W) a x args.toList→Calls P fi args W fun e W'=>e = .returned (.bool true) ∧ Below W.heap.size W W') :
    Calls P fi args W fun e W'=>∃ v,e = .returned v ∧ spec.post enc P f false true false false W args v W':=by
  have hW':=hW
  obtain ⟨p,q,hA,hV,rfl,hfz,hnd⟩:=hW
  rw [hvars] at hV
  obtain ⟨rfl,rfl⟩:=trodVars_none hV
  have hlt:∀ x ∈ p,x.block < W.heap.size:=fun x hx=>by simpa using hW'.lt x (by simp [hx])
  obtain ⟨x,hx,hin,hbk,hwt⟩:=zq8 (w:=W) hty hA fun j t v ht hv=>⟨W,.any,base,hval j t v (by rw [← Array.getElem?_toList]; exact ht) (by rw [← Array.getElem?_toList]; exact hv)⟩
  have hlen:∀ {ts:List TypeId} {vs:List Value} {ds:List (DataW H)} {ps:List MemPlace},DataW.TrodAll enc P W 0 (fun _=>true) true ts vs ds ps→ds.length = ts.length:=by
    intro ts
    induction ts with
    | nil=>intro vs ds ps h; cases vs <;> cases ds <;> first | rfl | exact h.elim
    | cons t ts ih=>intro vs ds ps h; cases vs <;> cases ds <;> first | exact h.elim | (obtain ⟨_,_,_,h2,_⟩:=h; simp [ih h2])
  have hfn':=hfn ds (by rw [hlen hA]; simp)
  refine (hcall x hin hbk hwt hx).mono fun e W' ⟨he,hb⟩=>?_
  subst he
  simp only [List.append_nil] at *
  refine ⟨_,rfl,ds,[],p,[],p,[],hW',?_,?_,?_,hb.frame _,fun h=>(by cases h)⟩
  · rw [List.append_nil,hfn',hres]
    exact trodAll_cons_mk (shut_bool hbool _) trodAll_mk0
  · rw [List.append_nil,hfn']
    exact zni hl hb hts hA hlt _ (fun x hx=>by simpa using hlt x hx)
  · rw [List.append_nil,hfn',hvars]
    rfl
end
end Go.Ev
end
section
namespace Go.Ev
open Go.RowKit
section
variable {P:Program} {G:FH} {E:Env}
theorem zkC.mk (hm:P.follows .mixedOrders = true) (hE:EnvOk P G E) {fi:FuncId} {f:Func} (hf:P.funcs[fi]? = some f) (hn:(f.name == "runtime.NumGoroutine") = false) (hb:f.body.isNone = false)
    {F:Fun} (h:∀ x y,F.spec x = some y→∃ K,evF E K f F.md F.a F.r x = some y):zkC P G fi F:=by
  refine ⟨⟨f,hf,hn,hb⟩,fun x y hy F0 w vs hG hk hr=>?_⟩
  obtain ⟨K,he⟩:=h x y hy
  exact zBe hm hE hf he hG hk hr
theorem EnvOk.nil {types:TT} {nt:Nat} {dp:Bool} (ht:types.all (fun k τ=>(tyB P τ).1 k) = true) {glob:List (Nat × AV)} (hg:∀ g v,look glob g = some v→∃ τ x cs,v = .dat (.ptr τ) (some x) ∧ At G ⟨g,0,none⟩ cs ∧ Rep P G τ x cs) {ext:List (Nat × Bool)} {jn:List Nat} (hx:∀ f add,look ext f = some add→ExtOk P f add):EnvOk P G ⟨types,[],glob,nt,dp,ext,jn,fun _=>none,false,false⟩ :=
  ⟨fun t τ h=>TT.all_look ht h,fun f F h=>by simp [look] at h,hg,hx,fun f H h=>by cases h⟩
theorem EnvOk.deep (hE:EnvOk P G E) (d:Bool):EnvOk P G { E with deep:=d }:=⟨hE.types,hE.funs,hE.glob,hE.ext,hE.hnd⟩
theorem EnvOk.cons (hE:EnvOk P G E) {fi:FuncId} {F:Fun} (h:zkC P G fi F):EnvOk P G { E with funs:=(fi,F) :: E.funs }:=by
  refine ⟨hE.types,fun f F' h'=>?_,hE.glob,hE.ext,hE.hnd⟩
  simp only [look] at h'
  cases hb:Nat.beq fi f with
  | true =>
    rw [hb] at h'
    simp only [cond_true,Option.some.injEq] at h'
    subst h'
    rw [← Nat.eq_of_beq_eq_true hb]
    exact h
  | false=>rw [hb] at h'; exact hE.funs f F' h'
end
end Go.Ev
end
section
namespace Go.Ev
theorem zB1 {n:Nat} (h:n ≤ Go.maxLen):IntKind.wrap .i64 (n:Int) = (n:Int):=by
  unfold Go.maxLen at h
  exact IntWalk.i64_in _ (by omega)
end Go.Ev
end
section
namespace Go.Ev
theorem zz8 {i len:Nat} (h:i < len) (hl:len ≤ Go.maxLen):IntKind.wrap .i64 ((i:Int) + 1) = (i:Int) + 1:=by
  rw [show (i:Int) + 1 = ((i + 1:Nat):Int) by omega]
  exact zB1 (by omega)
theorem zBf {α:Type} {l:List α} {i:Nat} (d:α) (h:i < l.length):l.drop i = l.getD i d :: l.drop (i + 1):=by
  rw [List.drop_eq_getElem_cons h]
  simp [List.getD,h]
theorem zB2 {σ ρ:Type} {L:Nat→Int→σ→Option ρ} {len:Nat} (hl:len ≤ Go.maxLen) (F:Nat→σ→Option ρ) (I:Nat→σ→Prop)
    (hstep:∀ n i s,i < len→I i s→(∀ s',I (i + 1) s'→L n ((i:Int) + 1) s' = F (i + 1) s')→L (n + 1) (i:Int) s = F i s)
    (hend:∀ n s,I len s→L (n + 1) (len:Int) s = F len s) :
    ∀ (k i n:Nat) (s:σ),i + k = len→k < n→I i s→L n (i:Int) s = F i s:=by
  intro k
  induction k with
  | zero =>
    intro i n s hi hn hI
    obtain ⟨m,rfl⟩:∃ m,n = m + 1:=⟨n - 1,by omega⟩
    obtain rfl:i = len:=by omega
    exact hend m s hI
  | succ k ih =>
    intro i n s hi hn hI
    obtain ⟨m,rfl⟩:∃ m,n = m + 1:=⟨n - 1,by omega⟩
    refine hstep m i s (by omega) hI fun s' hI'=>?_
    have:=ih (i + 1) m s' (by omega) (by omega) hI'
    rw [show (i:Int) + 1 = ((i + 1:Nat):Int) by omega]
    exact this
theorem zBg {σ ρ:Type} {L:Nat→Int→σ→Option ρ} {len:Nat} (hl:len ≤ Go.maxLen) (F:Nat→σ→Option ρ) (I:Nat→σ→Prop)
    (hstep:∀ n i s,i < len→I i s→(∀ s',I (i + 1) s'→L n ((i:Int) + 1) s' = F (i + 1) s')→L (n + 1) (i:Int) s = F i s)
    (hend:∀ n s,I len s→L (n + 1) (len:Int) s = F len s) (n:Nat) (hn:len < n) (s:σ) (h0:I 0 s):L n 0 s = F 0 s :=
  zB2 hl F I hstep hend len 0 n s (by omega) hn h0
end Go.Ev
end
section
namespace Go.Ev
abbrev Fnc (A R:Ty):Type:=A.I→Option R.I
def zl {σ ρ:Type} (B:(σ→Option ρ)→σ→Option ρ):Nat→σ→Option ρ
  | 0,_=>none
  | n + 1,s=>B (zl B n) s
noncomputable def evV {σ:Type} (E:Env) (K:Nat) (f:Func) (md:Nat) (R:Ty) (p ns:List Nat) (S:σ→St) (n:Nat):σ→Option R.I:=fun s=>evL E K f md R p ns n (S s)
theorem zxx {E:Env} {K:Nat} {f:Func} {md:Nat} {R:Ty} {p ns:List Nat} {st:St}:evL E K f md R p ns 0 st = none:=by
  unfold evL
  split
  · split <;> rfl
  · rfl
theorem zn {σ:Type} {E:Env} {K:Nat} {f:Func} {md:Nat} {R:Ty} {p ns:List Nat} {S:σ→St} {B:(σ→Option R.I)→σ→Option R.I}
    (h:∀ n s,evV E K f md R p ns S (n + 1) s = B (evV E K f md R p ns S n) s):∀ n,evV E K f md R p ns S n = zl B n
  | 0=>by funext s; exact zxx
  | n + 1=>by funext s; rw [h,zn h n]; rfl
theorem qk {σ τ:Type} {E:Env} {K:Nat} {f:Func} {md:Nat} {R:Ty} {p ns:List Nat} {S:σ→St} {B:(τ→Option R.I)→(σ→Option R.I)→σ→Option R.I} {V1:Nat→τ→Option R.I} {W1:(σ→Option R.I)→τ→Option R.I}
    (h1:∀ n,V1 n = W1 (evV E K f md R p ns S n)) (h:∀ n s,evV E K f md R p ns S (n + 1) s = B (V1 n) (evV E K f md R p ns S n) s):∀ n,evV E K f md R p ns S n = zl (fun k=>B (W1 k) k) n :=
  zn fun n s=>by rw [← h1]; exact h n s
theorem zvK {σ τ υ:Type} {E:Env} {K:Nat} {f:Func} {md:Nat} {R:Ty} {p ns:List Nat} {S:σ→St} {B:(τ→Option R.I)→(υ→Option R.I)→(σ→Option R.I)→σ→Option R.I} {V1:Nat→τ→Option R.I} {W1:(σ→Option R.I)→τ→Option R.I} {V2:Nat→υ→Option R.I} {W2:(σ→Option R.I)→υ→Option R.I}
    (h1:∀ n,V1 n = W1 (evV E K f md R p ns S n)) (h2:∀ n,V2 n = W2 (evV E K f md R p ns S n)) (h:∀ n s,evV E K f md R p ns S (n + 1) s = B (V1 n) (V2 n) (evV E K f md R p ns S n) s):∀ n,evV E K f md R p ns S n = zl (fun k=>B (W1 k) (W2 k) k) n :=
  zn fun n s=>by rw [← h1,← h2]; exact h n s
def zz9 {σ τ ρ:Type} (B0:(τ→Option ρ)→σ→Option ρ) (B1:(τ→Option ρ)→τ→Option ρ):Nat→σ→Option ρ
  | 0,_=>none
  | n + 1,s=>B0 (zl B1 n) s
theorem zBh {σ τ:Type} {E:Env} {K:Nat} {f:Func} {md:Nat} {R:Ty} {p ns:List Nat} {S0:σ→St} {S1:τ→St} {B0:(τ→Option R.I)→σ→Option R.I} {B1:(τ→Option R.I)→τ→Option R.I}
    (h1:∀ n,evV E K f md R p ns S1 n = zl B1 n) (h:∀ n s,evV E K f md R p ns S0 (n + 1) s = B0 (evV E K f md R p ns S1 n) s):∀ n,evV E K f md R p ns S0 n = zz9 B0 B1 n
  | 0=>by funext s; exact zxx
  | n + 1=>by funext s; rw [h,h1]; rfl
theorem tr1 {α X Y:Type} {T:α→X→Y} {V W:α} (h:V = W) {F:X→Y} (hx:∀ x,F x = T V x):F = T W:=by subst h; funext x; exact hx x
def En (E:Env) (d:Bool) (l:List Fun):Env:=⟨E.types,l.map fun F=>(F.id,F),E.glob,0,d,E.ext,[],fun _=>none,false,false⟩
def Ej (E:Env) (d:Bool) (js:List Nat) (l:List Fun):Env:=⟨E.types,l.map fun F=>(F.id,F),E.glob,0,d,E.ext,js,fun _=>none,false,js.any (Nat.beq 999999)⟩
def Sd (P:Program) (E:Env) (F:Fun):Prop:=∀ G,EnvOk P G E→zkC P G F.id F
def Sds (P:Program) (E:Env):List Fun→Prop
  | []=>True
  | F :: l=>Sd P E F ∧ Sds P E l
def qV (f:Func):Bool:=!(f.name == "runtime.NumGoroutine") && !f.body.isNone
theorem Sds.env {P:Program} {E:Env} {l:List Fun} {d:Bool} {G:FH} (h:Sds P E l) (hE:EnvOk P G E):EnvOk P G (En E d l):=by
  refine ⟨hE.types,?_,hE.glob,hE.ext,fun f H h=>by cases h⟩
  intro f F hf
  have key:∀ l:List Fun,Sds P E l→look (l.map fun F=>(F.id,F)) f = some F→zkC P G f F:=by
    intro l
    induction l with
    | nil=>intro _ h; cases h
    | cons F' l ih =>
      intro hs hl
      simp only [List.map_cons,look] at hl
      cases hb:Nat.beq F'.id f with
      | true =>
        rw [hb] at hl
        cases hl
        rw [← Nat.eq_of_beq_eq_true hb]
        exact hs.1 G hE
      | false=>rw [hb] at hl; exact ih hs.2 hl
  exact key l h hf
theorem Sds.envJ {P:Program} {E:Env} {l:List Fun} {d:Bool} {js:List Nat} {G:FH} (h:Sds P E l) (hE:EnvOk P G E):EnvOk P G (Ej E d js l) :=
  have h':=h.env (d:=d) hE
  ⟨h'.types,h'.funs,h'.glob,h'.ext,fun f H h=>by cases h⟩
theorem Sd.mkJ {P:Program} {E:Env} {l:List Fun} {d:Bool} {js:List Nat} {F:Fun} {f:Func} {K:Nat} (hm:P.follows .mixedOrders = true) (hl:Sds P E l) (hf:P.funcs[F.id]? = some f) (ho:qV f = true)
    (h:evF (Ej E d js l) K f F.md F.a F.r = F.spec):Sd P E F:=by
  intro G hE
  unfold qV at ho
  simp only [Bool.and_eq_true,Bool.not_eq_true'] at ho
  exact zkC.mk hm (hl.envJ hE) hf ho.1 ho.2 fun x y hy=>⟨K,by rw [h]; exact hy⟩
theorem Sd.mk {P:Program} {E:Env} {l:List Fun} {d:Bool} {F:Fun} {f:Func} {K:Nat} (hm:P.follows .mixedOrders = true) (hl:Sds P E l) (hf:P.funcs[F.id]? = some f) (ho:qV f = true)
    (h:evF (En E d l) K f F.md F.a F.r = F.spec):Sd P E F:=by
  intro G hE
  unfold qV at ho
  simp only [Bool.and_eq_true,Bool.not_eq_true'] at ho
  exact zkC.mk hm (hl.env hE) hf ho.1 ho.2 fun x y hy=>⟨K,by rw [h]; exact hy⟩
def FOk (P:Program):List (Nat × Func)→Prop
  | []=>True
  | p :: l=>(P.funcs[p.1]? = some p.2 ∧ qV p.2 = true) ∧ FOk P l
theorem FOk.look {P:Program}:∀ {l:List (Nat × Func)} {i:Nat} {f:Func},FOk P l→look l i = some f→P.funcs[i]? = some f ∧ qV f = true
  | (j,g) :: l,i,f,h,hl=>by
    simp only [Go.Ev.look] at hl
    cases hb:Nat.beq j i with
    | true=>rw [hb] at hl; cases hl; rw [← Nat.eq_of_beq_eq_true hb]; exact h.1
    | false=>rw [hb] at hl; exact FOk.look h.2 hl
theorem EnvOk.inl {P:Program} {G:FH} {E:Env} (hm:P.follows .mixedOrders = true) (hE:EnvOk P G E) {fs:List (Nat × Func)} (hfs:FOk P fs):∀ d,EnvOk P G (E.inl fs d)
  | 0=>hE
  | d + 1=>⟨hE.types,hE.funs,hE.glob,hE.ext,fun i H h=>by
    obtain ⟨fn,h1,rfl⟩:=Option.map_eq_some_iff.1 h
    obtain ⟨h2,h3⟩:=hfs.look h1
    unfold qV at h3
    simp only [Bool.and_eq_true,Bool.not_eq_true'] at h3
    exact zCP hm (EnvOk.inl hm hE hfs d) h2 h3.1 h3.2⟩
@[reducible] def ch:List Ty→Ty
  | []=>.unit
  | a :: l=>.pair a (ch l)
abbrev u0 {a0 a1:Type} (x:a0 × a1) (v:a0):a0 × a1:=(v,x.2)
abbrev u1 {a0 a1 a2:Type} (x:a0 × a1 × a2) (v:a1):a0 × a1 × a2:=(x.1,v,x.2.2)
abbrev u2 {a0 a1 a2 a3:Type} (x:a0 × a1 × a2 × a3) (v:a2):a0 × a1 × a2 × a3:=(x.1,x.2.1,v,x.2.2.2)
abbrev u3 {a0 a1 a2 a3 a4:Type} (x:a0 × a1 × a2 × a3 × a4) (v:a3):a0 × a1 × a2 × a3 × a4:=(x.1,x.2.1,x.2.2.1,v,x.2.2.2.2)
abbrev u4 {a0 a1 a2 a3 a4 a5:Type} (x:a0 × a1 × a2 × a3 × a4 × a5) (v:a4):a0 × a1 × a2 × a3 × a4 × a5:=(x.1,x.2.1,x.2.2.1,x.2.2.2.1,v,x.2.2.2.2.2)
abbrev u5 {a0 a1 a2 a3 a4 a5 a6:Type} (x:a0 × a1 × a2 × a3 × a4 × a5 × a6) (v:a5):a0 × a1 × a2 × a3 × a4 × a5 × a6:=(x.1,x.2.1,x.2.2.1,x.2.2.2.1,x.2.2.2.2.1,v,x.2.2.2.2.2.2)
abbrev u6 {a0 a1 a2 a3 a4 a5 a6 a7:Type} (x:a0 × a1 × a2 × a3 × a4 × a5 × a6 × a7) (v:a6):a0 × a1 × a2 × a3 × a4 × a5 × a6 × a7:=(x.1,x.2.1,x.2.2.1,x.2.2.2.1,x.2.2.2.2.1,x.2.2.2.2.2.1,v,x.2.2.2.2.2.2.2)
abbrev u7 {a0 a1 a2 a3 a4 a5 a6 a7 a8:Type} (x:a0 × a1 × a2 × a3 × a4 × a5 × a6 × a7 × a8) (v:a7):a0 × a1 × a2 × a3 × a4 × a5 × a6 × a7 × a8:=(x.1,x.2.1,x.2.2.1,x.2.2.2.1,x.2.2.2.2.1,x.2.2.2.2.2.1,x.2.2.2.2.2.2.1,v,x.2.2.2.2.2.2.2.2)
abbrev u9 {a0 a1 a2 a3 a4 a5 a6 a7 a8 a9 a10:Type} (x:a0 × a1 × a2 × a3 × a4 × a5 × a6 × a7 × a8 × a9 × a10) (v:a9):a0 × a1 × a2 × a3 × a4 × a5 × a6 × a7 × a8 × a9 × a10:=(x.1,x.2.1,x.2.2.1,x.2.2.2.1,x.2.2.2.2.1,x.2.2.2.2.2.1,x.2.2.2.2.2.2.1,x.2.2.2.2.2.2.2.1,x.2.2.2.2.2.2.2.2.1,v,x.2.2.2.2.2.2.2.2.2.2)
def inR {ρ:Type} (i n:Int) (x:Option ρ):Option ρ:=cond (decide (0 ≤ i)) (cond (decide (i < n)) x none) none
theorem zBi {ρ:Type} {i n:Int} {x:Option ρ} (h0:0 ≤ i) (h1:i < n):inR i n x = x:=by unfold inR; rw [decide_eq_true h0,decide_eq_true h1]; rfl
abbrev ix {α:Type} (d:α) (l:List α) (i:Int):α:=List.getD l (Int.toNat i) d
def K0:Nat:=Go.maxLen + 2
theorem zD1 {n:Nat} (h:n ≤ Go.maxLen):n < K0:=by unfold K0; omega
abbrev tI:Ty:=.int .i64
abbrev tU:Ty:=.int .u64
abbrev wI (n:Int):Int:=IntKind.wrap .i64 n
abbrev wU (n:Int):Int:=IntKind.wrap .u64 n
end Go.Ev
end
section
namespace Go.Ev
theorem j4 {σ α ρ:Type} {B:(σ→Option ρ)→σ→Option ρ} {len:Nat} (hl:len ≤ Go.maxLen) (st:Int→α→σ) (F:Nat→α→Option ρ) (I:Nat→α→Prop)
    (hstep:∀ k (i:Nat) s,i < len→I i s→(∀ s',I (i + 1) s'→k (st (wI (i + 1)) s') = F (i + 1) s')→B k (st i s) = F i s)
    (hend:∀ k s,I len s→B k (st len s) = F len s) (s:α) (h0:I 0 s):zl B K0 (st 0 s) = F 0 s:=by
  refine zBg (L:=fun n i s=>zl B n (st i s)) hl F I (fun n i s hi hI h=>?_) (fun n s hI=>hend _ s hI) K0 (zD1 hl) s h0
  refine hstep _ i s hi hI fun s' hI'=>?_
  rw [wI,zz8 hi hl]
  exact h s' hI'
theorem yc {α:Type} {l:List α} {i:Nat} {d:α} (h:i < l.length):l.getD i d ∈ l:=by
  rw [List.getD_eq_getElem?_getD,List.getElem?_eq_getElem h]
  exact List.getElem_mem h
theorem zwJ (p:Bool):some (p,()) = bif p then some (true,()) else some (false,()):=by cases p <;> rfl
theorem zrN {σ α ρ:Type} {B:(σ→Option ρ)→σ→Option ρ} {l:List α} (d:α) {p:α→Bool} {fin bad:Option ρ} (st:Int→σ) (hl:l.length ≤ Go.maxLen)
    (hin:∀ k (i:Nat) x,i < l.length→l.getD i d = x→x ∈ l→B k (st i) = bif p x then k (st (wI (i + 1))) else bad) (hout:∀ k,B k (st l.length) = fin):zl B K0 (st 0) = bif l.all p then fin else bad:=by
  have:=j4 (α:=Unit) (B:=B) hl (fun i _=>st i) (fun i _=>bif (l.drop i).all p then fin else bad) (fun _ _=>True) (fun k i s hi _ h=>?_) (fun k s _=>?_) () trivial
  · simpa using this
  · rw [hin k i _ hi rfl (yc hi),h () trivial,zBf d hi,List.all_cons]
    cases p (l.getD i d) <;> rfl
  · rw [hout,List.drop_of_length_le (Nat.le_refl _)]; rfl
def zeg (p:Nat→Bool) (i:Nat):Nat→Bool
  | 0=>true
  | n + 1=>p i && zeg p (i + 1) n
section
variable {τ:Ty} {l:List τ.I} {g:τ.I × Unit→Option (Bool × Unit)} {p:τ.I→Bool}
theorem zV {ρ:Type} {i n:Nat} {x:Option ρ} (h:i < n):inR (i:Int) (n:Int) x = x:=zBi (by omega) (by omega)
theorem ltT {i n:Nat} (h:i < n):decide ((i:Int) < (n:Int)) = true:=decide_eq_true (by omega)
theorem ltF (n:Nat):decide ((n:Int) < (n:Int)) = false:=decide_eq_false (by omega)
theorem qO {α:Type} {d:α} {l:List α} {i:Nat}:ix d l (i:Int) = l.getD i d:=by rw [ix,Int.toNat_natCast]
def eqL (τ:Ty) (a b:List τ.I):Bool:=decide (a.length = b.length) && (List.zip a b).all fun q=>eqI τ q.1 q.2
theorem zCr (a b:Nat):((a:Int) != (b:Int)) = !decide (a = b):=by
  by_cases h:a = b
  · subst h; simp
  · have:(a:Int) ≠ (b:Int):=by omega
    simp [h,this]
theorem zhS {α β:Type} {d:α} {e:β}:∀ (a:List α) (b:List β) (i:Nat),i < a.length→i < b.length→(List.zip a b).getD i (d,e) = (a.getD i d,b.getD i e)
  | x :: a,y :: b,0,_,_=>rfl
  | x :: a,y :: b,i + 1,h1,h2=>zhS a b i (by simpa using h1) (by simpa using h2)
  | [],_,_,h,_=>by simp at h
  | _ :: _,[],_,_,h=>by simp at h
theorem yq {B:((List τ.I × List τ.I × Int × Int)→Option (Bool × Unit))→(List τ.I × List τ.I × Int × Int)→Option (Bool × Unit)}
    (hB:∀ k a b n i,B k (a,b,n,i) = bif decide (i < n) then inR i (List.length a:Int) (inR i (List.length b:Int) (bif !eqI τ (ix (zb τ) a i) (ix (zb τ) b i) then some (false,()) else k (a,b,n,wI (i + 1)))) else some (true,()))
    {a b:List τ.I} (hl:a.length ≤ Go.maxLen):(bif ((List.length a:Int) != (List.length b:Int)) then some (false,()) else zl B K0 (a,b,(a.length:Int),0)) = some (eqL τ a b,()):=by
  rw [zCr]
  unfold eqL
  by_cases h:a.length = b.length
  · rw [decide_eq_true h]
    simp only [Bool.not_true,cond_false,Bool.true_and]
    have hz:(List.zip a b).length = a.length:=by rw [List.length_zip]; omega
    have hx:∀ i,i < a.length→(List.zip a b).getD i (zb τ,zb τ) = (a.getD i (zb τ),b.getD i (zb τ)):=fun i hi=>zhS a b i hi (by omega)
    have:=zrN (B:=B) (l:=List.zip a b) (zb τ,zb τ) (p:=fun q=>eqI τ q.1 q.2) (fin:=some (true,())) (bad:=some (false,())) (fun i=>(a,b,(a.length:Int),i)) (by rw [hz]; exact hl) (fun k i x hi hx' _=>?_) (fun k=>?_)
    · rw [this]
      cases (List.zip a b).all fun q=>eqI τ q.1 q.2 <;> rfl
    · rw [hz] at hi
      rw [hx i hi] at hx'
      subst hx'
      rw [hB,ltT hi,zV hi,zV (by omega),qO,qO]
      simp only [cond_true]
      cases eqI τ (a.getD i (zb τ)) (b.getD i (zb τ)) <;> rfl
    · rw [hB,hz,ltF]; rfl
  · rw [decide_eq_false h]; rfl
theorem j7 {x:Option (List τ.I × Unit)} (h:l.length * τ.bts ≤ zwP) (hx:x = bif jk true τ (List.length (List.replicate 0 (zb τ)) + List.length l) then some (List.replicate 0 (zb τ) ++ l,()) else none) :
    (bif List.isEmpty l then zbC (some ([],())) x else x) = some (l,()):=by
  have e0:jk true τ (List.length (List.replicate 0 (zb τ)) + List.length l) = true:=by
    show decide ((0 + List.length l) * τ.bts ≤ zwP) = true
    rw [Nat.zero_add]
    exact decide_eq_true h
  have e:x = some (l,()):=by rw [hx,e0]; rfl
  rw [e]
  cases l with
  | nil=>exact zA2 _
  | cons y l=>rfl
end
end Go.Ev
end
section
namespace Go.Proofs.YtlklokhlgcfcdaaGreatDoor
open Go.Ev
abbrev zJ:Ty:=.st (.pair .bool (.pair .str .unit))
abbrev qr:Type:=(Bool × (ByteArray × Unit))
abbrev zeh:qr:=zb zJ
abbrev zI:Ty:=.st (.pair (.int .i64) (.pair (.int .i64) .unit))
abbrev zcA:Type:=(Int × (Int × Unit))
abbrev zB3:zcA:=zb zI
abbrev zC:Ty:=.st (.pair .bool (.pair zI (.pair zI (.pair (.int .i64) .unit))))
abbrev z1:Type:=(Bool × (zcA × (zcA × (Int × Unit))))
abbrev zbP:z1:=zb zC
abbrev zA:Ty:=.st (.pair .bool (.pair .str (.pair (.int .i64) (.pair (.int .i64) (.pair zI .unit)))))
abbrev z5:Type:=(Bool × (ByteArray × (Int × (Int × (zcA × Unit)))))
abbrev zcl:z5:=zb zA
abbrev zF:Ty:=.st (.pair .bool (.pair (.int .i64) (.pair (.int .i64) (.pair (.int .i64) (.pair .str .unit)))))
abbrev qc:Type:=(Bool × (Int × (Int × (Int × (ByteArray × Unit)))))
abbrev zqp:qc:=zb zF
abbrev zei:Ty:=.st (.pair (.int .i64) (.pair (.int .u64) (.pair (.int .i64) .unit)))
abbrev zqq:Type:=(Int × (Int × (Int × Unit)))
abbrev zp:Ty:=.st (.pair .bool (.pair (.int .i64) (.pair (.int .i64) (.pair zei (.pair zei .unit)))))
abbrev zL:Type:=(Bool × (Int × (Int × (zqq × (zqq × Unit)))))
abbrev zb0:zL:=zb zp
abbrev zf:Ty:=.st (.pair .bool (.pair (.int .i64) (.pair (.int .i64) (.pair (.int .i64) (.pair (.int .i64) (.pair (.int .i64) (.pair (.int .u64) (.pair (.int .u64) (.pair (.int .u64) (.pair (.int .i64) .unit))))))))))
abbrev zo:Type:=(Bool × (Int × (Int × (Int × (Int × (Int × (Int × (Int × (Int × (Int × Unit))))))))))
abbrev qj:zo:=zb zf
abbrev zi:Ty:=.st (.pair (.int .u64) (.pair (.int .i64) (.pair (.int .i64) (.pair (.int .i64) (.pair (.int .i64) (.pair (.int .i64) (.pair (.int .i64) (.pair (.int .u64) (.pair (.int .u64) (.pair (.int .i64) .unit))))))))))
abbrev zr:Type:=(Int × (Int × (Int × (Int × (Int × (Int × (Int × (Int × (Int × (Int × Unit))))))))))
abbrev zaP:zr:=zb zi
abbrev tMe:Ty:=.st (.pair (.int .i64) (.pair (.int .i64) (.pair (.int .i64) .unit)))
abbrev pMe:Type:=(Int × (Int × (Int × Unit)))
abbrev zcC:Ty:=.st (.pair (.int .i64) (.pair (.int .i64) (.pair (.int .i64) (.pair (.int .i64) (.pair (.int .u64) .unit)))))
abbrev qn:Ty:=.st (.pair .str (.pair .str (.pair (.int .i64) (.pair .bool .unit))))
abbrev jM:Type:=(ByteArray × (ByteArray × (Int × (Bool × Unit))))
abbrev zmV:jM:=zb qn
abbrev zbw:Ty:=.st (.pair (.int .i64) (.pair (.int .i64) (.pair (.int .i64) (.pair (.int .i64) (.pair (.int .i64) (.pair (.int .u64) .unit))))))
abbrev zcV:Type:=(Int × (Int × (Int × (Int × (Int × (Int × Unit))))))
abbrev zad:zcV:=zb zbw
abbrev zG:Ty:=.st (.pair (.int .i64) (.pair (.int .u64) .unit))
abbrev zZ:Type:=(Int × (Int × Unit))
abbrev zcW:zZ:=zb zG
abbrev qS:Ty:=.st (.pair (.int .i64) (.pair (.int .i64) .unit))
abbrev z4:Type:=(Int × (Int × Unit))
abbrev zae:z4:=zb qS
abbrev jN:Ty:=.st (.pair (.sl zp) (.pair (.fn (.pair zp .unit) (.pair .bool .unit)) .unit))
abbrev zaf:Type:=((List zL) × ((Option ((zL × Unit)→Option (Bool × Unit))) × Unit))
abbrev zqr:Ty:=.st (.pair (.int .i64) (.pair (.int .i64) (.pair zI .unit)))
abbrev zzt:Type:=(Int × (Int × (zcA × Unit)))
abbrev vL:Ty:=.st (.pair (.sl zf) (.pair (.fn (.pair zf .unit) (.pair .bool .unit)) .unit))
abbrev zbj:Type:=((List zo) × ((Option ((zo × Unit)→Option (Bool × Unit))) × Unit))
abbrev zg6:Ty:=.st (.pair (.int .u8) (.pair (.int .u8) .unit))
abbrev ze:Ty:=.st (.pair (.sl zJ) (.pair (.sl zC) (.pair (.sl zA) (.pair (.sl zF) (.pair (.sl zp) (.pair (.sl (.arr 4 (.int .u64))) (.pair (.sl zI) (.pair (.arr 4 (.int .u64)) (.pair (.arr 4 (.int .u64)) .unit)))))))))
abbrev zh:Type:=((List qr) × ((List z1) × ((List z5) × ((List qc) × ((List zL) × ((List (List Int)) × ((List zcA) × ((List Int) × ((List Int) × Unit)))))))))
abbrev za:zh:=zb ze
abbrev zB:Ty:=.st (.pair (.sl zG) (.pair (.sl (.int .i64)) (.pair (.sl qn) (.pair (.sl qS) (.pair (.sl zbw) (.pair (.int .i64) (.pair (.int .i64) (.pair (.int .i64) (.pair (.int .i64) .unit)))))))))
abbrev zw:Type:=((List zZ) × ((List Int) × ((List jM) × ((List z4) × ((List zcV) × (Int × (Int × (Int × (Int × Unit)))))))))
abbrev zt:Ty:=.st (.pair (.int .u64) (.pair (.sl ze) (.pair (.sl (.sl (.int .i64))) (.pair (.sl zf) (.pair (.sl zi) (.pair (.sl (.int .i64)) .unit))))))
abbrev zm:Type:=(Int × ((List zh) × ((List (List Int)) × ((List zo) × ((List zr) × ((List Int) × Unit))))))
abbrev zW:Ty:=.st (.pair zB (.pair zt .unit))
abbrev qg:Type:=(zw × (zm × Unit))
abbrev zcX:Ty:=.st (.pair (.fn (.pair (.ptr zt) .unit) (.pair (.int .i64) .unit)) .unit)
def types:TT:=(.node (.node (.node (.node (.node (.node (.node (.node (.node .nil 1 (.fn .unit .unit) .nil) 2 (.int .i64) .nil) 3 (.int .i64) (.node .nil 4 .bool .nil)) 5 (.int .u8) (.node (.node .nil 6 (.int .u8) .nil) 7 (.st (.pair (.int .i64) (.pair (.int .i64) (.pair .bool (.pair (.int .u8) .unit))))) (.node .nil 8 (.st (.pair (.int .i64) (.pair (.int .i64) (.pair .bool (.pair (.int .u8) .unit))))) .nil))) 9 .str (.node (.node (.node (.node .nil 10 .str .nil) 11 .str .nil) 12 (.int .u64) (.node .nil 21 (.int .i32) .nil)) 22 (.int .u64) (.node (.node .nil 23 (.sl ze) .nil) 24 (.sl (.sl (.int .i64))) (.node .nil 25 (.sl zf) .nil)))) 26 (.sl zi) (.node (.node (.node (.node (.node .nil 27 (.sl (.int .i64)) .nil) 28 (.st (.pair (.int .u64) (.pair (.sl ze) (.pair (.sl (.sl (.int .i64))) (.pair (.sl zf) (.pair (.sl zi) (.pair (.sl (.int .i64)) .unit))))))) .nil) 29 zt (.node .nil 30 (.fn (.pair zt .unit) (.pair zt .unit)) .nil)) 31 (.fn (.pair zt (.pair zt .unit)) (.pair .bool .unit)) (.node (.node .nil 32 (.sl zJ) .nil) 33 (.sl zC) (.node .nil 34 (.sl zA) .nil))) 35 (.sl zF) (.node (.node (.node (.node .nil 36 (.sl zp) .nil) 37 (.sl (.arr 4 (.int .u64))) .nil) 38 (.sl zI) (.node .nil 39 (.arr 4 (.int .u64)) .nil)) 40 (.st (.pair (.sl zJ) (.pair (.sl zC) (.pair (.sl zA) (.pair (.sl zF) (.pair (.sl zp) (.pair (.sl (.arr 4 (.int .u64))) (.pair (.sl zI) (.pair (.arr 4 (.int .u64)) (.pair (.arr 4 (.int .u64)) .unit)))))))))) (.node (.node .nil 41 ze .nil) 42 (.st (.pair .bool (.pair .str .unit))) (.node .nil 43 zJ .nil))))) 44 (.st (.pair (.int .i64) (.pair (.int .i64) .unit))) (.node (.node (.node (.node (.node (.node .nil 45 zI .nil) 46 (.st (.pair .bool (.pair zI (.pair zI (.pair (.int .i64) .unit))))) .nil) 47 zC (.node .nil 48 (.st (.pair .bool (.pair .str (.pair (.int .i64) (.pair (.int .i64) (.pair zI .unit)))))) .nil)) 49 zA (.node (.node .nil 50 (.st (.pair .bool (.pair (.int .i64) (.pair (.int .i64) (.pair (.int .i64) (.pair .str .unit)))))) .nil) 51 zF (.node .nil 52 (.st (.pair (.int .i64) (.pair (.int .u64) (.pair (.int .i64) .unit)))) .nil))) 53 zei (.node (.node (.node (.node .nil 54 (.st (.pair .bool (.pair (.int .i64) (.pair (.int .i64) (.pair zei (.pair zei .unit)))))) .nil) 55 zp .nil) 56 (.st (.pair .bool (.pair (.int .i64) (.pair (.int .i64) (.pair (.int .i64) (.pair (.int .i64) (.pair (.int .i64) (.pair (.int .u64) (.pair (.int .u64) (.pair (.int .u64) (.pair (.int .i64) .unit))))))))))) (.node .nil 57 zf .nil)) 58 (.st (.pair (.int .u64) (.pair (.int .i64) (.pair (.int .i64) (.pair (.int .i64) (.pair (.int .i64) (.pair (.int .i64) (.pair (.int .i64) (.pair (.int .u64) (.pair (.int .u64) (.pair (.int .i64) .unit))))))))))) (.node (.node .nil 59 zi .nil) 60 (.fn .unit (.pair .bool .unit)) (.node .nil 61 (.sl zG) .nil)))) 62 (.sl qn) (.node (.node (.node (.node (.node .nil 63 (.sl qS) .nil) 64 (.sl zbw) .nil) 65 (.st (.pair (.sl zG) (.pair (.sl (.int .i64)) (.pair (.sl qn) (.pair (.sl qS) (.pair (.sl zbw) (.pair (.int .i64) (.pair (.int .i64) (.pair (.int .i64) (.pair (.int .i64) .unit)))))))))) (.node .nil 66 zB .nil)) 67 (.st (.pair (.int .i64) (.pair (.int .i64) (.pair (.int .i64) .unit)))) (.node (.node .nil 68 tMe .nil) 69 (.st (.pair (.int .i64) (.pair (.int .i64) (.pair (.int .i64) (.pair (.int .i64) (.pair (.int .u64) .unit)))))) (.node .nil 70 zcC .nil))) 71 (.int .i64) (.node (.node (.node (.node .nil 73 (.fn (.pair zB (.pair zt (.pair tMe (.pair zcC .unit)))) (.pair zt (.pair (.int .i64) .unit))) .nil) 74 (.fn (.pair zB (.pair zt (.pair tMe (.pair (.int .i64) (.pair (.int .i64) (.pair (.int .i64) (.pair (.int .i64) (.pair (.int .u64) .unit)))))))) (.pair zt (.pair (.int .i64) .unit))) .nil) 76 (.fn (.pair zB (.pair zt (.pair tMe .unit))) (.pair (.arr 4 (.int .u64)) (.pair (.int .i64) .unit))) (.node .nil 77 (.fn (.pair zB (.pair zt (.pair tMe .unit))) (.pair .bool .unit)) .nil)) 78 (.fn (.pair zB (.pair zt (.pair tMe (.pair zcC .unit)))) (.pair .bool .unit)) (.node (.node .nil 79 (.fn (.pair (.sl zf) .unit) (.pair (.sl zf) .unit)) .nil) 80 (.fn (.pair (.sl zi) .unit) (.pair (.sl zi) .unit)) (.node .nil 81 (.fn (.pair (.sl (.int .i64)) .unit) (.pair (.sl (.int .i64)) .unit)) .nil)))))) 82 (.fn (.pair (.sl (.sl (.int .i64))) .unit) (.pair (.sl (.sl (.int .i64))) .unit)) (.node (.node (.node (.node (.node (.node (.node .nil 83 (.fn (.pair (.sl ze) .unit) (.pair (.sl ze) .unit)) .nil) 84 (.fn (.pair (.sl zJ) .unit) (.pair (.sl zJ) .unit)) .nil) 85 (.fn (.pair (.sl zC) .unit) (.pair (.sl zC) .unit)) (.node .nil 86 (.fn (.pair (.sl zA) .unit) (.pair (.sl zA) .unit)) .nil)) 87 (.fn (.pair (.sl zF) .unit) (.pair (.sl zF) .unit)) (.node (.node .nil 88 (.fn (.pair (.sl zp) .unit) (.pair (.sl zp) .unit)) .nil) 89 (.fn (.pair (.sl (.arr 4 (.int .u64))) .unit) (.pair (.sl (.arr 4 (.int .u64))) .unit)) (.node .nil 90 (.fn (.pair (.sl zI) .unit) (.pair (.sl zI) .unit)) .nil))) 91 (.fn (.pair (.sl (.sl (.int .i64))) (.pair (.sl (.sl (.int .i64))) .unit)) (.pair .bool .unit)) (.node (.node (.node (.node .nil 92 (.fn (.pair (.sl zf) (.pair (.sl zf) .unit)) (.pair .bool .unit)) .nil) 93 (.fn (.pair (.sl zi) (.pair (.sl zi) .unit)) (.pair .bool .unit)) .nil) 94 (.fn (.pair ze (.pair ze .unit)) (.pair .bool .unit)) (.node .nil 95 (.fn (.pair (.sl ze) (.pair (.sl ze) (.pair (.fn (.pair ze (.pair ze .unit)) (.pair .bool .unit)) .unit))) (.pair .bool .unit)) .nil)) 96 (.fn (.pair (.sl (.sl (.int .i64))) (.pair (.sl (.sl (.int .i64))) (.pair (.fn (.pair (.sl (.int .i64)) (.pair (.sl (.int .i64)) .unit)) (.pair .bool .unit)) .unit))) (.pair .bool .unit)) (.node (.node .nil 97 (.fn (.pair (.sl (.int .i64)) (.pair (.sl (.int .i64)) .unit)) (.pair .bool .unit)) .nil) 98 (.fn .unit (.pair zB .unit)) (.node .nil 99 (.fn (.pair zB .unit) (.pair zt (.pair (.int .i64) .unit))) .nil)))) 100 (.fn (.pair zB (.pair zt .unit)) (.pair .bool .unit)) (.node (.node (.node (.node (.node .nil 101 (.fn (.pair zB (.pair zt (.pair zI .unit))) (.pair .bool .unit)) .nil) 103 (.fn (.pair zt (.pair (.int .i64) .unit)) (.pair (.int .u64) (.pair (.int .i64) .unit))) .nil) 105 (.fn (.pair zB (.pair zt (.pair (.int .i64) .unit))) (.pair tMe (.pair (.int .i64) .unit))) (.node .nil 106 (.fn (.pair zB (.pair zt (.pair tMe (.pair (.int .i64) (.pair (.int .u64) .unit))))) (.pair zt (.pair (.int .i64) .unit))) .nil)) 107 (.fn (.pair zB (.pair zt (.pair tMe (.pair (.int .i64) (.pair (.int .i64) (.pair (.int .u64) .unit)))))) (.pair zt (.pair (.int .i64) .unit))) (.node (.node .nil 108 (.fn (.pair zB (.pair zt (.pair tMe (.pair (.int .i64) (.pair (.int .i64) (.pair (.int .i64) (.pair (.int .u64) .unit))))))) (.pair zt (.pair (.int .i64) .unit))) .nil) 109 (.st (.pair .str (.pair .str (.pair (.int .i64) (.pair .bool .unit))))) (.node .nil 110 qn .nil))) 111 (.fn (.pair (.int .u64) (.pair (.int .u64) .unit)) (.pair (.int .u64) (.pair (.int .i64) .unit))) (.node (.node (.node (.node .nil 112 (.st (.pair (.int .i64) (.pair (.int .i64) (.pair (.int .i64) (.pair (.int .i64) (.pair (.int .i64) (.pair (.int .u64) .unit))))))) .nil) 113 zbw .nil) 114 (.fn (.pair zt (.pair (.int .i64) (.pair (.int .i64) (.pair (.int .i64) (.pair (.int .u64) .unit))))) (.pair zt .unit)) (.node .nil 115 (.fn (.pair zt (.pair (.int .i64) (.pair ze .unit))) (.pair zt .unit)) .nil)) 116 (.fn (.pair zB (.pair (.int .i64) (.pair (.int .i64) .unit))) (.pair .bool .unit)) (.node (.node .nil 117 (.ptr (.arr 4 (.int .u64))) .nil) 118 (.fn (.pair (.ptr zt) (.pair (.int .i64) (.pair (.int .i64) .unit))) (.pair (.ptr (.arr 4 (.int .u64))) .unit)) (.node .nil 119 (.ptr zt) .nil))))) 120 (.fn (.pair zB (.pair tMe .unit)) (.pair .bool .unit)) (.node (.node (.node (.node (.node (.node .nil 121 (.fn (.pair (.sl zJ) (.pair (.sl zJ) .unit)) (.pair .bool .unit)) .nil) 122 (.fn (.pair (.sl zC) (.pair (.sl zC) .unit)) (.pair .bool .unit)) .nil) 123 (.fn (.pair (.sl zA) (.pair (.sl zA) .unit)) (.pair .bool .unit)) (.node .nil 124 (.fn (.pair (.sl zF) (.pair (.sl zF) .unit)) (.pair .bool .unit)) .nil)) 125 (.fn (.pair (.sl zp) (.pair (.sl zp) .unit)) (.pair .bool .unit)) (.node (.node .nil 126 (.fn (.pair (.sl (.arr 4 (.int .u64))) (.pair (.sl (.arr 4 (.int .u64))) .unit)) (.pair .bool .unit)) .nil) 127 (.fn (.pair (.sl zI) (.pair (.sl zI) .unit)) (.pair .bool .unit)) (.node .nil 128 (.st (.pair (.int .i64) (.pair (.int .u64) .unit))) .nil))) 129 zG (.node (.node (.node (.node .nil 130 (.st (.pair (.int .i64) (.pair (.int .i64) .unit))) .nil) 131 qS .nil) 132 (.fn (.pair zB .unit) (.pair .bool .unit)) (.node .nil 133 (.fn (.pair zB .unit) (.pair (.sl (.sl (.int .i64))) .unit)) .nil)) 134 (.fn (.pair zB (.pair zbw .unit)) (.pair ze .unit)) (.node (.node .nil 135 (.st (.pair zB (.pair zt .unit))) .nil) 136 zW (.node .nil 137 (.sl (.fn .unit (.pair .bool .unit))) .nil)))) 138 (.fn (.pair zt (.pair zI .unit)) (.pair .bool .unit)) (.node (.node (.node (.node (.node .nil 139 (.fn (.pair (.int .i64) .unit) (.pair .bool .unit)) .nil) 140 (.fn (.pair (.sl zf) (.pair (.int .i64) .unit)) (.pair (.int .u64) (.pair (.int .i64) .unit))) .nil) 141 (.sl (.int .u64)) (.node .nil 142 (.fn (.pair (.sl zp) (.pair (.int .i64) .unit)) (.pair (.int .u64) (.pair (.int .i64) .unit))) .nil)) 143 (.fn (.pair (.sl (.int .u64)) .unit) (.pair (.int .u64) (.pair (.int .i64) .unit))) (.node (.node .nil 144 (.fn (.pair zt (.pair (.int .i64) (.pair (.fn (.pair ze .unit) (.pair (.arr 4 (.int .u64)) .unit)) .unit))) (.pair (.int .u64) (.pair (.int .i64) .unit))) .nil) 145 (.fn (.pair ze .unit) (.pair (.arr 4 (.int .u64)) .unit)) (.node .nil 146 (.fn (.pair zB (.pair (.sl (.sl (.int .i64))) (.pair (.int .i64) (.pair (.int .i64) .unit)))) (.pair .bool .unit)) .nil))) 147 (.fn (.pair zB (.pair zt (.pair tMe (.pair (.int .i64) (.pair (.int .u64) .unit))))) (.pair .bool .unit)) (.node (.node (.node .nil 148 (.fn (.pair (.ptr zt) .unit) (.pair (.int .i64) .unit)) .nil) 149 (.st (.pair (.fn (.pair (.ptr zt) .unit) (.pair (.int .i64) .unit)) .unit)) (.node .nil 150 zcX .nil)) 151 (.fn (.pair zt (.pair (.sl zcX) .unit)) (.pair zt (.pair (.int .i64) .unit))) (.node (.node .nil 152 (.fn (.pair .bool (.pair (.int .i64) .unit)) (.pair zcX .unit)) .nil) 153 (.fn (.pair (.int .i64) (.pair (.int .i64) (.pair (.int .i64) (.pair (.int .u64) .unit)))) (.pair zcX .unit)) (.node .nil 154 (.fn (.pair zG (.pair zG .unit)) (.pair .bool .unit)) .nil))))))) 155 (.fn (.pair zB (.pair zt (.pair (.int .i64) .unit))) (.pair .bool .unit)) (.node (.node (.node (.node (.node (.node (.node (.node .nil 156 (.fn (.pair zB (.pair (.int .i64) .unit)) (.pair .bool .unit)) .nil) 157 (.sl (.fn (.pair zB .unit) (.pair .bool .unit))) .nil) 158 (.fn (.pair (.sl ze) (.pair (.fn (.pair ze .unit) (.pair .bool .unit)) .unit)) (.pair .bool .unit)) (.node .nil 159 (.fn (.pair (.sl zJ) .unit) (.pair .bool .unit)) .nil)) 160 (.fn (.pair (.sl zC) .unit) (.pair .bool .unit)) (.node (.node .nil 161 (.fn (.pair (.sl zA) .unit) (.pair .bool .unit)) .nil) 162 (.fn (.pair (.sl zF) .unit) (.pair .bool .unit)) (.node .nil 163 (.fn (.pair (.sl zp) .unit) (.pair .bool .unit)) .nil))) 164 (.fn (.pair ze .unit) (.pair .bool .unit)) (.node (.node (.node (.node .nil 165 (.fn (.pair zB (.pair (.sl (.sl (.int .i64))) .unit)) (.pair .bool .unit)) .nil) 166 (.fn (.pair (.sl zf) .unit) (.pair .bool .unit)) .nil) 167 (.fn (.pair (.sl zi) .unit) (.pair .bool .unit)) (.node .nil 168 (.fn (.pair (.sl zf) (.pair (.fn (.pair zf .unit) (.pair .bool .unit)) .unit)) (.pair .bool .unit)) .nil)) 169 (.fn (.pair zf .unit) (.pair .bool .unit)) (.node (.node .nil 170 (.fn (.pair (.sl zi) (.pair (.fn (.pair zi .unit) (.pair .bool .unit)) .unit)) (.pair .bool .unit)) .nil) 171 (.fn (.pair zi .unit) (.pair .bool .unit)) (.node .nil 172 (.fn (.pair (.sl (.int .i64)) (.pair (.fn (.pair (.int .i64) .unit) (.pair .bool .unit)) .unit)) (.pair .bool .unit)) .nil)))) 173 (.fn (.pair zI .unit) (.pair .bool .unit)) (.node (.node (.node (.node (.node .nil 174 (.fn (.pair (.int .i64) .unit) (.pair (.fn (.pair zI .unit) (.pair .bool .unit)) .unit)) .nil) 175 (.fn (.pair (.sl zC) (.pair (.fn (.pair zC .unit) (.pair .bool .unit)) .unit)) (.pair .bool .unit)) .nil) 176 (.fn (.pair zC .unit) (.pair .bool .unit)) (.node .nil 177 (.fn (.pair (.sl zA) (.pair (.fn (.pair zA .unit) (.pair .bool .unit)) .unit)) (.pair .bool .unit)) .nil)) 178 (.fn (.pair zA .unit) (.pair .bool .unit)) (.node (.node .nil 179 (.fn (.pair (.sl zI) (.pair (.fn (.pair zI .unit) (.pair .bool .unit)) .unit)) (.pair .bool .unit)) .nil) 180 (.fn (.pair (.sl zF) (.pair (.fn (.pair zF .unit) (.pair .bool .unit)) .unit)) (.pair .bool .unit)) (.node .nil 181 (.fn (.pair (.int .i64) (.pair (.int .i64) .unit)) (.pair .bool .unit)) .nil))) 182 (.fn (.pair zF .unit) (.pair .bool .unit)) (.node (.node (.node (.node .nil 183 (.fn (.pair (.sl zp) (.pair (.fn (.pair zp .unit) (.pair .bool .unit)) .unit)) (.pair .bool .unit)) .nil) 184 (.fn (.pair zp .unit) (.pair .bool .unit)) .nil) 185 (.ptr jN) (.node .nil 186 (.fn (.pair (.sl zp) (.pair (.fn (.pair zp .unit) (.pair .bool .unit)) .unit)) (.pair (.ptr jN) .unit)) .nil)) 187 (.fn .unit (.pair (.sl (.int .i64)) .unit)) (.node (.node .nil 188 (.fn (.pair (.sl zf) .unit) (.pair (.sl (.int .i64)) .unit)) .nil) 189 (.fn (.pair zf .unit) (.pair (.int .i64) .unit)) (.node .nil 190 (.fn (.pair (.sl zp) .unit) (.pair (.ptr jN) .unit)) .nil))))) 192 (.fn (.pair (.int .u64) (.pair (.int .u64) (.pair (.int .u64) .unit))) (.pair (.int .u64) (.pair (.int .u64) .unit))) (.node (.node (.node (.node (.node (.node .nil 193 (.fn (.pair zB (.pair (.int .i64) .unit)) (.pair (.sl (.int .i64)) .unit)) .nil) 194 (.sl zcX) .nil) 195 (.fn (.pair (.arr 4 (.int .u64)) (.pair (.int .i64) (.pair (.int .u64) .unit))) (.pair (.arr 4 (.int .u64)) (.pair (.int .i64) .unit))) (.node .nil 196 (.fn (.pair zG (.pair (.int .i64) .unit)) (.pair .bool .unit)) .nil)) 197 (.fn (.pair (.sl zG) .unit) (.pair .bool .unit)) (.node (.node .nil 198 (.fn (.pair (.sl qn) .unit) (.pair .bool .unit)) .nil) 199 (.fn (.pair (.sl qS) (.pair (.sl zG) (.pair (.int .i64) .unit))) (.pair .bool .unit)) (.node .nil 200 (.fn (.pair (.sl zbw) .unit) (.pair .bool .unit)) .nil))) 201 (.fn (.pair zB (.pair zt (.pair zI (.pair (.int .i64) .unit)))) (.pair .bool .unit)) (.node (.node (.node (.node .nil 202 (.fn (.pair zB (.pair zt (.pair (.int .i64) (.pair (.int .i64) .unit)))) (.pair .bool .unit)) .nil) 203 (.fn (.pair zB (.pair ze (.pair (.int .i64) .unit))) (.pair .bool .unit)) .nil) 204 (.fn (.pair zG .unit) (.pair .bool .unit)) (.node .nil 205 (.fn (.pair (.int .i64) (.pair (.int .i64) (.pair (.int .i64) .unit))) (.pair .bool .unit)) .nil)) 206 (.fn (.pair (.sl zG) (.pair (.fn (.pair zG .unit) (.pair .bool .unit)) .unit)) (.pair .bool .unit)) (.node (.node .nil 207 (.fn (.pair zG (.pair zG .unit)) (.pair (.int .i64) .unit)) .nil) 208 (.fn (.pair .str .unit) (.pair .bool .unit)) (.node .nil 209 (.fn (.pair qn .unit) (.pair .bool .unit)) .nil)))) 210 (.fn (.pair (.sl qn) (.pair (.fn (.pair qn .unit) (.pair .bool .unit)) .unit)) (.pair .bool .unit)) (.node (.node (.node (.node (.node .nil 211 (.fn (.pair (.sl .str) .unit) (.pair .bool .unit)) .nil) 212 (.sl .str) .nil) 213 (.fn (.pair zB .unit) (.pair (.sl .str) .unit)) (.node .nil 215 (.fn (.pair (.int .i64) .unit) (.pair zG (.pair (.int .i64) .unit))) .nil)) 216 (.fn (.pair (.sl zG) (.pair zG .unit)) (.pair .bool .unit)) (.node (.node .nil 217 (.fn (.pair zbw .unit) (.pair (.sl (.int .i64)) .unit)) .nil) 218 (.fn (.pair (.sl zJ) (.pair (.fn (.pair zJ .unit) (.pair .bool .unit)) .unit)) (.pair .bool .unit)) (.node .nil 219 (.fn (.pair zJ .unit) (.pair .bool .unit)) .nil))) 220 (.fn (.pair (.sl zC) (.pair zI (.pair (.int .i64) .unit))) (.pair (.int .i64) .unit)) (.node (.node (.node (.node .nil 221 (.pair (.int .i64) (.int .i64)) .nil) 222 (.fn (.pair zi (.pair zi .unit)) (.pair (.int .i64) .unit)) .nil) 223 (.st (.pair (.sl zp) (.pair (.fn (.pair zp .unit) (.pair .bool .unit)) .unit))) (.node .nil 224 jN .nil)) 225 (.ptr vL) (.node (.node .nil 226 (.fn (.pair (.sl zf) .unit) (.pair (.ptr vL) .unit)) .nil) 227 (.fn (.pair (.sl (.int .i64)) (.pair (.fn (.pair (.int .i64) .unit) (.pair .bool .unit)) .unit)) (.pair (.int .i64) .unit)) (.node .nil 228 (.fn (.pair (.sl (.int .i64)) (.pair (.int .i64) .unit)) (.pair .bool .unit)) .nil)))))) 229 (.fn (.pair zG .unit) (.pair (.sl (.int .i64)) .unit)) (.node (.node (.node (.node (.node (.node (.node .nil 230 (.fn (.pair (.arr 4 (.int .u64)) (.pair (.int .i64) (.pair (.int .u64) (.pair (.fn (.pair (.int .u64) (.pair (.int .u64) .unit)) (.pair (.int .u64) (.pair (.int .i64) .unit))) .unit)))) (.pair (.arr 4 (.int .u64)) (.pair (.int .i64) .unit))) .nil) 231 (.int .u64) .nil) 232 (.fn (.pair (.sl zG) (.pair zG .unit)) (.pair (.int .i64) .unit)) (.node .nil 233 (.fn (.pair (.int .i64) .unit) (.pair zG .unit)) .nil)) 234 (.fn (.pair (.sl qS) (.pair (.int .i64) .unit)) (.pair .bool .unit)) (.node (.node .nil 235 (.fn (.pair (.sl zf) (.pair (.int .i64) (.pair (.int .i64) .unit))) (.pair .bool .unit)) .nil) 236 (.fn (.pair zi (.pair zi .unit)) (.pair .bool .unit)) (.node .nil 237 (.fn (.pair zf (.pair (.int .i64) .unit)) (.pair (.int .u64) .unit)) .nil))) 238 (.fn (.pair (.sl zG) (.pair (.fn (.pair zG .unit) (.pair .bool .unit)) .unit)) (.pair (.int .i64) .unit)) (.node (.node (.node (.node .nil 239 (.fn (.pair (.sl (.int .i64)) .unit) (.pair (.int .i64) .unit)) .nil) 240 (.fn (.pair (.int .i64) (.pair (.int .i64) .unit)) (.pair (.int .i64) .unit)) .nil) 241 (.fn (.pair (.int .u64) (.pair (.int .u64) .unit)) (.pair (.int .i64) .unit)) (.node .nil 242 (.fn (.pair (.int .u8) .unit) (.pair .bool .unit)) .nil)) 243 (.fn (.pair .str (.pair (.fn (.pair (.int .u8) .unit) (.pair .bool .unit)) .unit)) (.pair .bool .unit)) (.node (.node .nil 244 (.fn (.pair (.sl qn) (.pair (.fn (.pair qn .unit) (.pair .bool .unit)) .unit)) (.pair (.int .i64) .unit)) .nil) 245 (.pair .str (.int .i64)) (.node .nil 246 (.fn (.pair (.sl ze) (.pair (.fn (.pair ze .unit) (.pair .bool .unit)) .unit)) (.pair (.int .i64) .unit)) .nil)))) 247 (.fn (.pair (.sl zJ) (.pair (.fn (.pair zJ .unit) (.pair .bool .unit)) .unit)) (.pair (.int .i64) .unit)) (.node (.node (.node (.node (.node .nil 248 (.fn (.pair (.sl zC) (.pair (.fn (.pair zC .unit) (.pair .bool .unit)) .unit)) (.pair (.int .i64) .unit)) .nil) 249 (.fn (.pair (.sl zA) (.pair (.fn (.pair zA .unit) (.pair .bool .unit)) .unit)) (.pair (.int .i64) .unit)) .nil) 250 (.st (.pair (.int .i64) (.pair (.int .i64) (.pair zI .unit)))) (.node .nil 251 zqr .nil)) 252 (.fn (.pair zA .unit) (.pair zqr .unit)) (.node (.node .nil 253 (.fn (.pair (.sl zF) (.pair (.fn (.pair zF .unit) (.pair .bool .unit)) .unit)) (.pair (.int .i64) .unit)) .nil) 254 (.fn (.pair (.sl zp) (.pair (.fn (.pair zp .unit) (.pair .bool .unit)) .unit)) (.pair (.int .i64) .unit)) (.node .nil 255 (.fn (.pair zei .unit) (.pair .bool .unit)) .nil))) 256 (.fn (.pair (.int .i64) (.pair (.int .u64) (.pair (.int .u64) .unit))) (.pair (.int .u64) (.pair (.int .i64) .unit))) (.node (.node (.node (.node .nil 257 (.fn (.pair (.sl zf) (.pair (.fn (.pair zf .unit) (.pair .bool .unit)) .unit)) (.pair (.int .i64) .unit)) .nil) 258 (.fn (.pair (.sl zi) (.pair (.fn (.pair zi .unit) (.pair .bool .unit)) .unit)) (.pair (.int .i64) .unit)) .nil) 259 (.fn (.pair (.sl zI) (.pair (.fn (.pair zI .unit) (.pair .bool .unit)) .unit)) (.pair (.int .i64) .unit)) (.node .nil 260 (.fn (.pair (.sl zf) (.pair (.fn (.pair zf .unit) (.pair .bool .unit)) .unit)) (.pair (.ptr vL) .unit)) .nil)) 261 (.st (.pair (.sl zf) (.pair (.fn (.pair zf .unit) (.pair .bool .unit)) .unit))) (.node (.node .nil 262 vL .nil) 263 (.fn (.pair (.sl (.int .i64)) (.pair (.int .i64) .unit)) (.pair (.int .i64) .unit)) (.node .nil 264 (.fn (.pair (.fn (.pair (.int .i64) .unit) (.pair .bool .unit)) .unit) .unit) .nil))))) 265 (.fn (.pair (.fn (.pair (.int .i64) .unit) (.pair .bool .unit)) .unit) .unit) (.node (.node (.node (.node (.node (.node .nil 266 (.fn (.pair zG .unit) (.pair (.fn (.pair (.fn (.pair (.int .i64) .unit) (.pair .bool .unit)) .unit) .unit) .unit)) .nil) 267 (.fn (.pair (.int .u64) .unit) (.pair .bool .unit)) .nil) 268 (.fn (.pair (.sl (.int .u8)) (.pair (.fn (.pair (.int .u8) .unit) (.pair .bool .unit)) .unit)) (.pair .bool .unit)) (.node .nil 269 (.sl (.int .u8)) .nil)) 270 (.fn (.pair .str (.pair .str .unit)) (.pair .str .unit)) (.node (.node .nil 271 (.fn (.pair (.int .u64) .unit) (.pair (.int .i64) .unit)) .nil) 272 (.fn (.pair (.sl (.int .u8)) (.pair (.fn (.pair (.int .u8) .unit) (.pair .bool .unit)) .unit)) (.pair (.int .i64) .unit)) (.node .nil 273 (.fn (.pair .str (.pair (.int .u8) .unit)) (.pair .str .unit)) .nil))) 274 (.arr 256 .bool) (.node (.node (.node (.node .nil 275 (.arr 256 .bool) .nil) 277 (.fn (.pair .str .unit) (.pair (.arr 256 .bool) (.pair .bool .unit))) .nil) 278 (.fn (.pair .str (.pair (.ptr (.arr 256 .bool)) .unit)) (.pair .str .unit)) (.node .nil 279 (.ptr (.arr 256 .bool)) .nil)) 280 (.fn (.pair (.int .u64) (.pair (.int .u64) .unit)) (.pair (.int .u64) (.pair (.int .u64) .unit))) (.node (.node .nil 281 (.arr 64 (.int .u8)) .nil) 283 (.fn (.pair .str .unit) (.pair (.int .i32) (.pair (.int .i64) .unit))) (.node .nil 284 (.fn (.pair .str (.pair (.int .i32) .unit)) (.pair .bool .unit)) .nil)))) 285 (.fn (.pair .str (.pair (.int .i32) .unit)) (.pair (.int .i64) .unit)) (.node (.node (.node (.node (.node .nil 286 (.arr 256 (.int .u8)) .nil) 287 (.st (.pair (.int .u8) (.pair (.int .u8) .unit))) .nil) 288 zg6 (.node .nil 289 (.arr 16 zg6) .nil)) 290 (.fn (.pair .str (.pair (.int .u8) .unit)) (.pair (.int .i64) .unit)) (.node (.node .nil 291 (.fn (.pair (.int .i32) .unit) (.pair .bool .unit)) .nil) 292 (.fn (.pair (.int .i64) .unit) (.pair (.int .i64) .unit)) (.node .nil 293 (.fn (.pair .str (.pair .str .unit)) (.pair (.int .i64) .unit)) .nil))) 294 (.fn .unit (.pair .str .unit)) (.node (.node (.node .nil 300 (.fn .unit (.pair (.int .i64) .unit)) .nil) 301 (.int .u32) (.node .nil 302 (.int .u8) .nil)) 303 (.int .u8) (.node (.node .nil 305 (.ptr (.int .u8)) .nil) 306 (.int .i32) (.node .nil 307 (.int .i32) .nil))))))))
def glob:List (Nat × AV):=[(0,.dat (.ptr (.arr 64 (.int .u8))) (some [0,1,56,2,57,49,28,3,61,58,42,50,38,29,17,4,62,47,59,36,45,43,51,22,53,39,33,30,24,18,12,5,63,55,48,27,60,41,37,16,46,35,44,21,52,32,23,11,54,26,40,15,34,20,31,10,25,14,19,9,13,8,7,6]))]
abbrev zqw:Ty:=(.pair zt (.pair zt .unit))
abbrev zoT:Ty:=(.pair zG .unit)
abbrev zoU:Ty:=(.pair (.sl (.int .i64)) .unit)
abbrev zxy:Type:=(zZ × Unit)→Option ((List Int) × Unit)
abbrev zv1 (g:Fnc zoT zoU):Fun:=⟨233,zoT,zoU,0,g⟩
def ext:List (Nat × Bool):=[(148,false),(230,true)]
def E0:Env:=⟨types,[],glob,0,false,ext,[],fun _=>none,false,false⟩
theorem zCs:Tryz.prog.follows .mixedOrders = true:=by kernel_rfl
theorem mkS {l:List Fun} {d:Bool} {F:Fun} {f:Go.Func} {K:Nat} (hl:Sds Tryz.prog E0 l) (hf:Tryz.prog.funcs[F.id]? = some f) (ho:qV f = true) (h:evF (En E0 d l) K f F.md F.a F.r = F.spec):Sd Tryz.prog E0 F:=Sd.mk zCs hl hf ho h
theorem zDu {l:List Fun} {d:Bool} {js:List Nat} {F:Fun} {f:Go.Func} {K:Nat} (hl:Sds Tryz.prog E0 l) (hf:Tryz.prog.funcs[F.id]? = some f) (ho:qV f = true) (h:evF (Ej E0 d js l) K f F.md F.a F.r = F.spec):Sd Tryz.prog E0 F:=Sd.mkJ zCs hl hf ho h
end Go.Proofs.YtlklokhlgcfcdaaGreatDoor
end
section
namespace Go.Proofs.YtlklokhlgcfcdaaGreatDoor
open Go.Ev Go.RowKit Go.Shelf Go.Proofs
attribute [local go_sem] Oper.semAt_some
def jH (c:Nat):List Nat:=(List.range 64).filter c.testBit
theorem zoV (p q:Nat→Bool) (k:Nat) (hp:∀ i,i < k→p i = false ∧ q i = false) (hk:p k = true ∧ q k = false) (hq:∀ i,k < i→p i = q i):∀ n,(List.range n).filter p = (if k < n then [k] else []) ++ (List.range n).filter q
  | 0=>rfl
  | n + 1=>by
    rw [List.range_succ,List.filter_append,List.filter_append,zoV p q k hp hk hq n]
    by_cases h1:k < n
    · rw [if_pos h1,if_pos (by omega),List.append_assoc]
      have:=hq n h1
      simp [List.filter_cons,this]
    · by_cases h2:k = n
      · subst h2
        rw [if_neg h1,if_pos (by omega)]
        have e:(List.range k).filter q = []:=by
          rw [List.filter_eq_nil_iff]
          intro i hi
          rw [(hp i (by simpa using hi)).2]; simp
        simp [hk.1,hk.2,e]
      · rw [if_neg h1,if_neg (by omega)]
        have:=hp n (by omega)
        simp [this.1,this.2]
theorem zhT {k m i:Nat}:(2 ^ k * (2 * m + 1)).testBit i = (decide (k ≤ i) && (decide (i = k) || (2 ^ k * (2 * m)).testBit i)) ∧ ((2 ^ k * (2 * m)).testBit i = true→k < i):=by
  rw [Nat.mul_comm (2 ^ k),Nat.mul_comm (2 ^ k),Nat.testBit_mul_two_pow,Nat.testBit_mul_two_pow]
  by_cases h:k ≤ i
  · by_cases e:i = k
    · subst e
      simp [Nat.testBit_zero]
    · obtain ⟨j,rfl⟩:∃ j,i = k + (j + 1):=⟨i - k - 1,by omega⟩
      rw [show k + (j + 1) - k = j + 1 by omega,Nat.testBit_succ,Nat.testBit_succ,show (2 * m + 1) / 2 = m by omega,show 2 * m / 2 = m by omega]
      simp
  · simp [h]
theorem zB4 {k m:Nat}:(2 ^ k * (2 * m + 1)) &&& (2 ^ k * (2 * m + 1) - 1) = 2 ^ k * (2 * m):=by
  have e:2 ^ k * (2 * m + 1) - 1 = 2 ^ k * (2 * m) + (2 ^ k - 1):=by
    have:=Nat.two_pow_pos k
    rw [Nat.mul_add,Nat.mul_one]; omega
  apply Nat.eq_of_testBit_eq
  intro i
  rw [Nat.testBit_and,e,Nat.testBit_two_pow_mul_add _ (by have:=Nat.two_pow_pos k; omega)]
  have:=@zhT k m i
  rw [this.1]
  by_cases h:i < k
  · have h2:(2 ^ k * (2 * m)).testBit i = false:=by
      cases hb:(2 ^ k * (2 * m)).testBit i with
      | false=>rfl
      | true=>have:=this.2 hb; omega
    simp [h2,h]
    omega
  · have h3:(2 ^ k * (2 * m)).testBit i = (2 * m).testBit (i - k):=by
      rw [Nat.mul_comm,Nat.testBit_mul_two_pow]; simp; omega
    rw [if_neg h,h3]
    by_cases e:i = k
    · subst e; simp [Nat.testBit_zero]
    · simp [e]; omega
theorem zBj {c:Nat} (h0:c ≠ 0) (h:c < 18446744073709551616):jH c = Lib.ctz 64 c :: jH (c &&& (c - 1)):=by
  obtain ⟨m,hm,hk⟩:=Lib.ctzFrom_spec 64 c (by omega) h
  have e:Lib.ctz 64 c = Lib.ctzFrom 64 c:=by simp [Lib.ctz,h0]
  rw [e]
  generalize Lib.ctzFrom 64 c = k at hm hk
  subst hm
  rw [zB4]
  unfold jH
  have hlow:∀ i,i ≤ k→(2 ^ k * (2 * m)).testBit i = false:=by
    intro i hi
    cases hb:(2 ^ k * (2 * m)).testBit i with
    | false=>rfl
    | true=>have:=zhT.2 hb; omega
  rw [zoV (2 ^ k * (2 * m + 1)).testBit (2 ^ k * (2 * m)).testBit k (fun i hi=>⟨by rw [zhT.1]; simp; omega,hlow i (by omega)⟩) ⟨by rw [zhT.1]; simp,hlow k (Nat.le_refl _)⟩ (fun i hi=>by rw [zhT.1]; simp [show k ≤ i by omega,show i ≠ k by omega]) 64,if_pos hk]
  rfl
theorem zBk:jH 0 = []:=by
  unfold jH
  rw [List.filter_eq_nil_iff]
  intro i _
  simp
theorem zB5 (c:Nat):(jH c).length ≤ 64:=by
  unfold jH
  have:=List.length_filter_le c.testBit (List.range 64)
  simpa using this
theorem zDv {c:Nat} (h0:c ≠ 0):c &&& (c - 1) < c:=by
  have:=@Nat.and_le_right c (c - 1)
  omega
def zjF (w:World):Prop:=∀ j,j < Lib.deBruijn64tab.length→w.cell? ⟨0,j,none⟩ = some (.int .u8 (Lib.deBruijn64tab.getD j 0))
theorem zDw (x a:Nat) (hx:x < 18446744073709551616) (hx0:x ≠ 0) (hlow:x &&& (18446744073709551616 - x) = a) :
    IntKind.u64.wrap (bits BinOp.and IntKind.u64 (x:Int) (IntKind.u64.wrap (-(x:Int))) * 285870213051353865) / 288230376151711744 = ((a * 285870213051353865 % 18446744073709551616 / 288230376151711744:Nat):Int):=by
  have e1:IntKind.u64.wrap (-(x:Int)) = ((18446744073709551616 - x:Nat):Int):=by rw [IntKind.wrap_u64]; omega
  rw [e1,bits_and_u64_nat x _ hx (by omega),hlow,IntKind.wrap_u64]
  omega
set_option maxRecDepth 100000 in
set_option maxHeartbeats 1000000 in
theorem zCQ (n:Nat) (x k idx:Nat) (w:World) (hx1:((x:Int) == 0) = false)
    (key:IntKind.u64.wrap (bits BinOp.and IntKind.u64 (x:Int) (IntKind.u64.wrap (-(x:Int))) * 285870213051353865) / 288230376151711744 = (idx:Int))
    (hi:idx < 64) (hk:k < 64) (hcell:w.cell? ⟨0,idx,none⟩ = some (.int .u8 k)) :
    CallsIn Fence.wide n Tryz.prog 306 #[.int .u64 x] w fun e w'=>e = .returned (.int .i64 k) ∧ w' = w:=by
  refine callsIn_of_wp Tryz.func306 rfl trivial ?_ rfl
  simp only [show Tryz.f306.ntmps = 14 by kernel_rfl,List.size_toArray,List.length_cons,List.length_nil,Nat.reduceAdd,Nat.reduceSub,Array.replicate_succ,Array.replicate_zero,List.push_toArray,List.append_toArray,List.nil_append,List.cons_append]
  gi_wp2_with (simp only [key])
  go_ret
  exact ⟨rfl,rfl⟩
theorem zD2 (n:Nat) (x:Nat) (hx:x < 18446744073709551616) (hx0:x ≠ 0) (w:World) (hT:zjF w) :
    CallsIn Fence.wide n Tryz.prog 306 #[.int .u64 x] w fun e w'=>e = .returned (.int .i64 (Lib.ctz 64 x)) ∧ w' = w:=by
  obtain ⟨hlow,hk⟩:=Lib.lowest_bit 64 x hx0 hx
  obtain ⟨hi,htab⟩:=Lib.deBruijn64_at _ hk
  have hcell:=hT _ hi
  rw [htab] at hcell
  exact zCQ n x _ _ w (by simp; omega) (zDw x _ hx hx0 hlow) hi hk hcell
theorem zxz {x:Nat} (hx:x < 18446744073709551616):IntKind.u64.wrap (x:Int) = (x:Int):=by rw [IntKind.wrap_u64]; omega
theorem zB6 (c:Nat) (h0:c ≠ 0) (h:c < 18446744073709551616):bits BinOp.and IntKind.u64 (c:Int) (IntKind.u64.wrap ((c:Int) - 1)) = ((c &&& (c - 1):Nat):Int):=by
  rw [show ((c:Int) - 1) = ((c - 1:Nat):Int) by omega,zxz (by omega),bits_and_u64_nat c _ h (by omega)]
def zCt (v:Value):Nat:=match v with | .int _ n=>n.toNat | _=>0
set_option maxRecDepth 100000 in
set_option maxHeartbeats 1000000 in
theorem zCR (n:Nat) (l Bn n₀:Nat) (lev:Int) (c0:Nat) (h64:c0 < 18446744073709551616) (hn₀:0 + 1 ≤ n₀) (J Jx:List Nat→World→Prop)
    (hY:∀ pre x W,J pre W→pre.length < (jH c0).length→YieldAt Fence.wide (n - 1) Tryz.prog l #[.int .i64 (x:Nat)] W fun e W' =>
      (e = .returned (.bool true) ∧ J (pre ++ [x]) W' ∧ Below n₀ W W') ∨ (e = .returned (.bool false) ∧ Jx (pre ++ [x]) W'))
    (W:World) (hBn:W.cell? ⟨Bn,0,none⟩ = some (.int .i64 lev)) (hBn1:W.cell? ⟨Bn,1,none⟩ = some (.int .u64 c0)) (hT:zjF W) (h0:J [] W) :
    CallsIn Fence.wide n Tryz.prog 305 #[.func (.yield l) #[] #[],.pointer (some ⟨Bn,0,none⟩)] W fun e W'=>(∃ v,e = .returned v) ∧
      ((∃ ys,ys = jH c0 ∧ J ys W') ∨ (∃ pre,pre <+: jH c0 ∧ Jx pre W')):=by
  refine callsIn_of_wp Tryz.func305 rfl trivial ?_ rfl
  simp only [show Tryz.f305.ntmps = 17 by kernel_rfl,List.size_toArray,List.length_cons,List.length_nil,Nat.reduceAdd,Nat.reduceSub,Array.replicate_succ,Array.replicate_zero,List.push_toArray,List.append_toArray,List.nil_append,List.cons_append]
  gi_wp2
  gi_loopw [3] (fun p wr=>∃ (pre:List Nat) (c:Nat),p = .int .u64 c ∧ c < 18446744073709551616 ∧ jH c0 = pre ++ jH c ∧ zjF wr ∧ J pre wr)
    (fun p wr=>zCt p)
  case atStart =>
    exact ⟨[],c0,rfl,h64,rfl,hT,h0⟩
  case round =>
    obtain ⟨pre,c,rfl,hc,hx,hTr,hJs⟩:=hrel
    by_cases hz:c = 0
    · subst hz
      gi_wp2
      go_end0
      exact ⟨⟨_,rfl⟩,.inl ⟨pre,by rw [hx,zBk,List.append_nil],hJs⟩⟩
    · have hx':=hx
      rw [zBj hz hc] at hx'
      obtain ⟨fn,tmps,assign,body,hy,hR⟩:=hY pre (Lib.ctz 64 c) wr hJs (by rw [hx']; simp)
      have hz1:((c:Int) == 0) = false:=by simp; omega
      gi_wp2
      refine ⟨trivial,fun h=>(by cases h),(zD2 (n - 1) c hc hz wr hTr).mono ?_⟩
      rintro e w' ⟨rfl,hw'⟩
      subst hw'
      gi_wp2
      refine ⟨fun h=>(by cases h),hR.mono ?_⟩
      rintro e W3 (⟨rfl,hJ3,hk3⟩ | ⟨rfl,hJx3⟩)
      · have hT3:zjF W3:=fun j hj=>(hk3.cell (p:=⟨0,j,none⟩) (show 0 < _ by omega)).trans (hTr j hj)
        have hk:bits BinOp.and IntKind.u64 (c:Int) ((c:Int) - 1) = ((c &&& (c - 1):Nat):Int):=by rw [← zB6 c hz hc,IntKind.wrap_u64]; congr 1; omega
        gi_wp2
        go_roundw
        case rel=>exact ⟨pre ++ [Lib.ctz 64 c],c &&& (c - 1),rfl,Nat.lt_of_le_of_lt Nat.and_le_left hc,by rw [hx',List.append_assoc]; rfl,hT3,hJ3⟩
        case measure=>simp [zCt]; exact zDv hz
      · gi_wp2
        refine bodyPost_ret (results_none rfl _ _ _) rfl ?_
        exact ⟨⟨_,rfl⟩,.inr ⟨pre ++ [Lib.ctz 64 c],⟨jH (c &&& (c - 1)),by rw [hx',List.append_assoc]; rfl⟩,hJx3⟩⟩
set_option maxHeartbeats 1000000 in
theorem zB7 (n:Nat) (lev:Int) (c:Nat) (w:World) :
    CallsIn Fence.wide n Tryz.prog 289 #[.agg #[.int .i64 lev,.int .u64 c]] w fun e w'=>e = .returned (.func (.func 305) #[] #[.pointer (some ⟨w.heap.size,0,none⟩)]) ∧ w' = w.alloc (.cells #[.int .i64 lev,.int .u64 c] 129):=by
  refine callsIn_of_wp Tryz.func289 rfl trivial ?_ rfl
  simp only [show Tryz.f289.ntmps = 4 by kernel_rfl,List.size_toArray,List.length_cons,List.length_nil,Nat.reduceAdd,Nat.reduceSub,Array.replicate_succ,Array.replicate_zero,List.push_toArray,List.append_toArray,List.nil_append,List.cons_append]
  gi_wp2
  go_ret
  exact ⟨rfl,rfl⟩
theorem zAa (n:Nat) (Bn n₀:Nat) (lev:Int) (c0:Nat) (h64:c0 < 18446744073709551616) (w:World) (hBn:Bn < w.heap.size) (hn₀:0 + 1 ≤ n₀) (hn1:n₀ ≤ w.heap.size)
    (hc:w.cell? ⟨Bn,0,none⟩ = some (.int .i64 lev)) (hc1:w.cell? ⟨Bn,1,none⟩ = some (.int .u64 c0)) (hT:zjF w) :
    SeqStopsK Fence.wide n Tryz.prog 305 #[.pointer (some ⟨Bn,0,none⟩)] (fun x:Nat=>#[Value.int .i64 x]) (Below n₀) (fun ys=>ys = jH c0) (fun pre=>pre <+: jH c0) (jH c0).length w:=fun l J Jx W hW _ _ hY h0 =>
  zCR n l Bn n₀ lev c0 h64 hn₀ J Jx hY W ((hW.cell (p:=⟨Bn,0,none⟩) hBn).trans hc) ((hW.cell (p:=⟨Bn,1,none⟩) hBn).trans hc1) (fun j hj=>(hW.cell (p:=⟨0,j,none⟩) (show 0 < _ by omega)).trans (hT j hj)) h0
theorem zD3:(Tryz.prog.info? 3).map (fun i=>(i.zero,i.size,i.bytes)) = some (some (.int .i64 0),1,8):=by kernel_rfl
theorem zD4:Tryz.prog.underlying 27 = some (.slice 3):=by kernel_rfl
set_option maxRecDepth 100000 in
set_option maxHeartbeats 2000000 in
theorem zCS (n:Nat) (hn:1 ≤ n) (lev:Int) (c:Nat) (h64:c < 18446744073709551616) (w:World) (hs:0 + 1 ≤ w.heap.size) (hT:zjF w) :
    CallsIn Fence.wide n Tryz.prog 233 #[.agg #[.int .i64 lev,.int .u64 c]] w fun e W'=>∃ v,e = .returned v ∧ W'.ownsRow w.heap.size 3 1 v (jH c).length ((jH c).map fun x=>Value.int .i64 (x:Nat)) ∧ Below w.heap.size w W':=by
  obtain ⟨i0,hi,hz0,hz1,hz2⟩:=info_parts zD3
  refine callsIn_of_wp_marks Tryz.func233 rfl trivial ?_ rfl
  simp only [show Tryz.f233.ntmps = 13 by kernel_rfl,List.size_toArray,List.length_cons,List.length_nil,Nat.reduceAdd,Nat.reduceSub,Array.replicate_succ,Array.replicate_zero,List.push_toArray,List.append_toArray,List.nil_append,List.cons_append]
  gi_wp2
  refine ⟨trivial,(zB7 (n - 1) lev c _).mono ?_⟩
  rintro e w' ⟨rfl,rfl⟩
  gi_wp2
  have bO:Boxed (((w.alloc (.cells #[.int .i64 lev,.int .u64 c] 129)).alloc (.cells #[.slice none 0 0] 27)).alloc (.cells #[.int .i64 lev,.int .u64 c] 129)) (w.heap.size + 1) 27 (.slice none 0 0):=by
    have:=Boxed.new (w.alloc (.cells #[.int .i64 lev,.int .u64 c] 129)) 27 (.slice none 0 0)
    rw [World.size_alloc] at this
    exact this.alloc _
  have hB0:Below w.heap.size w (((w.alloc (.cells #[.int .i64 lev,.int .u64 c] 129)).alloc (.cells #[.slice none 0 0] 27)).alloc (.cells #[.int .i64 lev,.int .u64 c] 129)):=(((Below.refl _ w).alloc (Nat.le_refl _) _).alloc (by simp) _).alloc (by simp; omega) _
  have hz:(((w.alloc (.cells #[.int .i64 lev,.int .u64 c] 129)).alloc (.cells #[.slice none 0 0] 27)).alloc (.cells #[.int .i64 lev,.int .u64 c] 129)).heap.size = w.heap.size + 1 + 1 + 1:=by simp
  have hbx:(((w.alloc (.cells #[.int .i64 lev,.int .u64 c] 129)).alloc (.cells #[.slice none 0 0] 27)).alloc (.cells #[.int .i64 lev,.int .u64 c] 129)).heap[w.heap.size + 1 + 1]? = some (.cells #[.int .i64 lev,.int .u64 c] 129 (0,0)):=by
    have:=World.alloc_heap_new ((w.alloc (.cells #[.int .i64 lev,.int .u64 c] 129)).alloc (.cells #[.slice none 0 0] 27)) (.cells #[.int .i64 lev,.int .u64 c] 129)
    simpa [World.size_alloc] using this
  have hT1:zjF (((w.alloc (.cells #[.int .i64 lev,.int .u64 c] 129)).alloc (.cells #[.slice none 0 0] 27)).alloc (.cells #[.int .i64 lev,.int .u64 c] 129)):=fun j hj=>(hB0.cell (p:=⟨0,j,none⟩) (show 0 < _ by omega)).trans (hT j hj)
  generalize (((w.alloc (.cells #[.int .i64 lev,.int .u64 c] 129)).alloc (.cells #[.slice none 0 0] 27)).alloc (.cells #[.int .i64 lev,.int .u64 c] 129)) = w1 at bO hB0 hz hbx hT1
  refine wpIn_rangeFunc_ownG rfl (n:=n) hn (gf:=305) (lb:=#[.pointer (some ⟨w.heap.size + 1 + 1,0,none⟩)]) rfl trivial (enters_of Tryz.func305 (by kernel_rfl) rfl)
    (zAa (n - 1) (w.heap.size + 1 + 1) w.heap.size lev c h64 w1 (by omega) hs (by omega) (by simp [World.cell?,hbx]) (by simp [World.cell?,hbx]) hT1) belowK_t (belowK_b (by omega)) (Below.refl _ _) (fun _=>rfl)
    (fun pre W=>(∃ v,Boxed W (w.heap.size + 1) 27 v ∧ W.ownsRow w.heap.size 3 1 v pre.length (pre.map fun x=>Value.int .i64 (x:Nat)) ∧ True) ∧ Below w.heap.size w W)
    (fun _ _ _=>False)
    (OwnFrom.and (Own.from (holdsRow_own w.heap.size (w.heap.size + 1) 27 3 1 (fun pre:List Nat=>pre.length) (fun pre:List Nat=>pre.map fun x=>Value.int .i64 (x:Nat)) (fun _ _=>True)) _) (ownFrom_below (Nat.le_refl _) (by omega)))
    (fun _ _ _ _ _ hs _ _=>hs)
    ⟨⟨_,bO,World.ownsRow_nil _ _ _ _,trivial⟩,hB0⟩
    (fun x=>{ tmps:=#[.agg #[.int .i64 lev,.int .u64 c],.pointer (some ⟨w.heap.size,0,none⟩),.slice none 0 0,.pointer (some ⟨w.heap.size + 1,0,none⟩),.int .i64 (x:Nat),.agg #[.int .i64 lev,.int .u64 c],.func (.func 305) #[] #[.pointer (some ⟨w.heap.size + 1 + 1,0,none⟩)],.int .i64 (x:Nat),undef,undef,undef,undef,undef],defers:=[] }) ?assign ?body ?done ?stop
  case assign =>
    intro l x W K hK
    gi_wp2
    exact hK
  case body =>
    rintro l pre x W ⟨⟨v,hv,hrow,-⟩,hB⟩ hlt
    have hc:=hv.cell
    have hl64:=zB5 c
    gi_wp2_with (gi_at_builtin; refine wpListIn_append_own _ rfl _ _ 27 rfl w.heap.size 3 i0 (.int .i64 0) 1 8 zD4 hi hz0 hz1 hz2 rfl (by decide) _ _ _ rfl (hrow.alloc _) ⟨W.heap.size,0,none⟩ 1 1 [.int .i64 (x:Nat)] rfl rfl (cell_one_new _ _ _) (by simp [Value.oneCell']) (by simp only [Go.maxLen]; omega) (by omega) (by have:=hB.size; simp; omega) ?_; intro v' w1' hown' hgrow _; obtain ⟨g',cap',rfl⟩:=ownsRow_succ hown'; obtain ⟨hv1,hv2,hr2,hk2,hb2⟩:=hv.appended (by decide) hrow hB.size (by omega) hown' hgrow; have hc1:=hv1.cell; have hf1:=hv1.frozen)
    exact ⟨hk2.from _,hb2,⟨_,hv2,by simpa using hr2,trivial⟩,hB.trans hb2⟩
  case done =>
    rintro D ys W hD rfl ⟨⟨v,hv,hrow,-⟩,hB⟩ hK
    have hc:=hv.cell
    gi_wp2
    refine ⟨by simp,.inl ⟨_,_,rfl,run_takeDeferred hK,?_⟩⟩
    exact ⟨_,results_tmp rfl _ _ _,v,rfl,ownsRow_putObj hrow _ hK rfl,hB.trans (belowK_b (w:=w) (Nat.le_refl _) W D _ _ (by omega) hK rfl rfl)⟩
  case stop =>
    rintro D c pre W _ _ h _
    exact h.elim
def zhU:zxy:=fun x=>bif decide (0 ≤ x.1.2.1 ∧ x.1.2.1 < 18446744073709551616) then some ((jH x.1.2.1.toNat).map Int.ofNat,()) else none
theorem zB8 {G F0:FH} {w:World} (hE:EnvOk Tryz.prog G E0) (hG:G.le F0) (hk:F0.ok w):zjF w ∧ 0 + 1 ≤ w.heap.size:=by
  obtain ⟨τ,x,cs,h1,⟨-,c,h2,h3⟩,h4⟩:=hE.glob 0 _ rfl
  cases h1
  obtain ⟨-,hr⟩:=h4
  obtain ⟨el,fz,hw⟩:=hk _ _ (hG _ _ h2)
  have hlt:=(Array.getElem?_eq_some_iff.1 hw).1
  refine ⟨fun j hj=>?_,hlt⟩
  have key:∀ (l:List Int) (cs:List Value) (j:Nat),RepL ((RR Tryz.prog (.int .u8)).1 G) l cs→j < l.length→cs[j]? = some (.int .u8 (l.getD j 0)):=by
    intro l
    induction l with
    | nil=>intro cs j _ h; simp at h
    | cons x l ih =>
      rintro cs j ⟨d,e,rfl,hd,he⟩ hj
      have hd:d = [.int .u8 x]:=hd
      subst hd
      cases j with
      | zero=>rfl
      | succ j=>simpa using ih e j he (by simpa using hj)
  have h5:=key _ _ j hr (by simpa [Lib.deBruijn64tab] using hj)
  have h6:=h3 j _ h5
  have e:∀ j,j < 64→((([0,1,56,2,57,49,28,3,61,58,42,50,38,29,17,4,62,47,59,36,45,43,51,22,53,39,33,30,24,18,12,5,63,55,48,27,60,41,37,16,46,35,44,21,52,32,23,11,54,26,40,15,34,20,31,10,25,14,19,9,13,8,7,6]:List Int)).getD j 0) = ((Lib.deBruijn64tab.getD j 0:Nat):Int):=by decide +kernel
  rw [e j (by simpa [Lib.deBruijn64tab] using hj)] at h6
  unfold World.cell?
  simp only [hw]
  simpa using h6
theorem zvL (P:Program) (F:FH):∀ l:List Nat,RepL (Rep P F (.int .i64)) (l.map Int.ofNat) (l.map fun x=>Value.int .i64 (x:Nat))
  | []=>rfl
  | x :: l=>⟨[.int .i64 (x:Nat)],l.map fun x=>Value.int .i64 (x:Nat),rfl,rfl,zvL P F l⟩
theorem zxA:Sd Tryz.prog E0 (zv1 zhU):=by
  intro G hE
  refine ⟨⟨Tryz.f233,Tryz.func233,by kernel_rfl,by kernel_rfl⟩,?_⟩
  rintro ⟨⟨(lev:Int),(comps:Int),⟨⟩⟩,⟨⟩⟩ y hy F0 w vs hG hk ⟨v,r,rfl,h1,h2,h3⟩
  obtain ⟨hd,hy⟩:=zd hy
  cases hy
  obtain ⟨hc0,hc1⟩:=of_decide_eq_true hd
  have hc0:0 ≤ comps:=hc0
  have hc1:comps < 18446744073709551616:=hc1
  clear hd
  obtain rfl:r = []:=h3
  obtain ⟨hT,hs⟩:=zB8 hE hG hk
  obtain ⟨c,rfl⟩:=Int.eq_ofNat_of_zero_le hc0
  have hv:v = .agg #[.int .i64 lev,.int .u64 c]:=by
    obtain ⟨d1,e1,k1,(rfl:d1 = _),d2,e2,rfl,(rfl:d2 = _),(rfl:e2 = _)⟩:=h1
    have h2:isAggV v = true:=h2
    cases v with
    | agg cs =>
      have:cs.toList = [.int .i64 lev,.int .u64 c]:=k1
      rw [← Array.toArray_toList (xs:=cs),this]
    | _=>cases h2
  subst hv
  have hin:=callsIn_wide.1 (zCS 1 (Nat.le_refl _) lev c (by omega) w hs hT)
  refine hin.mono ?_
  rintro e W' ⟨v,rfl,hrow,hB⟩
  have hlow:∀ k c',F0 k = some c'→k < w.heap.size:=fun k c' hk'=>by
    obtain ⟨el,fz,hw⟩:=hk _ _ hk'
    exact (Array.getElem?_eq_some_iff.1 hw).1
  let F':FH:=fun k=>if k < w.heap.size then F0 k else FH.of W' k
  have hF':∀ k c',F' k = some c'→∃ el fz,W'.heap[k]? = some (.cells c' el fz):=by
    intro k c' h
    simp only [F'] at h
    split at h
    · rename_i hlt
      obtain ⟨el,fz,hw⟩:=hk _ _ h
      exact ⟨el,fz,(hB.block k hlt).trans hw⟩
    · exact FH.of_ok W' _ _ h
  refine ⟨[v],F',rfl,hB,⟨fun k c' hk'=>?_,fun k hk'=>?_⟩,hF',?_⟩
  · simp only [F']; rw [if_pos (hlow k c' hk')]; exact hk'
  · simp only [F']; rw [if_pos hk']
  · show RepA Tryz.prog F' (.pair (.sl tI) .unit) ((jH c).map Int.ofNat,()) [v]
    have hlen:List.length ((jH c).map Int.ofNat) = (jH c).length:=List.length_map ..
    have hr:=zvL Tryz.prog F' (jH c)
    generalize (jH c).map Int.ofNat = L at hlen hr ⊢
    rcases hrow.2 with ⟨rfl,h0⟩ | ⟨g,cap,cur,rfl,hgb,hw,hnc,-,-,htake⟩
    · obtain rfl:L = []:=List.eq_nil_of_length_eq_zero (by omega)
      exact ⟨_,[],rfl,⟨none,0,rfl,Nat.le_refl _,fun hne=>absurd rfl hne⟩,rfl,rfl⟩
    · refine ⟨_,[],rfl,⟨some ⟨g,0,none⟩,cap,?_,(show List.length L ≤ cap by omega),fun _=>⟨_,_,rfl,⟨rfl,cur,?_,fun j u hj=>?_⟩,hr⟩⟩,rfl,rfl⟩
      · show _ = [Value.slice _ (List.length L) cap]
        rw [hlen]; rfl
      · show (if g < w.heap.size then F0 g else FH.of W' g) = some cur
        rw [if_neg (by omega)]
        simp only [FH.of,hw]
      · rw [← htake] at hj
        have:=List.getElem?_eq_some_iff.1 hj
        obtain ⟨h1,h2⟩:=this
        rw [List.getElem_take] at h2
        show cur[0 + j]? = _
        rw [Nat.zero_add,← Array.getElem?_toList,List.getElem?_eq_getElem (by rw [List.length_take] at h1; omega),h2]
end Go.Proofs.YtlklokhlgcfcdaaGreatDoor
end
section
namespace Go.Proofs.YtlklokhlgcfcdaaGreatDoor
open Go.Ev
noncomputable section
abbrev Sq (F:Fun):Prop:=Sd Tryz.prog E0 F
def L0:List Fun:=[]
theorem h0:Sds Tryz.prog E0 L0:=trivial
theorem ms0 {d:Bool} {F:Fun} {f:Go.Func} {K:Nat} (hf:Tryz.prog.funcs[F.id]? = some f) (ho:qV f = true) (h:evF (En E0 d L0) K f F.md F.a F.r = F.spec):Sd Tryz.prog E0 F:=mkS h0 hf ho h
theorem mj0 {d:Bool} {js:List Nat} {F:Fun} {f:Go.Func} {K:Nat} (hf:Tryz.prog.funcs[F.id]? = some f) (ho:qV f = true) (h:evF (Ej E0 d js L0) K f F.md F.a F.r = F.spec):Sd Tryz.prog E0 F:=zDu h0 hf ho h
theorem ml0 {d:Bool} {F:Fun} {f:Go.Func} {S:Nat→F.a.I→Option F.r.I} (hf:Tryz.prog.funcs[F.id]? = some f) (ho:qV f = true) (h:∀ K,evF (En E0 d L0) K f F.md F.a F.r = S K) (e:S K0 = F.spec):Sd Tryz.prog E0 F:=mkS h0 hf ho ((h K0).trans e)
abbrev Es0:Env:=En E0 false L0
def zbk:((List zo) × Unit)→Option ((List zo) × Unit):=fun (x0,()) =>
  bif List.isEmpty x0 then zbC (some ([],())) (bif jk true zf (List.length (List.replicate 0 (zb zf)) + List.length x0) then some (List.replicate 0 (zb zf) ++ x0,()) else none) else bif jk true zf (List.length (List.replicate 0 (zb zf)) + List.length x0) then some (List.replicate 0 (zb zf) ++ x0,()) else none
abbrev zhV:Fun:=⟨14,(ch [(.sl zf)]),(ch [(.sl zf)]),1,zbk⟩
theorem zrO:Sq zhV:=mj0 (d:=false) (js:=[999998]) (K:=0) Tryz.func14 (by kernel_rfl) (funext fun (x0,())=>by kernel_rfl)
def zdw:((List zr) × Unit)→Option ((List zr) × Unit):=fun (x0,()) =>
  bif List.isEmpty x0 then zbC (some ([],())) (bif jk true zi (List.length (List.replicate 0 (zb zi)) + List.length x0) then some (List.replicate 0 (zb zi) ++ x0,()) else none) else bif jk true zi (List.length (List.replicate 0 (zb zi)) + List.length x0) then some (List.replicate 0 (zb zi) ++ x0,()) else none
abbrev zhW:Fun:=⟨15,(ch [(.sl zi)]),(ch [(.sl zi)]),1,zdw⟩
theorem zrP:Sq zhW:=mj0 (d:=false) (js:=[999998]) (K:=0) Tryz.func15 (by kernel_rfl) (funext fun (x0,())=>by kernel_rfl)
def zcm:((List Int) × Unit)→Option ((List Int) × Unit):=fun (x0,()) =>
  bif List.isEmpty x0 then zbC (some ([],())) (bif jk true tI (List.length (List.replicate 0 (0:Int)) + List.length x0) then some (List.replicate 0 (0:Int) ++ x0,()) else none) else bif jk true tI (List.length (List.replicate 0 (0:Int)) + List.length x0) then some (List.replicate 0 (0:Int) ++ x0,()) else none
abbrev zlh:Fun:=⟨16,(ch [(.sl tI)]),(ch [(.sl tI)]),1,zcm⟩
theorem zuu:Sq zlh:=mj0 (d:=false) (js:=[999998]) (K:=0) Tryz.func16 (by kernel_rfl) (funext fun (x0,())=>by kernel_rfl)
def zej:((List (List Int)) × Unit)→Option ((List (List Int)) × Unit):=fun (x0,()) =>
  bif List.isEmpty x0 then zbC (some ([],())) (bif jk true (.sl tI) (List.length (List.replicate 0 ([]:List Int)) + List.length x0) then some (List.replicate 0 ([]:List Int) ++ x0,()) else none) else bif jk true (.sl tI) (List.length (List.replicate 0 ([]:List Int)) + List.length x0) then some (List.replicate 0 ([]:List Int) ++ x0,()) else none
abbrev zjG:Fun:=⟨17,(ch [(.sl (.sl tI))]),(ch [(.sl (.sl tI))]),1,zej⟩
theorem ztg:Sq zjG:=mj0 (d:=false) (js:=[999998]) (K:=0) Tryz.func17 (by kernel_rfl) (funext fun (x0,())=>by kernel_rfl)
def zdx:((List zh) × Unit)→Option ((List zh) × Unit):=fun (x0,()) =>
  bif List.isEmpty x0 then zbC (some ([],())) (bif jk true ze (List.length (List.replicate 0 (zb ze)) + List.length x0) then some (List.replicate 0 (zb ze) ++ x0,()) else none) else bif jk true ze (List.length (List.replicate 0 (zb ze)) + List.length x0) then some (List.replicate 0 (zb ze) ++ x0,()) else none
abbrev zhX:Fun:=⟨18,(ch [(.sl ze)]),(ch [(.sl ze)]),1,zdx⟩
theorem zrQ:Sq zhX:=mj0 (d:=false) (js:=[999998]) (K:=0) Tryz.func18 (by kernel_rfl) (funext fun (x0,())=>by kernel_rfl)
def zek:((List qr) × Unit)→Option ((List qr) × Unit):=fun (x0,()) =>
  bif List.isEmpty x0 then zbC (some ([],())) (bif jk true zJ (List.length (List.replicate 0 (zb zJ)) + List.length x0) then some (List.replicate 0 (zb zJ) ++ x0,()) else none) else bif jk true zJ (List.length (List.replicate 0 (zb zJ)) + List.length x0) then some (List.replicate 0 (zb zJ) ++ x0,()) else none
abbrev zjH:Fun:=⟨19,(ch [(.sl zJ)]),(ch [(.sl zJ)]),1,zek⟩
theorem zth:Sq zjH:=mj0 (d:=false) (js:=[999998]) (K:=0) Tryz.func19 (by kernel_rfl) (funext fun (x0,())=>by kernel_rfl)
def zel:((List z1) × Unit)→Option ((List z1) × Unit):=fun (x0,()) =>
  bif List.isEmpty x0 then zbC (some ([],())) (bif jk true zC (List.length (List.replicate 0 (zb zC)) + List.length x0) then some (List.replicate 0 (zb zC) ++ x0,()) else none) else bif jk true zC (List.length (List.replicate 0 (zb zC)) + List.length x0) then some (List.replicate 0 (zb zC) ++ x0,()) else none
abbrev zjI:Fun:=⟨20,(ch [(.sl zC)]),(ch [(.sl zC)]),1,zel⟩
theorem zti:Sq zjI:=mj0 (d:=false) (js:=[999998]) (K:=0) Tryz.func20 (by kernel_rfl) (funext fun (x0,())=>by kernel_rfl)
def zem:((List z5) × Unit)→Option ((List z5) × Unit):=fun (x0,()) =>
  bif List.isEmpty x0 then zbC (some ([],())) (bif jk true zA (List.length (List.replicate 0 (zb zA)) + List.length x0) then some (List.replicate 0 (zb zA) ++ x0,()) else none) else bif jk true zA (List.length (List.replicate 0 (zb zA)) + List.length x0) then some (List.replicate 0 (zb zA) ++ x0,()) else none
abbrev zjJ:Fun:=⟨21,(ch [(.sl zA)]),(ch [(.sl zA)]),1,zem⟩
theorem ztj:Sq zjJ:=mj0 (d:=false) (js:=[999998]) (K:=0) Tryz.func21 (by kernel_rfl) (funext fun (x0,())=>by kernel_rfl)
def zen:((List qc) × Unit)→Option ((List qc) × Unit):=fun (x0,()) =>
  bif List.isEmpty x0 then zbC (some ([],())) (bif jk true zF (List.length (List.replicate 0 (zb zF)) + List.length x0) then some (List.replicate 0 (zb zF) ++ x0,()) else none) else bif jk true zF (List.length (List.replicate 0 (zb zF)) + List.length x0) then some (List.replicate 0 (zb zF) ++ x0,()) else none
abbrev zjK:Fun:=⟨22,(ch [(.sl zF)]),(ch [(.sl zF)]),1,zen⟩
theorem ztk:Sq zjK:=mj0 (d:=false) (js:=[999998]) (K:=0) Tryz.func22 (by kernel_rfl) (funext fun (x0,())=>by kernel_rfl)
def zbl:((List zL) × Unit)→Option ((List zL) × Unit):=fun (x0,()) =>
  bif List.isEmpty x0 then zbC (some ([],())) (bif jk true zp (List.length (List.replicate 0 (zb zp)) + List.length x0) then some (List.replicate 0 (zb zp) ++ x0,()) else none) else bif jk true zp (List.length (List.replicate 0 (zb zp)) + List.length x0) then some (List.replicate 0 (zb zp) ++ x0,()) else none
abbrev zhY:Fun:=⟨23,(ch [(.sl zp)]),(ch [(.sl zp)]),1,zbl⟩
theorem zrR:Sq zhY:=mj0 (d:=false) (js:=[999998]) (K:=0) Tryz.func23 (by kernel_rfl) (funext fun (x0,())=>by kernel_rfl)
def zgO:((List (List Int)) × Unit)→Option ((List (List Int)) × Unit):=fun (x0,()) =>
  bif List.isEmpty x0 then zbC (some ([],())) (bif jk true (.arr 4 tU) (List.length (List.replicate 0 (zb (.arr 4 tU))) + List.length x0) then some (List.replicate 0 (zb (.arr 4 tU)) ++ x0,()) else none) else bif jk true (.arr 4 tU) (List.length (List.replicate 0 (zb (.arr 4 tU))) + List.length x0) then some (List.replicate 0 (zb (.arr 4 tU)) ++ x0,()) else none
abbrev znj:Fun:=⟨24,(ch [(.sl (.arr 4 tU))]),(ch [(.sl (.arr 4 tU))]),1,zgO⟩
theorem zv2:Sq znj:=mj0 (d:=false) (js:=[999998]) (K:=0) Tryz.func24 (by kernel_rfl) (funext fun (x0,())=>by kernel_rfl)
def zfQ:((List z4) × Unit)→Option ((List z4) × Unit):=fun (x0,()) =>
  bif List.isEmpty x0 then zbC (some ([],())) (bif jk true zI (List.length (List.replicate 0 (zb zI)) + List.length x0) then some (List.replicate 0 (zb zI) ++ x0,()) else none) else bif jk true zI (List.length (List.replicate 0 (zb zI)) + List.length x0) then some (List.replicate 0 (zb zI) ++ x0,()) else none
abbrev zli:Fun:=⟨25,(ch [(.sl zI)]),(ch [(.sl zI)]),1,zfQ⟩
theorem zuv:Sq zli:=mj0 (d:=false) (js:=[999998]) (K:=0) Tryz.func25 (by kernel_rfl) (funext fun (x0,())=>by kernel_rfl)
abbrev zaQ:Type:=(List (List Int)) × (List (List Int)) × Int × Int
abbrev zlj:zaQ→St:=fun (v0,v1,v5,v6)=>St.mk [(0,.dat (.sl (.sl tI)) v0),(1,.dat (.sl (.sl tI)) v1),(5,.dat tI v5),(6,.dat tI v6)] []
abbrev vH:Type:=(List (List Int)) × (List (List Int)) × Int
abbrev zlk:vH→St:=fun (v0,v1,v5)=>St.mk [(0,.dat (.sl (.sl tI)) v0),(1,.dat (.sl (.sl tI)) v1),(5,.dat tI v5)] []
def zaR (k0:vH→Option (Bool × Unit)) (k1:zaQ→Option (Bool × Unit)):zaQ→Option (Bool × Unit):=fun (v0,v1,v5,v6) =>
  inR v5 ((List.length v0):Int) (bif decide (v6 < ((List.length (List.getD v0 (Int.toNat v5) ([]:List Int))):Int)) then inR v5 ((List.length v0):Int) (inR v6 ((List.length (List.getD v0 (Int.toNat v5) ([]:List Int))):Int) (inR v5 ((List.length v1):Int) (inR v6 ((List.length (List.getD v1 (Int.toNat v5) ([]:List Int))):Int) (bif List.getD (List.getD v0 (Int.toNat v5) ([]:List Int)) (Int.toNat v6) (0:Int) != List.getD (List.getD v1 (Int.toNat v5) ([]:List Int)) (Int.toNat v6) (0:Int) then some (false,()) else k1 (v0,v1,v5,wI (v6 + 1)))))) else k0 (v0,v1,wI (v5 + 1)))
abbrev zcn (K:Nat) (k0:vH→Option (Bool × Unit)):zaQ→Option (Bool × Unit):=zl (fun k1=>zaR k0 k1) K
theorem zuw (K:Nat) (n0:Nat):∀ n,evV Es0 K Tryz.f26 0 (ch [.bool]) [1,1,0,1,0,0,1,0,0,1,1,0] [n0] zlj n = zl (fun k1=>zaR (evV Es0 K Tryz.f26 0 (ch [.bool]) [1,1,0,1,0] [] zlk n0) k1) n:=zn fun n1 (v0,v1,v5,v6)=>by kernel_rfl
def yu (L1:zaQ→Option (Bool × Unit)) (k0:vH→Option (Bool × Unit)):vH→Option (Bool × Unit):=fun (v0,v1,v5) =>
  bif decide (v5 < ((List.length v0):Int)) then inR v5 ((List.length v0):Int) (inR v5 ((List.length v1):Int) (bif ((List.length (List.getD v0 (Int.toNat v5) ([]:List Int))):Int) != ((List.length (List.getD v1 (Int.toNat v5) ([]:List Int))):Int) then some (false,()) else L1 (v0,v1,v5,0))) else some (true,())
abbrev zll (K:Nat):vH→Option (Bool × Unit):=zl (fun k0=>yu (zcn K k0) k0) K
theorem zux (K:Nat):∀ n,evV Es0 K Tryz.f26 0 (ch [.bool]) [1,1,0,1,0] [] zlk n = zl (fun k0=>yu (zcn K k0) k0) n:=qk (B:=fun L1 k0=>yu L1 k0) (V1:=fun n0=>evV Es0 K Tryz.f26 0 (ch [.bool]) [1,1,0,1,0,0,1,0,0,1,1,0] [n0] zlj K) (W1:=fun k0=>(zcn K k0)) (fun n0=>zuw K n0 K) fun n0 (v0,v1,v5)=>by kernel_rfl
def zhZ (L0:vH→Option (Bool × Unit)):((List (List Int)) × ((List (List Int)) × Unit))→Option (Bool × Unit):=fun (x0,x1,()) =>
  bif ((List.length x0):Int) != ((List.length x1):Int) then some (false,()) else L0 (x0,x1,0)
def zh0:((List (List Int)) × (List (List Int)) × Unit)→Option (Bool × Unit):=zhZ (zll K0)
abbrev zoW:Fun:=⟨26,(ch [(.sl (.sl tI)),(.sl (.sl tI))]),(ch [.bool]),0,zh0⟩
theorem zxB:Sq zoW:=ml0 (d:=false) (S:=fun K=>zhZ (zll K)) Tryz.func26 (by kernel_rfl) (fun K=>tr1 (T:=zhZ) (zux K K) fun (x0,x1,())=>by kernel_rfl) rfl
abbrev zaS:Type:=(List zo) × (List zo) × Int
abbrev zuy:zaS→St:=fun (v0,v1,v5)=>St.mk [(0,.dat (.sl zf) v0),(1,.dat (.sl zf) v1),(5,.dat tI v5)] []
def zaT (k0:zaS→Option (Bool × Unit)):zaS→Option (Bool × Unit):=fun (v0,v1,v5) =>
  bif decide (v5 < ((List.length v0):Int)) then inR v5 ((List.length v0):Int) (inR v5 ((List.length v1):Int) (bif !eqI zf (ix qj v0 v5) (ix qj v1 v5) then some (false,()) else k0 (v0,v1,wI (v5 + 1)))) else some (true,())
abbrev zlm (K:Nat):zaS→Option (Bool × Unit):=zl zaT K
theorem zuz (K:Nat):∀ n,evV Es0 K Tryz.f27 0 (ch [.bool]) [1,1,0,1,0] [] zuy n = zl zaT n:=zn fun n0 (v0,v1,v5)=>by kernel_rfl
def zh1 (L0:zaS→Option (Bool × Unit)):((List zo) × ((List zo) × Unit))→Option (Bool × Unit):=fun (x0,x1,()) =>
  bif ((List.length x0):Int) != ((List.length x1):Int) then some (false,()) else L0 (x0,x1,0)
def zh2:((List zo) × (List zo) × Unit)→Option (Bool × Unit):=zh1 (zlm K0)
abbrev zoX:Fun:=⟨27,(ch [(.sl zf),(.sl zf)]),(ch [.bool]),0,zh2⟩
theorem zxC:Sq zoX:=ml0 (d:=false) (S:=fun K=>zh1 (zlm K)) Tryz.func27 (by kernel_rfl) (fun K=>tr1 (T:=zh1) (zuz K K) fun (x0,x1,())=>by kernel_rfl) rfl
abbrev zaU:Type:=(List zr) × (List zr) × Int
abbrev zuA:zaU→St:=fun (v0,v1,v5)=>St.mk [(0,.dat (.sl zi) v0),(1,.dat (.sl zi) v1),(5,.dat tI v5)] []
def zaV (k0:zaU→Option (Bool × Unit)):zaU→Option (Bool × Unit):=fun (v0,v1,v5) =>
  bif decide (v5 < ((List.length v0):Int)) then inR v5 ((List.length v0):Int) (inR v5 ((List.length v1):Int) (bif !eqI zi (ix zaP v0 v5) (ix zaP v1 v5) then some (false,()) else k0 (v0,v1,wI (v5 + 1)))) else some (true,())
abbrev zln (K:Nat):zaU→Option (Bool × Unit):=zl zaV K
theorem zuB (K:Nat):∀ n,evV Es0 K Tryz.f28 0 (ch [.bool]) [1,1,0,1,0] [] zuA n = zl zaV n:=zn fun n0 (v0,v1,v5)=>by kernel_rfl
def zh3 (L0:zaU→Option (Bool × Unit)):((List zr) × ((List zr) × Unit))→Option (Bool × Unit):=fun (x0,x1,()) =>
  bif ((List.length x0):Int) != ((List.length x1):Int) then some (false,()) else L0 (x0,x1,0)
def zh4:((List zr) × (List zr) × Unit)→Option (Bool × Unit):=zh3 (zln K0)
abbrev zoY:Fun:=⟨28,(ch [(.sl zi),(.sl zi)]),(ch [.bool]),0,zh4⟩
theorem zxD:Sq zoY:=ml0 (d:=false) (S:=fun K=>zh3 (zln K)) Tryz.func28 (by kernel_rfl) (fun K=>tr1 (T:=zh3) (zuB K K) fun (x0,x1,())=>by kernel_rfl) rfl
abbrev vb:Type:=(List qr) × (List qr) × Int
abbrev znY:vb→St:=fun (v0,v1,v5)=>St.mk [(0,.dat (.sl zJ) v0),(1,.dat (.sl zJ) v1),(5,.dat tI v5)] []
def vc (k0:vb→Option (Bool × Unit)):vb→Option (Bool × Unit):=fun (v0,v1,v5) =>
  bif decide (v5 < ((List.length v0):Int)) then inR v5 ((List.length v0):Int) (inR v5 ((List.length v1):Int) (bif !eqI zJ (ix zeh v0 v5) (ix zeh v1 v5) then some (false,()) else k0 (v0,v1,wI (v5 + 1)))) else some (true,())
abbrev ze7 (K:Nat):vb→Option (Bool × Unit):=zl vc K
theorem znZ (K:Nat):∀ n,evV Es0 K Tryz.f56 0 (ch [.bool]) [1,1,0,1,0] [] znY n = zl vc n:=zn fun n0 (v0,v1,v5)=>by kernel_rfl
def zcD (L0:vb→Option (Bool × Unit)):((List qr) × ((List qr) × Unit))→Option (Bool × Unit):=fun (x0,x1,()) =>
  bif ((List.length x0):Int) != ((List.length x1):Int) then some (false,()) else L0 (x0,x1,0)
def zcE:((List qr) × (List qr) × Unit)→Option (Bool × Unit):=zcD (ze7 K0)
abbrev zg7:Fun:=⟨56,(ch [(.sl zJ),(.sl zJ)]),(ch [.bool]),0,zcE⟩
theorem zqx:Sq zg7:=ml0 (d:=false) (S:=fun K=>zcD (ze7 K)) Tryz.func56 (by kernel_rfl) (fun K=>tr1 (T:=zcD) (znZ K K) fun (x0,x1,())=>by kernel_rfl) rfl
abbrev vd:Type:=(List z1) × (List z1) × Int
abbrev zn0:vd→St:=fun (v0,v1,v5)=>St.mk [(0,.dat (.sl zC) v0),(1,.dat (.sl zC) v1),(5,.dat tI v5)] []
def ve (k0:vd→Option (Bool × Unit)):vd→Option (Bool × Unit):=fun (v0,v1,v5) =>
  bif decide (v5 < ((List.length v0):Int)) then inR v5 ((List.length v0):Int) (inR v5 ((List.length v1):Int) (bif !eqI zC (ix zbP v0 v5) (ix zbP v1 v5) then some (false,()) else k0 (v0,v1,wI (v5 + 1)))) else some (true,())
abbrev ze8 (K:Nat):vd→Option (Bool × Unit):=zl ve K
theorem zn1 (K:Nat):∀ n,evV Es0 K Tryz.f57 0 (ch [.bool]) [1,1,0,1,0] [] zn0 n = zl ve n:=zn fun n0 (v0,v1,v5)=>by kernel_rfl
def zcF (L0:vd→Option (Bool × Unit)):((List z1) × ((List z1) × Unit))→Option (Bool × Unit):=fun (x0,x1,()) =>
  bif ((List.length x0):Int) != ((List.length x1):Int) then some (false,()) else L0 (x0,x1,0)
def zcG:((List z1) × (List z1) × Unit)→Option (Bool × Unit):=zcF (ze8 K0)
abbrev zg8:Fun:=⟨57,(ch [(.sl zC),(.sl zC)]),(ch [.bool]),0,zcG⟩
theorem zqy:Sq zg8:=ml0 (d:=false) (S:=fun K=>zcF (ze8 K)) Tryz.func57 (by kernel_rfl) (fun K=>tr1 (T:=zcF) (zn1 K K) fun (x0,x1,())=>by kernel_rfl) rfl
abbrev zaW:Type:=(List z5) × (List z5) × Int
abbrev zuC:zaW→St:=fun (v0,v1,v5)=>St.mk [(0,.dat (.sl zA) v0),(1,.dat (.sl zA) v1),(5,.dat tI v5)] []
def zaX (k0:zaW→Option (Bool × Unit)):zaW→Option (Bool × Unit):=fun (v0,v1,v5) =>
  bif decide (v5 < ((List.length v0):Int)) then inR v5 ((List.length v0):Int) (inR v5 ((List.length v1):Int) (bif !eqI zA (ix zcl v0 v5) (ix zcl v1 v5) then some (false,()) else k0 (v0,v1,wI (v5 + 1)))) else some (true,())
abbrev zlo (K:Nat):zaW→Option (Bool × Unit):=zl zaX K
theorem zuD (K:Nat):∀ n,evV Es0 K Tryz.f58 0 (ch [.bool]) [1,1,0,1,0] [] zuC n = zl zaX n:=zn fun n0 (v0,v1,v5)=>by kernel_rfl
def zh5 (L0:zaW→Option (Bool × Unit)):((List z5) × ((List z5) × Unit))→Option (Bool × Unit):=fun (x0,x1,()) =>
  bif ((List.length x0):Int) != ((List.length x1):Int) then some (false,()) else L0 (x0,x1,0)
def zh6:((List z5) × (List z5) × Unit)→Option (Bool × Unit):=zh5 (zlo K0)
abbrev zoZ:Fun:=⟨58,(ch [(.sl zA),(.sl zA)]),(ch [.bool]),0,zh6⟩
theorem zxE:Sq zoZ:=ml0 (d:=false) (S:=fun K=>zh5 (zlo K)) Tryz.func58 (by kernel_rfl) (fun K=>tr1 (T:=zh5) (zuD K K) fun (x0,x1,())=>by kernel_rfl) rfl
abbrev zaY:Type:=(List qc) × (List qc) × Int
abbrev zuE:zaY→St:=fun (v0,v1,v5)=>St.mk [(0,.dat (.sl zF) v0),(1,.dat (.sl zF) v1),(5,.dat tI v5)] []
def zaZ (k0:zaY→Option (Bool × Unit)):zaY→Option (Bool × Unit):=fun (v0,v1,v5) =>
  bif decide (v5 < ((List.length v0):Int)) then inR v5 ((List.length v0):Int) (inR v5 ((List.length v1):Int) (bif !eqI zF (ix zqp v0 v5) (ix zqp v1 v5) then some (false,()) else k0 (v0,v1,wI (v5 + 1)))) else some (true,())
abbrev zlp (K:Nat):zaY→Option (Bool × Unit):=zl zaZ K
theorem zuF (K:Nat):∀ n,evV Es0 K Tryz.f59 0 (ch [.bool]) [1,1,0,1,0] [] zuE n = zl zaZ n:=zn fun n0 (v0,v1,v5)=>by kernel_rfl
def zh7 (L0:zaY→Option (Bool × Unit)):((List qc) × ((List qc) × Unit))→Option (Bool × Unit):=fun (x0,x1,()) =>
  bif ((List.length x0):Int) != ((List.length x1):Int) then some (false,()) else L0 (x0,x1,0)
def zh8:((List qc) × (List qc) × Unit)→Option (Bool × Unit):=zh7 (zlp K0)
abbrev zo0:Fun:=⟨59,(ch [(.sl zF),(.sl zF)]),(ch [.bool]),0,zh8⟩
theorem zxF:Sq zo0:=ml0 (d:=false) (S:=fun K=>zh7 (zlp K)) Tryz.func59 (by kernel_rfl) (fun K=>tr1 (T:=zh7) (zuF K K) fun (x0,x1,())=>by kernel_rfl) rfl
abbrev za0:Type:=(List zL) × (List zL) × Int
abbrev zuG:za0→St:=fun (v0,v1,v5)=>St.mk [(0,.dat (.sl zp) v0),(1,.dat (.sl zp) v1),(5,.dat tI v5)] []
def za1 (k0:za0→Option (Bool × Unit)):za0→Option (Bool × Unit):=fun (v0,v1,v5) =>
  bif decide (v5 < ((List.length v0):Int)) then inR v5 ((List.length v0):Int) (inR v5 ((List.length v1):Int) (bif !eqI zp (ix zb0 v0 v5) (ix zb0 v1 v5) then some (false,()) else k0 (v0,v1,wI (v5 + 1)))) else some (true,())
abbrev zlq (K:Nat):za0→Option (Bool × Unit):=zl za1 K
theorem zuH (K:Nat):∀ n,evV Es0 K Tryz.f60 0 (ch [.bool]) [1,1,0,1,0] [] zuG n = zl za1 n:=zn fun n0 (v0,v1,v5)=>by kernel_rfl
def zh9 (L0:za0→Option (Bool × Unit)):((List zL) × ((List zL) × Unit))→Option (Bool × Unit):=fun (x0,x1,()) =>
  bif ((List.length x0):Int) != ((List.length x1):Int) then some (false,()) else L0 (x0,x1,0)
def zia:((List zL) × (List zL) × Unit)→Option (Bool × Unit):=zh9 (zlq K0)
abbrev zo1:Fun:=⟨60,(ch [(.sl zp),(.sl zp)]),(ch [.bool]),0,zia⟩
theorem zxG:Sq zo1:=ml0 (d:=false) (S:=fun K=>zh9 (zlq K)) Tryz.func60 (by kernel_rfl) (fun K=>tr1 (T:=zh9) (zuH K K) fun (x0,x1,())=>by kernel_rfl) rfl
abbrev jl:Type:=(List zh) × (Option ((zh × (zh × Unit))→Option (Bool × Unit))) × (List zh) × Int × Int
abbrev zkI:jl→St:=fun (v1,v2,v15,v16,v17)=>St.mk [(1,.dat (.sl ze) v1),(2,.dat (.fn (.pair ze (.pair ze .unit)) (.pair .bool .unit)) v2),(15,.dat (.sl ze) v15),(16,.dat tI v16),(17,.dat tI v17)] []
def jm (k0:jl→Option (Bool × Unit)):jl→Option (Bool × Unit):=fun (v1,v2,v15,v16,v17) =>
  bif decide (v17 < v16) then inR v17 ((List.length v15):Int) (inR v17 ((List.length v1):Int) (Option.bind v2 fun q0=>Option.bind (q0 (ix za v15 v17,ix za v1 v17,())) fun q1=>bif q1.1 then k0 (v1,v2,v15,v16,wI (v17 + 1)) else some (false,()))) else some (true,())
abbrev zcY (K:Nat):jl→Option (Bool × Unit):=zl jm K
theorem zkJ (K:Nat):∀ n,evV Es0 K Tryz.f30 0 (ch [.bool]) [1,1,0,1,0] [] zkI n = zl jm n:=zn fun n0 (v1,v2,v15,v16,v17)=>by kernel_rfl
def zbm (L0:jl→Option (Bool × Unit)):((List zh) × ((List zh) × ((Option ((zh × (zh × Unit))→Option (Bool × Unit))) × Unit)))→Option (Bool × Unit):=fun (x0,x1,x2,()) =>
  bif ((List.length x0):Int) != ((List.length x1):Int) then some (false,()) else L0 (x1,x2,x0,((List.length x0):Int),0)
def zbn:((List zh) × ((List zh) × ((Option ((zh × zh × Unit)→Option (Bool × Unit))) × Unit)))→Option (Bool × Unit):=zbm (zcY K0)
abbrev zeo:Fun:=⟨30,(ch [(.sl ze),(.sl ze),(.fn (ch [ze,ze]) (ch [.bool]))]),(ch [.bool]),0,zbn⟩
theorem zmW:Sq zeo:=ml0 (d:=false) (S:=fun K=>zbm (zcY K)) Tryz.func30 (by kernel_rfl) (fun K=>tr1 (T:=zbm) (zkJ K K) fun (x0,x1,x2,())=>by kernel_rfl) rfl
abbrev yf:Type:=(List qr) × (List qr) × Int × Int
abbrev zqz:yf→St:=fun (v0,v1,v12,v13)=>St.mk [(0,.dat (.sl zJ) v0),(1,.dat (.sl zJ) v1),(12,.dat tI v12),(13,.dat tI v13)] []
def zcH (k0:yf→Option (Bool × Unit)):yf→Option (Bool × Unit):=fun (v0,v1,v12,v13) =>
  bif decide (v13 < v12) then inR v13 ((List.length v0):Int) (inR v13 ((List.length v1):Int) (bif !eqI zJ (ix zeh v0 v13) (ix zeh v1 v13) then some (false,()) else k0 (v0,v1,v12,wI (v13 + 1)))) else some (true,())
abbrev zg9 (K:Nat):yf→Option (Bool × Unit):=zl zcH K
theorem zqA (K:Nat):∀ n,evV Es0 K Tryz.f61 0 (ch [.bool]) [1,1,0,1,0] [] zqz n = zl zcH n:=zn fun n0 (v0,v1,v12,v13)=>by kernel_rfl
def zep (L0:yf→Option (Bool × Unit)):((List qr) × ((List qr) × Unit))→Option (Bool × Unit):=fun (x0,x1,()) =>
  bif ((List.length x0):Int) != ((List.length x1):Int) then some (false,()) else L0 (x0,x1,((List.length x0):Int),0)
def zeq:((List qr) × (List qr) × Unit)→Option (Bool × Unit):=zep (zg9 K0)
abbrev zjL:Fun:=⟨61,(ch [(.sl zJ),(.sl zJ)]),(ch [.bool]),0,zeq⟩
theorem ztl:Sq zjL:=ml0 (d:=false) (S:=fun K=>zep (zg9 K)) Tryz.func61 (by kernel_rfl) (fun K=>tr1 (T:=zep) (zqA K K) fun (x0,x1,())=>by kernel_rfl) rfl
abbrev yg:Type:=(List z1) × (List z1) × Int × Int
abbrev zqB:yg→St:=fun (v0,v1,v12,v13)=>St.mk [(0,.dat (.sl zC) v0),(1,.dat (.sl zC) v1),(12,.dat tI v12),(13,.dat tI v13)] []
def zcI (k0:yg→Option (Bool × Unit)):yg→Option (Bool × Unit):=fun (v0,v1,v12,v13) =>
  bif decide (v13 < v12) then inR v13 ((List.length v0):Int) (inR v13 ((List.length v1):Int) (bif !eqI zC (ix zbP v0 v13) (ix zbP v1 v13) then some (false,()) else k0 (v0,v1,v12,wI (v13 + 1)))) else some (true,())
abbrev zha (K:Nat):yg→Option (Bool × Unit):=zl zcI K
theorem zqC (K:Nat):∀ n,evV Es0 K Tryz.f62 0 (ch [.bool]) [1,1,0,1,0] [] zqB n = zl zcI n:=zn fun n0 (v0,v1,v12,v13)=>by kernel_rfl
def zer (L0:yg→Option (Bool × Unit)):((List z1) × ((List z1) × Unit))→Option (Bool × Unit):=fun (x0,x1,()) =>
  bif ((List.length x0):Int) != ((List.length x1):Int) then some (false,()) else L0 (x0,x1,((List.length x0):Int),0)
def zes:((List z1) × (List z1) × Unit)→Option (Bool × Unit):=zer (zha K0)
abbrev zjM:Fun:=⟨62,(ch [(.sl zC),(.sl zC)]),(ch [.bool]),0,zes⟩
theorem ztm:Sq zjM:=ml0 (d:=false) (S:=fun K=>zer (zha K)) Tryz.func62 (by kernel_rfl) (fun K=>tr1 (T:=zer) (zqC K K) fun (x0,x1,())=>by kernel_rfl) rfl
abbrev yh:Type:=(List z5) × (List z5) × Int × Int
abbrev zqD:yh→St:=fun (v0,v1,v12,v13)=>St.mk [(0,.dat (.sl zA) v0),(1,.dat (.sl zA) v1),(12,.dat tI v12),(13,.dat tI v13)] []
def zcJ (k0:yh→Option (Bool × Unit)):yh→Option (Bool × Unit):=fun (v0,v1,v12,v13) =>
  bif decide (v13 < v12) then inR v13 ((List.length v0):Int) (inR v13 ((List.length v1):Int) (bif !eqI zA (ix zcl v0 v13) (ix zcl v1 v13) then some (false,()) else k0 (v0,v1,v12,wI (v13 + 1)))) else some (true,())
abbrev zhb (K:Nat):yh→Option (Bool × Unit):=zl zcJ K
theorem zqE (K:Nat):∀ n,evV Es0 K Tryz.f63 0 (ch [.bool]) [1,1,0,1,0] [] zqD n = zl zcJ n:=zn fun n0 (v0,v1,v12,v13)=>by kernel_rfl
def zet (L0:yh→Option (Bool × Unit)):((List z5) × ((List z5) × Unit))→Option (Bool × Unit):=fun (x0,x1,()) =>
  bif ((List.length x0):Int) != ((List.length x1):Int) then some (false,()) else L0 (x0,x1,((List.length x0):Int),0)
def zeu:((List z5) × (List z5) × Unit)→Option (Bool × Unit):=zet (zhb K0)
abbrev zjN:Fun:=⟨63,(ch [(.sl zA),(.sl zA)]),(ch [.bool]),0,zeu⟩
theorem ztn:Sq zjN:=ml0 (d:=false) (S:=fun K=>zet (zhb K)) Tryz.func63 (by kernel_rfl) (fun K=>tr1 (T:=zet) (zqE K K) fun (x0,x1,())=>by kernel_rfl) rfl
abbrev yi:Type:=(List qc) × (List qc) × Int × Int
abbrev zqF:yi→St:=fun (v0,v1,v12,v13)=>St.mk [(0,.dat (.sl zF) v0),(1,.dat (.sl zF) v1),(12,.dat tI v12),(13,.dat tI v13)] []
def zcK (k0:yi→Option (Bool × Unit)):yi→Option (Bool × Unit):=fun (v0,v1,v12,v13) =>
  bif decide (v13 < v12) then inR v13 ((List.length v0):Int) (inR v13 ((List.length v1):Int) (bif !eqI zF (ix zqp v0 v13) (ix zqp v1 v13) then some (false,()) else k0 (v0,v1,v12,wI (v13 + 1)))) else some (true,())
abbrev zhc (K:Nat):yi→Option (Bool × Unit):=zl zcK K
theorem zqG (K:Nat):∀ n,evV Es0 K Tryz.f64 0 (ch [.bool]) [1,1,0,1,0] [] zqF n = zl zcK n:=zn fun n0 (v0,v1,v12,v13)=>by kernel_rfl
def zev (L0:yi→Option (Bool × Unit)):((List qc) × ((List qc) × Unit))→Option (Bool × Unit):=fun (x0,x1,()) =>
  bif ((List.length x0):Int) != ((List.length x1):Int) then some (false,()) else L0 (x0,x1,((List.length x0):Int),0)
def zew:((List qc) × (List qc) × Unit)→Option (Bool × Unit):=zev (zhc K0)
abbrev zjO:Fun:=⟨64,(ch [(.sl zF),(.sl zF)]),(ch [.bool]),0,zew⟩
theorem zto:Sq zjO:=ml0 (d:=false) (S:=fun K=>zev (zhc K)) Tryz.func64 (by kernel_rfl) (fun K=>tr1 (T:=zev) (zqG K K) fun (x0,x1,())=>by kernel_rfl) rfl
abbrev vP:Type:=(List zL) × (List zL) × Int × Int
abbrev zo2:vP→St:=fun (v0,v1,v12,v13)=>St.mk [(0,.dat (.sl zp) v0),(1,.dat (.sl zp) v1),(12,.dat tI v12),(13,.dat tI v13)] []
def zb1 (k0:vP→Option (Bool × Unit)):vP→Option (Bool × Unit):=fun (v0,v1,v12,v13) =>
  bif decide (v13 < v12) then inR v13 ((List.length v0):Int) (inR v13 ((List.length v1):Int) (bif !eqI zp (ix zb0 v0 v13) (ix zb0 v1 v13) then some (false,()) else k0 (v0,v1,v12,wI (v13 + 1)))) else some (true,())
abbrev zgo (K:Nat):vP→Option (Bool × Unit):=zl zb1 K
theorem zo3 (K:Nat):∀ n,evV Es0 K Tryz.f65 0 (ch [.bool]) [1,1,0,1,0] [] zo2 n = zl zb1 n:=zn fun n0 (v0,v1,v12,v13)=>by kernel_rfl
def zdy (L0:vP→Option (Bool × Unit)):((List zL) × ((List zL) × Unit))→Option (Bool × Unit):=fun (x0,x1,()) =>
  bif ((List.length x0):Int) != ((List.length x1):Int) then some (false,()) else L0 (x0,x1,((List.length x0):Int),0)
def zdz:((List zL) × (List zL) × Unit)→Option (Bool × Unit):=zdy (zgo K0)
abbrev zib:Fun:=⟨65,(ch [(.sl zp),(.sl zp)]),(ch [.bool]),0,zdz⟩
theorem zrS:Sq zib:=ml0 (d:=false) (S:=fun K=>zdy (zgo K)) Tryz.func65 (by kernel_rfl) (fun K=>tr1 (T:=zdy) (zo3 K K) fun (x0,x1,())=>by kernel_rfl) rfl
abbrev zag:Type:=(List (List Int)) × (List (List Int)) × Int × Int
abbrev ztp:zag→St:=fun (v0,v1,v12,v13)=>St.mk [(0,.dat (.sl (.arr 4 tU)) v0),(1,.dat (.sl (.arr 4 tU)) v1),(12,.dat tI v12),(13,.dat tI v13)] []
def zex (k0:zag→Option (Bool × Unit)):zag→Option (Bool × Unit):=fun (v0,v1,v12,v13) =>
  bif decide (v13 < v12) then inR v13 ((List.length v0):Int) (inR v13 ((List.length v1):Int) (bif !eqI (.arr 4 tU) (List.getD v0 (Int.toNat v13) (zb (.arr 4 tU))) (List.getD v1 (Int.toNat v13) (zb (.arr 4 tU))) then some (false,()) else k0 (v0,v1,v12,wI (v13 + 1)))) else some (true,())
abbrev zjP (K:Nat):zag→Option (Bool × Unit):=zl zex K
theorem ztq (K:Nat):∀ n,evV Es0 K Tryz.f66 0 (ch [.bool]) [1,1,0,1,0] [] ztp n = zl zex n:=zn fun n0 (v0,v1,v12,v13)=>by kernel_rfl
def zgP (L0:zag→Option (Bool × Unit)):((List (List Int)) × ((List (List Int)) × Unit))→Option (Bool × Unit):=fun (x0,x1,()) =>
  bif ((List.length x0):Int) != ((List.length x1):Int) then some (false,()) else L0 (x0,x1,((List.length x0):Int),0)
def zgQ:((List (List Int)) × (List (List Int)) × Unit)→Option (Bool × Unit):=zgP (zjP K0)
abbrev znk:Fun:=⟨66,(ch [(.sl (.arr 4 tU)),(.sl (.arr 4 tU))]),(ch [.bool]),0,zgQ⟩
theorem zv3:Sq znk:=ml0 (d:=false) (S:=fun K=>zgP (zjP K)) Tryz.func66 (by kernel_rfl) (fun K=>tr1 (T:=zgP) (ztq K K) fun (x0,x1,())=>by kernel_rfl) rfl
abbrev yE:Type:=(List z4) × (List z4) × Int × Int
abbrev zrT:yE→St:=fun (v0,v1,v12,v13)=>St.mk [(0,.dat (.sl qS) v0),(1,.dat (.sl qS) v1),(12,.dat tI v12),(13,.dat tI v13)] []
def zdA (k0:yE→Option (Bool × Unit)):yE→Option (Bool × Unit):=fun (v0,v1,v12,v13) =>
  bif decide (v13 < v12) then inR v13 ((List.length v0):Int) (inR v13 ((List.length v1):Int) (bif !eqI qS (ix zae v0 v13) (ix zae v1 v13) then some (false,()) else k0 (v0,v1,v12,wI (v13 + 1)))) else some (true,())
abbrev zic (K:Nat):yE→Option (Bool × Unit):=zl zdA K
theorem zrU (K:Nat):∀ n,evV Es0 K Tryz.f67 0 (ch [.bool]) [1,1,0,1,0] [] zrT n = zl zdA n:=zn fun n0 (v0,v1,v12,v13)=>by kernel_rfl
def zfR (L0:yE→Option (Bool × Unit)):((List z4) × ((List z4) × Unit))→Option (Bool × Unit):=fun (x0,x1,()) =>
  bif ((List.length x0):Int) != ((List.length x1):Int) then some (false,()) else L0 (x0,x1,((List.length x0):Int),0)
def zfS:((List zcA) × (List zcA) × Unit)→Option (Bool × Unit):=zfR (zic K0)
abbrev zlr:Fun:=⟨67,(ch [(.sl zI),(.sl zI)]),(ch [.bool]),0,zfS⟩
theorem zuI:Sq zlr:=ml0 (d:=false) (S:=fun K=>zfR (zic K)) Tryz.func67 (by kernel_rfl) (fun K=>tr1 (T:=zfR) (zrU K K) fun (x0,x1,())=>by kernel_rfl) rfl
abbrev jA:Type:=(List (List Int)) × (Option (((List Int) × ((List Int) × Unit))→Option (Bool × Unit))) × (List (List Int)) × Int × Int
abbrev zls:jA→St:=fun (v1,v2,v15,v16,v17)=>St.mk [(1,.dat (.sl (.sl tI)) v1),(2,.dat (.fn (.pair (.sl tI) (.pair (.sl tI) .unit)) (.pair .bool .unit)) v2),(15,.dat (.sl (.sl tI)) v15),(16,.dat tI v16),(17,.dat tI v17)] []
def jB (k0:jA→Option (Bool × Unit)):jA→Option (Bool × Unit):=fun (v1,v2,v15,v16,v17) =>
  bif decide (v17 < v16) then inR v17 ((List.length v15):Int) (inR v17 ((List.length v1):Int) (Option.bind v2 fun q0=>Option.bind (q0 (List.getD v15 (Int.toNat v17) ([]:List Int),List.getD v1 (Int.toNat v17) ([]:List Int),())) fun q1=>bif q1.1 then k0 (v1,v2,v15,v16,wI (v17 + 1)) else some (false,()))) else some (true,())
abbrev zdU (K:Nat):jA→Option (Bool × Unit):=zl jB K
theorem zlt (K:Nat):∀ n,evV Es0 K Tryz.f32 0 (ch [.bool]) [1,1,0,1,0] [] zls n = zl jB n:=zn fun n0 (v1,v2,v15,v16,v17)=>by kernel_rfl
def zbD (L0:jA→Option (Bool × Unit)):((List (List Int)) × ((List (List Int)) × ((Option (((List Int) × ((List Int) × Unit))→Option (Bool × Unit))) × Unit)))→Option (Bool × Unit):=fun (x0,x1,x2,()) =>
  bif ((List.length x0):Int) != ((List.length x1):Int) then some (false,()) else L0 (x1,x2,x0,((List.length x0):Int),0)
def zbE:((List (List Int)) × ((List (List Int)) × ((Option (((List Int) × (List Int) × Unit)→Option (Bool × Unit))) × Unit)))→Option (Bool × Unit):=zbD (zdU K0)
abbrev ze9:Fun:=⟨32,(ch [(.sl (.sl tI)),(.sl (.sl tI)),(.fn (ch [(.sl tI),(.sl tI)]) (ch [.bool]))]),(ch [.bool]),0,zbE⟩
theorem zn2:Sq ze9:=ml0 (d:=false) (S:=fun K=>zbD (zdU K)) Tryz.func32 (by kernel_rfl) (fun K=>tr1 (T:=zbD) (zlt K K) fun (x0,x1,x2,())=>by kernel_rfl) rfl
abbrev yF:Type:=(List Int) × (List Int) × Int × Int
abbrev zrV:yF→St:=fun (v0,v1,v12,v13)=>St.mk [(0,.dat (.sl tI) v0),(1,.dat (.sl tI) v1),(12,.dat tI v12),(13,.dat tI v13)] []
def zdB (k0:yF→Option (Bool × Unit)):yF→Option (Bool × Unit):=fun (v0,v1,v12,v13) =>
  bif decide (v13 < v12) then inR v13 ((List.length v0):Int) (inR v13 ((List.length v1):Int) (bif ix (0:Int) v0 v13 != ix (0:Int) v1 v13 then some (false,()) else k0 (v0,v1,v12,wI (v13 + 1)))) else some (true,())
abbrev zid (K:Nat):yF→Option (Bool × Unit):=zl zdB K
theorem zrW (K:Nat):∀ n,evV Es0 K Tryz.f33 0 (ch [.bool]) [1,1,0,1,0] [] zrV n = zl zdB n:=zn fun n0 (v0,v1,v12,v13)=>by kernel_rfl
def zfT (L0:yF→Option (Bool × Unit)):((List Int) × ((List Int) × Unit))→Option (Bool × Unit):=fun (x0,x1,()) =>
  bif ((List.length x0):Int) != ((List.length x1):Int) then some (false,()) else L0 (x0,x1,((List.length x0):Int),0)
def yw:((List Int) × (List Int) × Unit)→Option (Bool × Unit):=zfT (zid K0)
abbrev zlu:Fun:=⟨33,(ch [(.sl tI),(.sl tI)]),(ch [.bool]),0,yw⟩
theorem zuJ:Sq zlu:=ml0 (d:=false) (S:=fun K=>zfT (zid K)) Tryz.func33 (by kernel_rfl) (fun K=>tr1 (T:=zfT) (zrW K K) fun (x0,x1,())=>by kernel_rfl) rfl
abbrev vQ:Type:=(List zo) × (List zo) × Int × Int
abbrev zo4:vQ→St:=fun (v0,v1,v12,v13)=>St.mk [(0,.dat (.sl zf) v0),(1,.dat (.sl zf) v1),(12,.dat tI v12),(13,.dat tI v13)] []
def zb2 (k0:vQ→Option (Bool × Unit)):vQ→Option (Bool × Unit):=fun (v0,v1,v12,v13) =>
  bif decide (v13 < v12) then inR v13 ((List.length v0):Int) (inR v13 ((List.length v1):Int) (bif !eqI zf (ix qj v0 v13) (ix qj v1 v13) then some (false,()) else k0 (v0,v1,v12,wI (v13 + 1)))) else some (true,())
abbrev zgp (K:Nat):vQ→Option (Bool × Unit):=zl zb2 K
theorem zo5 (K:Nat):∀ n,evV Es0 K Tryz.f34 0 (ch [.bool]) [1,1,0,1,0] [] zo4 n = zl zb2 n:=zn fun n0 (v0,v1,v12,v13)=>by kernel_rfl
def zdC (L0:vQ→Option (Bool × Unit)):((List zo) × ((List zo) × Unit))→Option (Bool × Unit):=fun (x0,x1,()) =>
  bif ((List.length x0):Int) != ((List.length x1):Int) then some (false,()) else L0 (x0,x1,((List.length x0):Int),0)
def zdD:((List zo) × (List zo) × Unit)→Option (Bool × Unit):=zdC (zgp K0)
abbrev zie:Fun:=⟨34,(ch [(.sl zf),(.sl zf)]),(ch [.bool]),0,zdD⟩
theorem zrX:Sq zie:=ml0 (d:=false) (S:=fun K=>zdC (zgp K)) Tryz.func34 (by kernel_rfl) (fun K=>tr1 (T:=zdC) (zo5 K K) fun (x0,x1,())=>by kernel_rfl) rfl
abbrev vR:Type:=(List zr) × (List zr) × Int × Int
abbrev zo6:vR→St:=fun (v0,v1,v12,v13)=>St.mk [(0,.dat (.sl zi) v0),(1,.dat (.sl zi) v1),(12,.dat tI v12),(13,.dat tI v13)] []
def zb3 (k0:vR→Option (Bool × Unit)):vR→Option (Bool × Unit):=fun (v0,v1,v12,v13) =>
  bif decide (v13 < v12) then inR v13 ((List.length v0):Int) (inR v13 ((List.length v1):Int) (bif !eqI zi (ix zaP v0 v13) (ix zaP v1 v13) then some (false,()) else k0 (v0,v1,v12,wI (v13 + 1)))) else some (true,())
abbrev zgq (K:Nat):vR→Option (Bool × Unit):=zl zb3 K
theorem zo7 (K:Nat):∀ n,evV Es0 K Tryz.f35 0 (ch [.bool]) [1,1,0,1,0] [] zo6 n = zl zb3 n:=zn fun n0 (v0,v1,v12,v13)=>by kernel_rfl
def zdE (L0:vR→Option (Bool × Unit)):((List zr) × ((List zr) × Unit))→Option (Bool × Unit):=fun (x0,x1,()) =>
  bif ((List.length x0):Int) != ((List.length x1):Int) then some (false,()) else L0 (x0,x1,((List.length x0):Int),0)
def zdF:((List zr) × (List zr) × Unit)→Option (Bool × Unit):=zdE (zgq K0)
abbrev zif:Fun:=⟨35,(ch [(.sl zi),(.sl zi)]),(ch [.bool]),0,zdF⟩
theorem zrY:Sq zif:=ml0 (d:=false) (S:=fun K=>zdE (zgq K)) Tryz.func35 (by kernel_rfl) (fun K=>tr1 (T:=zdE) (zo7 K K) fun (x0,x1,())=>by kernel_rfl) rfl
def znl:Unit→Option (zw × Unit):=fun () =>
  some (([(0,0,()),(0,1,()),(1,1,())],[0,1,2],[(ByteArray.mk #[97,110,110],ByteArray.mk #[97],1,true,()),(ByteArray.mk #[98,111,98],ByteArray.mk #[98],0,false,())],[(0,0,())],[(2,2,2,2,2,1000,()),(2,2,2,2,2,1000,()),(2,2,2,2,2,1000,())],4,6,2,3,()),())
abbrev znm:Fun:=⟨36,.unit,(ch [zB]),0,znl⟩
theorem zv4:Sq znm:=ms0 (d:=false) (K:=0) Tryz.func36 (by kernel_rfl) (funext fun ()=>by kernel_rfl)
def znn:(zZ × Unit)→Option (Bool × Unit):=fun (x0,()) =>
  bif decide (x0.1 ≥ 0) then bif decide (x0.1 < 4) then some (true,()) else some (false,()) else some (false,())
abbrev zno:Fun:=⟨181,(ch [zG]),(ch [.bool]),0,znn⟩
theorem zv5:Sq zno:=ms0 (d:=false) (K:=0) Tryz.func181 (by kernel_rfl) (funext fun (x0,())=>by kernel_rfl)
def qa:(Int × (Int × (Int × Unit)))→Option (Bool × Unit):=fun (x0,x1,x2,()) =>
  bif decide (x0 ≥ x1) then bif decide (x0 ≤ x2) then some (true,()) else some (false,()) else some (false,())
abbrev zlv:Fun:=⟨182,(ch [tI,tI,tI]),(ch [.bool]),0,qa⟩
theorem zuK:Sq zlv:=ms0 (d:=false) (K:=0) Tryz.func182 (by kernel_rfl) (funext fun (x0,x1,x2,())=>by kernel_rfl)
abbrev jo:Type:=(List zZ) × (Option ((zZ × Unit)→Option (Bool × Unit))) × Int × Int
abbrev zkK:jo→St:=fun (v0,v1,v7,v8)=>St.mk [(0,.dat (.sl zG) v0),(1,.dat (.fn (.pair zG .unit) (.pair .bool .unit)) v1),(7,.dat tI v7),(8,.dat tI v8)] []
def zcZ (k0:jo→Option (Int × Unit)):jo→Option (Int × Unit):=fun (v0,v1,v7,v8) =>
  bif decide (v8 < v7) then inR v8 ((List.length v0):Int) (Option.bind v1 fun q0=>Option.bind (q0 (ix zcW v0 v8,())) fun q1=>bif q1.1 then some (v8,()) else k0 (v0,v1,v7,wI (v8 + 1))) else some ((-1),())
abbrev zc0 (K:Nat):jo→Option (Int × Unit):=zl zcZ K
theorem zkL (K:Nat):∀ n,evV Es0 K Tryz.f252 0 (ch [tI]) [1,0,1,0] [] zkK n = zl zcZ n:=zn fun n0 (v0,v1,v7,v8)=>by kernel_rfl
def zbo (L0:jo→Option (Int × Unit)):((List zZ) × ((Option ((zZ × Unit)→Option (Bool × Unit))) × Unit))→Option (Int × Unit):=fun (x0,x1,()) =>
  L0 (x0,x1,((List.length x0):Int),0)
def zey:((List zZ) × ((Option ((zZ × Unit)→Option (Bool × Unit))) × Unit))→Option (Int × Unit):=zbo (zc0 K0)
abbrev zez:Fun:=⟨252,(ch [(.sl zG),(.fn (ch [zG]) (ch [.bool]))]),(ch [tI]),0,zey⟩
theorem zmX:Sq zez:=ml0 (d:=false) (S:=fun K=>zbo (zc0 K)) Tryz.func252 (by kernel_rfl) (fun K=>tr1 (T:=zbo) (zkL K K) fun (x0,x1,())=>by kernel_rfl) rfl
def zbQ:(Int × Unit)→Option (Bool × Unit):=fun (x0,()) =>
  bif x0 != x0 then some (true,()) else some (false,())
abbrev zjQ:Fun:=⟨296,(ch [tI]),(ch [.bool]),0,zbQ⟩
theorem ztr:Sq zjQ:=ms0 (d:=false) (K:=0) Tryz.func296 (by kernel_rfl) (funext fun (x0,())=>by kernel_rfl)
def zah:(Int × Unit)→Option (Bool × Unit):=fun (x0,()) =>
  bif x0 != x0 then some (true,()) else some (false,())
abbrev zgr:Fun:=⟨297,(ch [tU]),(ch [.bool]),0,zah⟩
theorem zo8:Sq zgr:=ms0 (d:=false) (K:=0) Tryz.func297 (by kernel_rfl) (funext fun (x0,())=>by kernel_rfl)
abbrev za2:Type:=Int × (List Int) × Int × Int
abbrev zuL:za2→St:=fun (v3,v6,v7,v8)=>St.mk [(3,.dat tI v3),(6,.dat (.sl tI) v6),(7,.dat tI v7),(8,.dat tI v8)] []
def zlw (k0:za2→Option (Int × Unit)):za2→Option (Int × Unit):=fun (v3,v6,v7,v8) =>
  bif decide (v8 < v7) then inR v8 ((List.length v6):Int) (bif ix (0:Int) v6 v8 != v3 then some (ix (0:Int) v6 v8,()) else k0 (v3,v6,v7,wI (v8 + 1))) else some (v3,())
abbrev zlx (K:Nat):za2→Option (Int × Unit):=zl zlw K
theorem zuM (K:Nat):∀ n,evV Es0 K Tryz.f253 0 (ch [tI]) [1,1,0,1,0] [] zuL n = zl zlw n:=zn fun n0 (v3,v6,v7,v8)=>by kernel_rfl
def zig (L0:za2→Option (Int × Unit)):((List Int) × Unit)→Option (Int × Unit):=fun (x0,()) =>
  L0 (0,x0,((List.length x0):Int),0)
def zih:((List Int) × Unit)→Option (Int × Unit):=zig (zlx K0)
abbrev zo9:Fun:=⟨253,(ch [(.sl tI)]),(ch [tI]),0,zih⟩
theorem zxH:Sq zo9:=ml0 (d:=false) (S:=fun K=>zig (zlx K)) Tryz.func253 (by kernel_rfl) (fun K=>tr1 (T:=zig) (zuM K K) fun (x0,())=>by kernel_rfl) rfl
abbrev jO:Type:=(List Int) × (Option ((Int × Unit)→Option (Bool × Unit))) × Int × Int
abbrev zmY:jO→St:=fun (v0,v1,v7,v8)=>St.mk [(0,.dat (.sl tI) v0),(1,.dat (.fn (.pair tI .unit) (.pair .bool .unit)) v1),(7,.dat tI v7),(8,.dat tI v8)] []
def zeA (k0:jO→Option (Int × Unit)):jO→Option (Int × Unit):=fun (v0,v1,v7,v8) =>
  bif decide (v8 < v7) then inR v8 ((List.length v0):Int) (Option.bind v1 fun q0=>Option.bind (q0 (ix (0:Int) v0 v8,())) fun q1=>bif q1.1 then some (v8,()) else k0 (v0,v1,v7,wI (v8 + 1))) else some ((-1),())
abbrev zeB (K:Nat):jO→Option (Int × Unit):=zl zeA K
theorem zmZ (K:Nat):∀ n,evV Es0 K Tryz.f231 0 (ch [tI]) [1,0,1,0] [] zmY n = zl zeA n:=zn fun n0 (v0,v1,v7,v8)=>by kernel_rfl
def zb4 (L0:jO→Option (Int × Unit)):((List Int) × ((Option ((Int × Unit)→Option (Bool × Unit))) × Unit))→Option (Int × Unit):=fun (x0,x1,()) =>
  L0 (x0,x1,((List.length x0):Int),0)
def zgs:((List Int) × ((Option ((Int × Unit)→Option (Bool × Unit))) × Unit))→Option (Int × Unit):=zb4 (zeB K0)
abbrev zgt:Fun:=⟨231,(ch [(.sl tI),(.fn (ch [tI]) (ch [.bool]))]),(ch [tI]),0,zgs⟩
theorem zpa:Sq zgt:=ml0 (d:=false) (S:=fun K=>zb4 (zeB K)) Tryz.func231 (by kernel_rfl) (fun K=>tr1 (T:=zb4) (zmZ K K) fun (x0,x1,())=>by kernel_rfl) rfl
def zii:(Int × Unit)→Option (Bool × Unit):=fun (x0,()) =>
  bif decide (x0 ≥ 97) then bif decide (x0 ≤ 122) then some (true,()) else some (false,()) else some (false,())
abbrev zpb:Fun:=⟨256,(ch [(.int .u8)]),(ch [.bool]),0,zii⟩
theorem zxI:Sq zpb:=ms0 (d:=false) (K:=0) Tryz.func256 (by kernel_rfl) (funext fun (x0,())=>by kernel_rfl)
def zpc:(Int × ((Option (Option ((Int × Unit)→Option (Bool × Unit)))) × Unit))→Option (Bool × Unit):=fun (x0,x1,()) =>
  Option.bind x1 fun q0=>Option.bind q0 fun q1=>Option.bind (q1 (x0,())) fun q2=>bif q2.1 then some (false,()) else some (true,())
abbrev zpd:Fun:=⟨298,(ch [(.int .u8),(.ptr (.fn (ch [(.int .u8)]) (ch [.bool])))]),(ch [.bool]),0,zpc⟩
theorem zxJ:Sq zpd:=ms0 (d:=false) (K:=0) Tryz.func298 (by kernel_rfl) (funext fun (x0,x1,())=>by kernel_rfl)
abbrev jC:Type:=(List Int) × (Option ((Int × Unit)→Option (Bool × Unit))) × Int × Int
abbrev zly:jC→St:=fun (v0,v1,v7,v8)=>St.mk [(0,.dat (.sl (.int IntKind.u8)) v0),(1,.dat (.fn (.pair (.int IntKind.u8) .unit) (.pair .bool .unit)) v1),(7,.dat tI v7),(8,.dat tI v8)] []
def zdV (k0:jC→Option (Int × Unit)):jC→Option (Int × Unit):=fun (v0,v1,v7,v8) =>
  bif decide (v8 < v7) then inR v8 ((List.length v0):Int) (Option.bind v1 fun q0=>Option.bind (q0 (ix (zb (.int IntKind.u8)) v0 v8,())) fun q1=>bif q1.1 then some (v8,()) else k0 (v0,v1,v7,wI (v8 + 1))) else some ((-1),())
abbrev zdW (K:Nat):jC→Option (Int × Unit):=zl zdV K
theorem zlz (K:Nat):∀ n,evV Es0 K Tryz.f308 0 (ch [tI]) [1,0,1,0] [] zly n = zl zdV n:=zn fun n0 (v0,v1,v7,v8)=>by kernel_rfl
def zbF (L0:jC→Option (Int × Unit)):((List Int) × ((Option ((Int × Unit)→Option (Bool × Unit))) × Unit))→Option (Int × Unit):=fun (x0,x1,()) =>
  L0 (x0,x1,((List.length x0):Int),0)
def zfa:((List Int) × ((Option ((Int × Unit)→Option (Bool × Unit))) × Unit))→Option (Int × Unit):=zbF (zdW K0)
abbrev zfb:Fun:=⟨308,(ch [(.sl (.int .u8)),(.fn (ch [(.int .u8)]) (ch [.bool]))]),(ch [tI]),0,zfa⟩
theorem zn3:Sq zfb:=ml0 (d:=false) (S:=fun K=>zbF (zdW K)) Tryz.func308 (by kernel_rfl) (fun K=>tr1 (T:=zbF) (zlz K K) fun (x0,x1,())=>by kernel_rfl) rfl
def zpe:(Int × Unit)→Option (Bool × Unit):=fun (x0,()) =>
  bif decide (x0 ≥ 48) then bif decide (x0 ≤ 57) then some (true,()) else some (false,()) else some (false,())
abbrev zpf:Fun:=⟨259,(ch [(.int .u8)]),(ch [.bool]),0,zpe⟩
theorem zxK:Sq zpf:=ms0 (d:=false) (K:=0) Tryz.func259 (by kernel_rfl) (funext fun (x0,())=>by kernel_rfl)
abbrev qH:Type:=(List jM) × (Option ((jM × Unit)→Option (Bool × Unit))) × Int × Int
abbrev zij:qH→St:=fun (v0,v1,v7,v8)=>St.mk [(0,.dat (.sl qn) v0),(1,.dat (.fn (.pair qn .unit) (.pair .bool .unit)) v1),(7,.dat tI v7),(8,.dat tI v8)] []
def zb5 (k0:qH→Option (Int × Unit)):qH→Option (Int × Unit):=fun (v0,v1,v7,v8) =>
  bif decide (v8 < v7) then inR v8 ((List.length v0):Int) (Option.bind v1 fun q0=>Option.bind (q0 (ix zmV v0 v8,())) fun q1=>bif q1.1 then some (v8,()) else k0 (v0,v1,v7,wI (v8 + 1))) else some ((-1),())
abbrev zb6 (K:Nat):qH→Option (Int × Unit):=zl zb5 K
theorem zik (K:Nat):∀ n,evV Es0 K Tryz.f260 0 (ch [tI]) [1,0,1,0] [] zij n = zl zb5 n:=zn fun n0 (v0,v1,v7,v8)=>by kernel_rfl
def zay (L0:qH→Option (Int × Unit)):((List jM) × ((Option ((jM × Unit)→Option (Bool × Unit))) × Unit))→Option (Int × Unit):=fun (x0,x1,()) =>
  L0 (x0,x1,((List.length x0):Int),0)
def zc1:((List jM) × ((Option ((jM × Unit)→Option (Bool × Unit))) × Unit))→Option (Int × Unit):=zay (zb6 K0)
abbrev zc2:Fun:=⟨260,(ch [(.sl qn),(.fn (ch [qn]) (ch [.bool]))]),(ch [tI]),0,zc1⟩
theorem zkM:Sq zc2:=ml0 (d:=false) (S:=fun K=>zay (zb6 K)) Tryz.func260 (by kernel_rfl) (fun K=>tr1 (T:=zay) (zik K K) fun (x0,x1,())=>by kernel_rfl) rfl
end
end Go.Proofs.YtlklokhlgcfcdaaGreatDoor
end
section
namespace Go.Proofs.YtlklokhlgcfcdaaGreatDoor
open Go.Ev
noncomputable section
abbrev vf:Type:=(List jM) × Int × Int × List ByteArray
abbrev zn4:vf→St:=fun (v7,v8,v9,o0)=>St.mk [(3,.ow 0),(7,.dat (.sl qn) v7),(8,.dat tI v8),(9,.dat tI v9)] [.row .str o0 false]
def zfc (k0:vf→Option ((List ByteArray) × Unit)):vf→Option ((List ByteArray) × Unit):=fun (v7,v8,v9,o0) =>
  bif decide (v9 < v8) then inR v9 ((List.length v7):Int) (bif decide (List.length o0 + List.length (zj (List.replicate 1 (zb .str)) 0 (ix zmV v7 v9).1) ≤ lim) then k0 (v7,v8,wI (v9 + 1),o0 ++ zj (List.replicate 1 (zb .str)) 0 (ix zmV v7 v9).1) else none) else some (o0,())
abbrev zfd (K:Nat):vf→Option ((List ByteArray) × Unit):=zl zfc K
theorem zn5 (K:Nat):∀ n,evV Es0 K Tryz.f190 0 (ch [(.sl .str)]) [1,1,0,1,0] [] zn4 n = zl zfc n:=zn fun n0 (v7,v8,v9,o0)=>by kernel_rfl
def zcL (L0:vf→Option ((List ByteArray) × Unit)):(zw × Unit)→Option ((List ByteArray) × Unit):=fun (x0,()) =>
  L0 (x0.2.2.1,((List.length x0.2.2.1):Int),0,[])
def zhd:(zw × Unit)→Option ((List ByteArray) × Unit):=zcL (zfd K0)
abbrev zhe:Fun:=⟨190,(ch [zB]),(ch [(.sl .str)]),0,zhd⟩
theorem zqH:Sq zhe:=ml0 (d:=false) (S:=fun K=>zcL (zfd K)) Tryz.func190 (by kernel_rfl) (fun K=>tr1 (T:=zcL) (zn5 K K) fun (x0,())=>by kernel_rfl) rfl
abbrev za3:Type:=(List ByteArray) × (List ByteArray) × Int × Int × List (ByteArray × Int)
abbrev zuN:za3→St:=fun (v0,v7,v8,v9,o0)=>St.mk [(0,.dat (.sl .str) v0),(3,.om 0),(7,.dat (.sl .str) v7),(8,.dat tI v8),(9,.dat tI v9)] [.mp .str tI o0]
def zlA (k0:za3→Option (Bool × Unit)):za3→Option (Bool × Unit):=fun (v0,v7,v8,v9,o0) =>
  bif decide (v9 < v8) then inR v9 ((List.length v7):Int) (k0 (v0,v7,v8,wI (v9 + 1),zcz .str o0 (List.getD v7 (Int.toNat v9) (zb .str)) (wI (zdt .str (0:Int) o0 (List.getD v7 (Int.toNat v9) (zb .str)) + 1)))) else bif ((List.length o0):Int) == ((List.length v0):Int) then some (true,()) else some (false,())
abbrev zlB (K:Nat):za3→Option (Bool × Unit):=zl zlA K
theorem zuO (K:Nat):∀ n,evV Es0 K Tryz.f189 0 (ch [.bool]) [1,1,0,1,0] [] zuN n = zl zlA n:=zn fun n0 (v0,v7,v8,v9,o0)=>by kernel_rfl
def zil (L0:za3→Option (Bool × Unit)):((List ByteArray) × Unit)→Option (Bool × Unit):=fun (x0,()) =>
  L0 (x0,x0,((List.length x0):Int),0,[])
def zpg:((List ByteArray) × Unit)→Option (Bool × Unit):=zil (zlB K0)
abbrev zph:Fun:=⟨189,(ch [(.sl .str)]),(ch [.bool]),0,zpg⟩
theorem zxL:Sq zph:=ml0 (d:=false) (S:=fun K=>zil (zlB K)) Tryz.func189 (by kernel_rfl) (fun K=>tr1 (T:=zil) (zuO K K) fun (x0,())=>by kernel_rfl) rfl
def zpi:(Int × Unit)→Option (zZ × (Int × Unit)):=fun (x0,()) =>
  bif decide (x0 < 0) then some ((0,0,()),1,()) else bif decide (x0 ≥ 64) then some ((0,0,()),1,()) else bif decide (x0 < 0) then none else some ((0,wU (1 * 2 ^ min (Int.toNat x0) (IntKind.bits IntKind.u64)),()),0,())
abbrev zpj:Fun:=⟨191,(ch [tI]),(ch [zG,tI]),0,zpi⟩
theorem zxM:Sq zpj:=ms0 (d:=false) (K:=0) Tryz.func191 (by kernel_rfl) (funext fun (x0,())=>by kernel_rfl)
abbrev vS:Type:=(List zZ) × Int × Int × zZ
abbrev zpk:vS→St:=fun (v0,v7,v8,o0)=>St.mk [(0,.dat (.sl zG) v0),(3,.bp 0 []),(7,.dat tI v7),(8,.dat tI v8)] [.bx (.dat zG o0) false]
def zgu (k0:vS→Option (Int × Unit)):vS→Option (Int × Unit):=fun (v0,v7,v8,o0) =>
  bif decide (v8 < v7) then inR v8 ((List.length v0):Int) (bif eqI zG o0 (ix zcW v0 v8) then some (v8,()) else k0 (v0,v7,wI (v8 + 1),o0)) else some ((-1),())
abbrev zgv (K:Nat):vS→Option (Int × Unit):=zl zgu K
theorem zpl (K:Nat):∀ n,evV Es0 K Tryz.f261 0 (ch [tI]) [1,0,1,0] [] zpk n = zl zgu n:=zn fun n0 (v0,v7,v8,o0)=>by kernel_rfl
def zdG (L0:vS→Option (Int × Unit)):((List zZ) × (zZ × Unit))→Option (Int × Unit):=fun (x0,x1,()) =>
  L0 (x0,((List.length x0):Int),0,x1)
def zim:((List zZ) × zZ × Unit)→Option (Int × Unit):=zdG (zgv K0)
abbrev zin:Fun:=⟨261,(ch [(.sl zG),zG]),(ch [tI]),0,zim⟩
theorem zrZ:Sq zin:=ml0 (d:=false) (S:=fun K=>zdG (zgv K)) Tryz.func261 (by kernel_rfl) (fun K=>tr1 (T:=zdG) (zpl K K) fun (x0,x1,())=>by kernel_rfl) rfl
def zio:(zZ × ((Option Int) × Unit))→Option (Bool × Unit):=fun (x0,x1,()) =>
  Option.bind x1 fun q0=>bif wU (↑(BitVec.toNat (BitVec.ofInt (IntKind.bits IntKind.u64) x0.2.1 &&& ~~~BitVec.ofInt (IntKind.bits IntKind.u64) q0)):Int) != 0 then some (true,()) else some (false,())
abbrev ziq:Fun:=⟨193,(ch [zG,(.ptr tU)]),(ch [.bool]),0,zio⟩
theorem zr0:Sq ziq:=ms0 (d:=false) (K:=0) Tryz.func193 (by kernel_rfl) (funext fun (x0,x1,())=>by kernel_rfl)
def zjR:(zcV × Unit)→Option ((List Int) × Unit):=fun (x0,()) =>
  some ([x0.1,x0.2.1,x0.2.2.1,x0.2.2.2.1,x0.2.2.2.2.1],())
abbrev zjS:Fun:=⟨195,(ch [zbw]),(ch [(.sl tI)]),0,zjR⟩
theorem zts:Sq zjS:=ms0 (d:=false) (K:=0) Tryz.func195 (by kernel_rfl) (funext fun (x0,())=>by kernel_rfl)
def znp:(zw × (zcV × Unit))→Option (zh × Unit):=fun (x0,x1,()) =>
  bif decide (0 ≤ x1.1) then bif decide (x1.1 ≤ x1.1) then bif decide (x1.1 ≤ (↑lim:Int)) then bif decide (0 ≤ x1.2.1) then bif decide (x1.2.1 ≤ x1.2.1) then bif decide (x1.2.1 ≤ (↑lim:Int)) then bif decide (0 ≤ x1.2.2.1) then bif decide (x1.2.2.1 ≤ x1.2.2.1) then bif decide (x1.2.2.1 ≤ (↑lim:Int)) then bif decide (0 ≤ x1.2.2.2.1) then bif decide (x1.2.2.2.1 ≤ x1.2.2.2.1) then bif decide (x1.2.2.2.1 ≤ (↑lim:Int)) then bif decide (0 ≤ x1.2.2.2.2.1) then bif decide (x1.2.2.2.2.1 ≤ x1.2.2.2.2.1) then bif decide (x1.2.2.2.2.1 ≤ (↑lim:Int)) then bif decide (((List.length x0.2.2.1):Int) ≤ ((List.length x0.2.2.1):Int)) then bif decide (((List.length x0.2.2.1):Int) ≤ (↑lim:Int)) then bif decide (((List.length x0.2.2.1):Int) ≤ ((List.length x0.2.2.1):Int)) then bif decide (((List.length x0.2.2.1):Int) ≤ (↑lim:Int)) then some ((List.replicate (Int.toNat x1.1) (zb zJ),List.replicate (Int.toNat x1.2.1) (zb zC),List.replicate (Int.toNat x1.2.2.1) (zb zA),List.replicate (Int.toNat x1.2.2.2.1) (zb zF),List.replicate (Int.toNat x1.2.2.2.2.1) (zb zp),List.replicate (Int.toNat ((List.length x0.2.2.1):Int)) (zb (.arr 4 tU)),List.replicate (Int.toNat ((List.length x0.2.2.1):Int)) (zb zI),[0,0,0,0],[0,0,0,0],()),()) else none else none else none else none else none else none else none else none else none else none else none else none else none else none else none else none else none else none else none
abbrev znq:Fun:=⟨70,(ch [zB,zbw]),(ch [ze]),3,znp⟩
theorem zv6:Sq znq:=ms0 (d:=true) (K:=0) Tryz.func70 (by kernel_rfl) (funext fun (x0,x1,())=>by kernel_rfl)
def zfe:(zh × ((Option (Option ((zh × Unit)→Option (Bool × Unit)))) × Unit))→Option (Bool × Unit):=fun (x0,x1,()) =>
  Option.bind x1 fun q0=>Option.bind q0 fun q1=>Option.bind (q1 (x0,())) fun q2=>bif q2.1 then some (false,()) else some (true,())
abbrev zff:Fun:=⟨197,(ch [ze,(.ptr (.fn (ch [ze]) (ch [.bool])))]),(ch [.bool]),0,zfe⟩
theorem zn6:Sq zff:=ms0 (d:=false) (K:=0) Tryz.func197 (by kernel_rfl) (funext fun (x0,x1,())=>by kernel_rfl)
abbrev jp:Type:=(List zh) × (Option ((zh × Unit)→Option (Bool × Unit))) × Int × Int
abbrev zkN:jp→St:=fun (v0,v1,v7,v8)=>St.mk [(0,.dat (.sl ze) v0),(1,.dat (.fn (.pair ze .unit) (.pair .bool .unit)) v1),(7,.dat tI v7),(8,.dat tI v8)] []
def zc3 (k0:jp→Option (Int × Unit)):jp→Option (Int × Unit):=fun (v0,v1,v7,v8) =>
  bif decide (v8 < v7) then inR v8 ((List.length v0):Int) (Option.bind v1 fun q0=>Option.bind (q0 (ix za v0 v8,())) fun q1=>bif q1.1 then some (v8,()) else k0 (v0,v1,v7,wI (v8 + 1))) else some ((-1),())
abbrev zc4 (K:Nat):jp→Option (Int × Unit):=zl zc3 K
theorem zkO (K:Nat):∀ n,evV Es0 K Tryz.f262 0 (ch [tI]) [1,0,1,0] [] zkN n = zl zc3 n:=zn fun n0 (v0,v1,v7,v8)=>by kernel_rfl
def zbp (L0:jp→Option (Int × Unit)):((List zh) × ((Option ((zh × Unit)→Option (Bool × Unit))) × Unit))→Option (Int × Unit):=fun (x0,x1,()) =>
  L0 (x0,x1,((List.length x0):Int),0)
def zeC:((List zh) × ((Option ((zh × Unit)→Option (Bool × Unit))) × Unit))→Option (Int × Unit):=zbp (zc4 K0)
abbrev zeD:Fun:=⟨262,(ch [(.sl ze),(.fn (ch [ze]) (ch [.bool]))]),(ch [tI]),0,zeC⟩
theorem zm0:Sq zeD:=ml0 (d:=false) (S:=fun K=>zbp (zc4 K)) Tryz.func262 (by kernel_rfl) (fun K=>tr1 (T:=zbp) (zkO K K) fun (x0,x1,())=>by kernel_rfl) rfl
abbrev jD:Type:=(List qr) × (Option ((qr × Unit)→Option (Bool × Unit))) × Int × Int
abbrev zlC:jD→St:=fun (v0,v1,v7,v8)=>St.mk [(0,.dat (.sl zJ) v0),(1,.dat (.fn (.pair zJ .unit) (.pair .bool .unit)) v1),(7,.dat tI v7),(8,.dat tI v8)] []
def zdX (k0:jD→Option (Int × Unit)):jD→Option (Int × Unit):=fun (v0,v1,v7,v8) =>
  bif decide (v8 < v7) then inR v8 ((List.length v0):Int) (Option.bind v1 fun q0=>Option.bind (q0 (ix zeh v0 v8,())) fun q1=>bif q1.1 then some (v8,()) else k0 (v0,v1,v7,wI (v8 + 1))) else some ((-1),())
abbrev zdY (K:Nat):jD→Option (Int × Unit):=zl zdX K
theorem zlD (K:Nat):∀ n,evV Es0 K Tryz.f263 0 (ch [tI]) [1,0,1,0] [] zlC n = zl zdX n:=zn fun n0 (v0,v1,v7,v8)=>by kernel_rfl
def zbG (L0:jD→Option (Int × Unit)):((List qr) × ((Option ((qr × Unit)→Option (Bool × Unit))) × Unit))→Option (Int × Unit):=fun (x0,x1,()) =>
  L0 (x0,x1,((List.length x0):Int),0)
def zfg:((List qr) × ((Option ((qr × Unit)→Option (Bool × Unit))) × Unit))→Option (Int × Unit):=zbG (zdY K0)
abbrev zfh:Fun:=⟨263,(ch [(.sl zJ),(.fn (ch [zJ]) (ch [.bool]))]),(ch [tI]),0,zfg⟩
theorem zn7:Sq zfh:=ml0 (d:=false) (S:=fun K=>zbG (zdY K)) Tryz.func263 (by kernel_rfl) (fun K=>tr1 (T:=zbG) (zlD K K) fun (x0,x1,())=>by kernel_rfl) rfl
def zir:(z4 × Unit)→Option (Bool × Unit):=fun (x0,()) =>
  bif decide (x0.1 ≥ 0) then bif decide (x0.1 ≤ 127) then bif decide (x0.2.1 ≥ 0) then bif decide (x0.2.1 ≤ 127) then some (true,()) else some (false,()) else some (false,()) else some (false,()) else some (false,())
abbrev zpm:Fun:=⟨264,(ch [zI]),(ch [.bool]),0,zir⟩
theorem zxN:Sq zpm:=ms0 (d:=false) (K:=0) Tryz.func264 (by kernel_rfl) (funext fun (x0,())=>by kernel_rfl)
def zpn:(Int × Unit)→Option (Bool × Unit):=fun (x0,()) =>
  bif decide (x0 ≥ 0) then bif decide (x0 < 6) then some (true,()) else some (false,()) else some (false,())
abbrev zpo:Fun:=⟨265,(ch [tI]),(ch [.bool]),0,zpn⟩
theorem zxO:Sq zpo:=ms0 (d:=false) (K:=0) Tryz.func265 (by kernel_rfl) (funext fun (x0,())=>by kernel_rfl)
def zlE:(z1 × ((Option z4) × ((Option Int) × Unit)))→Option (Bool × Unit):=fun (x0,x1,x2,()) =>
  bif x0.1 then Option.bind x1 fun q0=>bif eqI zI x0.2.1 q0 then Option.bind x2 fun q1=>bif x0.2.2.2.1 == q1 then some (true,()) else some (false,()) else some (false,()) else some (false,())
abbrev zlF:Fun:=⟨267,(ch [zC,(.ptr zI),(.ptr tI)]),(ch [.bool]),0,zlE⟩
theorem zuP:Sq zlF:=ms0 (d:=false) (K:=0) Tryz.func267 (by kernel_rfl) (funext fun (x0,x1,x2,())=>by kernel_rfl)
abbrev jE:Type:=(List z1) × (Option ((z1 × Unit)→Option (Bool × Unit))) × Int × Int
abbrev zlG:jE→St:=fun (v0,v1,v7,v8)=>St.mk [(0,.dat (.sl zC) v0),(1,.dat (.fn (.pair zC .unit) (.pair .bool .unit)) v1),(7,.dat tI v7),(8,.dat tI v8)] []
def zdZ (k0:jE→Option (Int × Unit)):jE→Option (Int × Unit):=fun (v0,v1,v7,v8) =>
  bif decide (v8 < v7) then inR v8 ((List.length v0):Int) (Option.bind v1 fun q0=>Option.bind (q0 (ix zbP v0 v8,())) fun q1=>bif q1.1 then some (v8,()) else k0 (v0,v1,v7,wI (v8 + 1))) else some ((-1),())
abbrev zd0 (K:Nat):jE→Option (Int × Unit):=zl zdZ K
theorem zlH (K:Nat):∀ n,evV Es0 K Tryz.f266 0 (ch [tI]) [1,0,1,0] [] zlG n = zl zdZ n:=zn fun n0 (v0,v1,v7,v8)=>by kernel_rfl
def zbH (L0:jE→Option (Int × Unit)):((List z1) × ((Option ((z1 × Unit)→Option (Bool × Unit))) × Unit))→Option (Int × Unit):=fun (x0,x1,()) =>
  L0 (x0,x1,((List.length x0):Int),0)
def zbI:((List z1) × ((Option ((z1 × Unit)→Option (Bool × Unit))) × Unit))→Option (Int × Unit):=zbH (zd0 K0)
abbrev zfi:Fun:=⟨266,(ch [(.sl zC),(.fn (ch [zC]) (ch [.bool]))]),(ch [tI]),0,zbI⟩
theorem zn8:Sq zfi:=ml0 (d:=false) (S:=fun K=>zbH (zd0 K)) Tryz.func266 (by kernel_rfl) (fun K=>tr1 (T:=zbH) (zlH K K) fun (x0,x1,())=>by kernel_rfl) rfl
abbrev jF:Type:=(List z5) × (Option ((z5 × Unit)→Option (Bool × Unit))) × Int × Int
abbrev zlI:jF→St:=fun (v0,v1,v7,v8)=>St.mk [(0,.dat (.sl zA) v0),(1,.dat (.fn (.pair zA .unit) (.pair .bool .unit)) v1),(7,.dat tI v7),(8,.dat tI v8)] []
def zd1 (k0:jF→Option (Int × Unit)):jF→Option (Int × Unit):=fun (v0,v1,v7,v8) =>
  bif decide (v8 < v7) then inR v8 ((List.length v0):Int) (Option.bind v1 fun q0=>Option.bind (q0 (ix zcl v0 v8,())) fun q1=>bif q1.1 then some (v8,()) else k0 (v0,v1,v7,wI (v8 + 1))) else some ((-1),())
abbrev zd2 (K:Nat):jF→Option (Int × Unit):=zl zd1 K
theorem zlJ (K:Nat):∀ n,evV Es0 K Tryz.f268 0 (ch [tI]) [1,0,1,0] [] zlI n = zl zd1 n:=zn fun n0 (v0,v1,v7,v8)=>by kernel_rfl
def zbJ (L0:jF→Option (Int × Unit)):((List z5) × ((Option ((z5 × Unit)→Option (Bool × Unit))) × Unit))→Option (Int × Unit):=fun (x0,x1,()) =>
  L0 (x0,x1,((List.length x0):Int),0)
def zfj:((List z5) × ((Option ((z5 × Unit)→Option (Bool × Unit))) × Unit))→Option (Int × Unit):=zbJ (zd2 K0)
abbrev zfk:Fun:=⟨268,(ch [(.sl zA),(.fn (ch [zA]) (ch [.bool]))]),(ch [tI]),0,zfj⟩
theorem zn9:Sq zfk:=ml0 (d:=false) (S:=fun K=>zbJ (zd2 K)) Tryz.func268 (by kernel_rfl) (fun K=>tr1 (T:=zbJ) (zlJ K K) fun (x0,x1,())=>by kernel_rfl) rfl
def ztt:(z5 × Unit)→Option (zzt × Unit):=fun (x0,()) =>
  some (x0.2.2,())
abbrev ztu:Fun:=⟨269,(ch [zA]),(ch [zqr]),0,ztt⟩
theorem zAb:Sq ztu:=ms0 (d:=false) (K:=0) Tryz.func269 (by kernel_rfl) (funext fun (x0,())=>by kernel_rfl)
def zeE:(Int × Unit)→Option (Bool × Unit):=fun (x0,()) =>
  bif decide (x0 ≥ 0) then bif decide (x0 ≤ 127) then some (true,()) else some (false,()) else some (false,())
abbrev ztv:Fun:=⟨300,(ch [tI]),(ch [.bool]),0,zeE⟩
theorem zAc:Sq ztv:=ms0 (d:=false) (K:=0) Tryz.func300 (by kernel_rfl) (funext fun (x0,())=>by kernel_rfl)
abbrev jG:Type:=(List qc) × (Option ((qc × Unit)→Option (Bool × Unit))) × Int × Int
abbrev zlK:jG→St:=fun (v0,v1,v7,v8)=>St.mk [(0,.dat (.sl zF) v0),(1,.dat (.fn (.pair zF .unit) (.pair .bool .unit)) v1),(7,.dat tI v7),(8,.dat tI v8)] []
def zd3 (k0:jG→Option (Int × Unit)):jG→Option (Int × Unit):=fun (v0,v1,v7,v8) =>
  bif decide (v8 < v7) then inR v8 ((List.length v0):Int) (Option.bind v1 fun q0=>Option.bind (q0 (ix zqp v0 v8,())) fun q1=>bif q1.1 then some (v8,()) else k0 (v0,v1,v7,wI (v8 + 1))) else some ((-1),())
abbrev zd4 (K:Nat):jG→Option (Int × Unit):=zl zd3 K
theorem zlL (K:Nat):∀ n,evV Es0 K Tryz.f271 0 (ch [tI]) [1,0,1,0] [] zlK n = zl zd3 n:=zn fun n0 (v0,v1,v7,v8)=>by kernel_rfl
def zbK (L0:jG→Option (Int × Unit)):((List qc) × ((Option ((qc × Unit)→Option (Bool × Unit))) × Unit))→Option (Int × Unit):=fun (x0,x1,()) =>
  L0 (x0,x1,((List.length x0):Int),0)
def zfl:((List qc) × ((Option ((qc × Unit)→Option (Bool × Unit))) × Unit))→Option (Int × Unit):=zbK (zd4 K0)
abbrev zfm:Fun:=⟨271,(ch [(.sl zF),(.fn (ch [zF]) (ch [.bool]))]),(ch [tI]),0,zfl⟩
theorem zoa:Sq zfm:=ml0 (d:=false) (S:=fun K=>zbK (zd4 K)) Tryz.func271 (by kernel_rfl) (fun K=>tr1 (T:=zbK) (zlL K K) fun (x0,x1,())=>by kernel_rfl) rfl
def zjT:(Int × Unit)→Option (Bool × Unit):=fun (x0,()) =>
  bif decide (x0 ≥ 0) then bif decide (x0 ≤ 127) then some (true,()) else some (false,()) else some (false,())
abbrev zvM:Fun:=⟨301,(ch [tI]),(ch [.bool]),0,zjT⟩
theorem zBl:Sq zvM:=ms0 (d:=false) (K:=0) Tryz.func301 (by kernel_rfl) (funext fun (x0,())=>by kernel_rfl)
def zpp:(Int × Unit)→Option (Bool × Unit):=fun (x0,()) =>
  bif decide (x0 ≥ 32) then bif decide (x0 ≤ 126) then some (true,()) else some (false,()) else some (false,())
abbrev zpq:Fun:=⟨302,(ch [(.int .u8)]),(ch [.bool]),0,zpp⟩
theorem zxP:Sq zpq:=ms0 (d:=false) (K:=0) Tryz.func302 (by kernel_rfl) (funext fun (x0,())=>by kernel_rfl)
abbrev qz:Type:=ByteArray × Int
abbrev zhD:qz→St:=fun (v0,v1)=>St.mk [(0,.dat .str v0),(1,.dat (.int IntKind.u8) v1)] []
def zbR (k0:qz→Option (ByteArray × Unit)):qz→Option (ByteArray × Unit):=fun (v0,v1) =>
  bif decide ((↑(ByteArray.size v0):Int) > 0) then inR (wI ((↑(ByteArray.size v0):Int) - 1)) (↑(ByteArray.size v0):Int) (bif (↑(UInt8.toNat (List.getD (Array.toList (ByteArray.data v0)) (Int.toNat (wI ((↑(ByteArray.size v0):Int) - 1))) 0)):Int) == v1 then bif decide (0 ≤ wI ((↑(ByteArray.size v0):Int) - 1)) then bif decide (wI ((↑(ByteArray.size v0):Int) - 1) ≤ (↑(ByteArray.size v0):Int)) then k0 (ByteArray.extract v0 0 (Int.toNat (wI ((↑(ByteArray.size v0):Int) - 1))),v1) else none else none else some (v0,())) else some (v0,())
abbrev zbS (K:Nat):qz→Option (ByteArray × Unit):=zl zbR K
theorem zhE (K:Nat):∀ n,evV Es0 K Tryz.f310 0 (ch [.str]) [1,0,0] [] zhD n = zl zbR n:=zn fun n0 (v0,v1)=>by kernel_rfl
def yX (L0:qz→Option (ByteArray × Unit)):(ByteArray × (Int × Unit))→Option (ByteArray × Unit):=fun (x0,x1,()) =>
  L0 (x0,x1)
def zcp:(ByteArray × Int × Unit)→Option (ByteArray × Unit):=yX (zbS K0)
abbrev zcq:Fun:=⟨310,(ch [.str,(.int .u8)]),(ch [.str]),0,zcp⟩
theorem zjh:Sq zcq:=ml0 (d:=false) (S:=fun K=>yX (zbS K)) Tryz.func310 (by kernel_rfl) (fun K=>tr1 (T:=yX) (zhE K K) fun (x0,x1,())=>by kernel_rfl) rfl
abbrev qI:Type:=ByteArray × Int
abbrev zis:qI→St:=fun (v0,v1)=>St.mk [(0,.dat .str v0),(1,.dat (.int IntKind.u8) v1)] []
def zb7 (k0:qI→Option (ByteArray × Unit)):qI→Option (ByteArray × Unit):=fun (v0,v1) =>
  bif decide ((↑(ByteArray.size v0):Int) > 0) then bif decide (0 < (↑(ByteArray.size v0):Int)) then bif (↑(UInt8.toNat (List.getD (Array.toList (ByteArray.data v0)) (Int.toNat 0) 0)):Int) == v1 then bif decide (1 ≤ (↑(ByteArray.size v0):Int)) then k0 (ByteArray.extract v0 (Int.toNat 1) (ByteArray.size v0),v1) else none else some (v0,()) else none else some (v0,())
abbrev zb8 (K:Nat):qI→Option (ByteArray × Unit):=zl zb7 K
theorem zit (K:Nat):∀ n,evV Es0 K Tryz.f309 0 (ch [.str]) [1,0,0] [] zis n = zl zb7 n:=zn fun n0 (v0,v1)=>by kernel_rfl
def zaz (L0:qI→Option (ByteArray × Unit)):(ByteArray × (Int × Unit))→Option (ByteArray × Unit):=fun (x0,x1,()) =>
  L0 (x0,x1)
def zc5:(ByteArray × Int × Unit)→Option (ByteArray × Unit):=zaz (zb8 K0)
abbrev zc6:Fun:=⟨309,(ch [.str,(.int .u8)]),(ch [.str]),0,zc5⟩
theorem zkP:Sq zc6:=ml0 (d:=false) (S:=fun K=>zaz (zb8 K)) Tryz.func309 (by kernel_rfl) (fun K=>tr1 (T:=zaz) (zit K K) fun (x0,x1,())=>by kernel_rfl) rfl
abbrev jq:Type:=(List zL) × (Option ((zL × Unit)→Option (Bool × Unit))) × Int × Int
abbrev zkQ:jq→St:=fun (v0,v1,v7,v8)=>St.mk [(0,.dat (.sl zp) v0),(1,.dat (.fn (.pair zp .unit) (.pair .bool .unit)) v1),(7,.dat tI v7),(8,.dat tI v8)] []
def zc7 (k0:jq→Option (Int × Unit)):jq→Option (Int × Unit):=fun (v0,v1,v7,v8) =>
  bif decide (v8 < v7) then inR v8 ((List.length v0):Int) (Option.bind v1 fun q0=>Option.bind (q0 (ix zb0 v0 v8,())) fun q1=>bif q1.1 then some (v8,()) else k0 (v0,v1,v7,wI (v8 + 1))) else some ((-1),())
abbrev zc8 (K:Nat):jq→Option (Int × Unit):=zl zc7 K
theorem zkR (K:Nat):∀ n,evV Es0 K Tryz.f274 0 (ch [tI]) [1,0,1,0] [] zkQ n = zl zc7 n:=zn fun n0 (v0,v1,v7,v8)=>by kernel_rfl
def zbq (L0:jq→Option (Int × Unit)):((List zL) × ((Option ((zL × Unit)→Option (Bool × Unit))) × Unit))→Option (Int × Unit):=fun (x0,x1,()) =>
  L0 (x0,x1,((List.length x0):Int),0)
def zeF:((List zL) × ((Option ((zL × Unit)→Option (Bool × Unit))) × Unit))→Option (Int × Unit):=zbq (zc8 K0)
abbrev zeG:Fun:=⟨274,(ch [(.sl zp),(.fn (ch [zp]) (ch [.bool]))]),(ch [tI]),0,zeF⟩
theorem zm1:Sq zeG:=ml0 (d:=false) (S:=fun K=>zbq (zc8 K)) Tryz.func274 (by kernel_rfl) (fun K=>tr1 (T:=zbq) (zkR K K) fun (x0,x1,())=>by kernel_rfl) rfl
def zhF:(Int × Unit)→Option (Bool × Unit):=fun (x0,()) =>
  bif decide (x0 ≥ 0) then bif decide (x0 ≤ 127) then some (true,()) else some (false,()) else some (false,())
abbrev ztw:Fun:=⟨275,(ch [tI]),(ch [.bool]),0,zhF⟩
theorem zAd:Sq ztw:=ms0 (d:=false) (K:=0) Tryz.func275 (by kernel_rfl) (funext fun (x0,())=>by kernel_rfl)
def jt:(Int × Unit)→Option (Bool × Unit):=fun (x0,()) =>
  bif decide (x0 ≥ 0) then bif decide (x0 < 4) then some (true,()) else some (false,()) else some (false,())
abbrev zpr:Fun:=⟨79,(ch [tI]),(ch [.bool]),0,jt⟩
theorem zxQ:Sq zpr:=ms0 (d:=false) (K:=0) Tryz.func79 (by kernel_rfl) (funext fun (x0,())=>by kernel_rfl)
def ziu:(zqq × Unit)→Option (Bool × Unit):=fun (x0,()) =>
  bif eqI zei x0 (x0.1,(zb zei).2.1,-1,(zb zei).2.2.2) then some (true,()) else some (false,())
abbrev zps:Fun:=⟨277,(ch [zei]),(ch [.bool]),0,ziu⟩
theorem zxR:Sq zps:=ms0 (d:=false) (K:=0) Tryz.func277 (by kernel_rfl) (funext fun (x0,())=>by kernel_rfl)
def zlM:(Int × Unit)→Option (Bool × Unit):=fun (x0,()) =>
  bif decide (x0 < 0) then some (true,()) else bif decide (x0 > 2) then some (true,()) else some (false,())
abbrev zlN:Fun:=⟨209,(ch [tI]),(ch [.bool]),0,zlM⟩
theorem zuQ:Sq zlN:=ms0 (d:=false) (K:=0) Tryz.func209 (by kernel_rfl) (funext fun (x0,())=>by kernel_rfl)
def zhf:(Int × (Int × Unit))→Option (Int × (Int × Unit)):=fun (x0,x1,()) =>
  some (wU (wU (wU (Int.fdiv x0 (2 ^ min (Int.toNat 32) (IntKind.bits IntKind.u64)) * Int.fdiv x1 (2 ^ min (Int.toNat 32) (IntKind.bits IntKind.u64))) + Int.fdiv (wU (wU (Int.fdiv x0 (2 ^ min (Int.toNat 32) (IntKind.bits IntKind.u64)) * wU (↑(BitVec.toNat (BitVec.ofInt (IntKind.bits IntKind.u64) x1 &&& BitVec.ofInt (IntKind.bits IntKind.u64) 4294967295)):Int)) + Int.fdiv (wU (wU (↑(BitVec.toNat (BitVec.ofInt (IntKind.bits IntKind.u64) x0 &&& BitVec.ofInt (IntKind.bits IntKind.u64) 4294967295)):Int) * wU (↑(BitVec.toNat (BitVec.ofInt (IntKind.bits IntKind.u64) x1 &&& BitVec.ofInt (IntKind.bits IntKind.u64) 4294967295)):Int))) (2 ^ min (Int.toNat 32) (IntKind.bits IntKind.u64)))) (2 ^ min (Int.toNat 32) (IntKind.bits IntKind.u64))) + Int.fdiv (wU (wU (↑(BitVec.toNat (BitVec.ofInt (IntKind.bits IntKind.u64) (wU (wU (Int.fdiv x0 (2 ^ min (Int.toNat 32) (IntKind.bits IntKind.u64)) * wU (↑(BitVec.toNat (BitVec.ofInt (IntKind.bits IntKind.u64) x1 &&& BitVec.ofInt (IntKind.bits IntKind.u64) 4294967295)):Int)) + Int.fdiv (wU (wU (↑(BitVec.toNat (BitVec.ofInt (IntKind.bits IntKind.u64) x0 &&& BitVec.ofInt (IntKind.bits IntKind.u64) 4294967295)):Int) * wU (↑(BitVec.toNat (BitVec.ofInt (IntKind.bits IntKind.u64) x1 &&& BitVec.ofInt (IntKind.bits IntKind.u64) 4294967295)):Int))) (2 ^ min (Int.toNat 32) (IntKind.bits IntKind.u64)))) &&& BitVec.ofInt (IntKind.bits IntKind.u64) 4294967295)):Int) + wU (wU (↑(BitVec.toNat (BitVec.ofInt (IntKind.bits IntKind.u64) x0 &&& BitVec.ofInt (IntKind.bits IntKind.u64) 4294967295)):Int) * Int.fdiv x1 (2 ^ min (Int.toNat 32) (IntKind.bits IntKind.u64))))) (2 ^ min (Int.toNat 32) (IntKind.bits IntKind.u64))),wU (x0 * x1),())
abbrev zhg:Fun:=⟨316,(ch [tU,tU]),(ch [tU,tU]),0,zhf⟩
theorem zqI:Sq zhg:=ms0 (d:=false) (K:=0) Tryz.func316 (by kernel_rfl) (funext fun (x0,x1,())=>by kernel_rfl)
def zpt:(Int × Unit)→Option (Bool × Unit):=fun (x0,()) =>
  bif decide (x0 ≥ 0) then bif decide (x0 ≤ 127) then some (true,()) else some (false,()) else some (false,())
abbrev zvN:Fun:=⟨279,(ch [tI]),(ch [.bool]),0,zpt⟩
theorem zBm:Sq zvN:=ms0 (d:=false) (K:=0) Tryz.func279 (by kernel_rfl) (funext fun (x0,())=>by kernel_rfl)
def zeH:(Int × Unit)→Option (Bool × Unit):=fun (x0,()) =>
  bif decide (x0 ≥ 0) then bif decide (x0 ≤ 127) then some (true,()) else some (false,()) else some (false,())
abbrev ztx:Fun:=⟨280,(ch [tI]),(ch [.bool]),0,zeH⟩
theorem zAe:Sq ztx:=ms0 (d:=false) (K:=0) Tryz.func280 (by kernel_rfl) (funext fun (x0,())=>by kernel_rfl)
def zdp:(zm × (z4 × Unit))→Option (Bool × Unit):=fun (x0,x1,()) =>
  bif decide (x1.1 ≥ 0) then bif decide (x1.1 < ((List.length x0.2.1):Int)) then bif decide (x1.2.1 ≥ 0) then inR x1.1 ((List.length x0.2.1):Int) (bif decide (x1.2.1 < ((List.length (ix za x0.2.1 x1.1).1):Int)) then inR x1.1 ((List.length x0.2.1):Int) (inR x1.2.1 ((List.length (ix za x0.2.1 x1.1).1):Int) (bif (List.getD (ix za x0.2.1 x1.1).1 (Int.toNat x1.2.1) (zb zJ)).1 then some (true,()) else some (false,()))) else some (false,())) else some (false,()) else some (false,()) else some (false,())
abbrev znr:Fun:=⟨78,(ch [zt,zI]),(ch [.bool]),0,zdp⟩
theorem zv7:Sq znr:=ms0 (d:=false) (K:=0) Tryz.func78 (by kernel_rfl) (funext fun (x0,x1,())=>by kernel_rfl)
def zdq:(qg × (Int × Unit))→Option (Bool × Unit):=fun (x0,x1,()) =>
  bif decide (x1 ≥ 0) then bif decide (x1 < ((List.length x0.1.1):Int)) then some (true,()) else some (false,()) else some (false,())
abbrev zns:Fun:=⟨122,(ch [zW,tI]),(ch [.bool]),0,zdq⟩
theorem zv8:Sq zns:=ms0 (d:=false) (K:=0) Tryz.func122 (by kernel_rfl) (funext fun (x0,x1,())=>by kernel_rfl)
def qA:(qg × (Int × Unit))→Option (Bool × Unit):=fun (x0,x1,()) =>
  bif decide (x1 ≥ 0) then bif decide (x1 < ((List.length x0.1.2.2.1):Int)) then some (true,()) else some (false,()) else some (false,())
abbrev zjU:Fun:=⟨123,(ch [zW,tI]),(ch [.bool]),0,qA⟩
theorem zty:Sq zjU:=ms0 (d:=false) (K:=0) Tryz.func123 (by kernel_rfl) (funext fun (x0,x1,())=>by kernel_rfl)
def zfn:(zo × ((Option (Option ((zo × Unit)→Option (Bool × Unit)))) × Unit))→Option (Bool × Unit):=fun (x0,x1,()) =>
  Option.bind x1 fun q0=>Option.bind q0 fun q1=>Option.bind (q1 (x0,())) fun q2=>bif q2.1 then some (false,()) else some (true,())
abbrev zfo:Fun:=⟨214,(ch [zf,(.ptr (.fn (ch [zf]) (ch [.bool])))]),(ch [.bool]),0,zfn⟩
theorem zob:Sq zfo:=ms0 (d:=false) (K:=0) Tryz.func214 (by kernel_rfl) (funext fun (x0,x1,())=>by kernel_rfl)
abbrev ju:Type:=(List zo) × (Option ((zo × Unit)→Option (Bool × Unit))) × Int × Int
abbrev zkS:ju→St:=fun (v0,v1,v7,v8)=>St.mk [(0,.dat (.sl zf) v0),(1,.dat (.fn (.pair zf .unit) (.pair .bool .unit)) v1),(7,.dat tI v7),(8,.dat tI v8)] []
def zc9 (k0:ju→Option (Int × Unit)):ju→Option (Int × Unit):=fun (v0,v1,v7,v8) =>
  bif decide (v8 < v7) then inR v8 ((List.length v0):Int) (Option.bind v1 fun q0=>Option.bind (q0 (ix qj v0 v8,())) fun q1=>bif q1.1 then some (v8,()) else k0 (v0,v1,v7,wI (v8 + 1))) else some ((-1),())
abbrev zda (K:Nat):ju→Option (Int × Unit):=zl zc9 K
theorem zkT (K:Nat):∀ n,evV Es0 K Tryz.f281 0 (ch [tI]) [1,0,1,0] [] zkS n = zl zc9 n:=zn fun n0 (v0,v1,v7,v8)=>by kernel_rfl
def zbr (L0:ju→Option (Int × Unit)):((List zo) × ((Option ((zo × Unit)→Option (Bool × Unit))) × Unit))→Option (Int × Unit):=fun (x0,x1,()) =>
  L0 (x0,x1,((List.length x0):Int),0)
def zeI:((List zo) × ((Option ((zo × Unit)→Option (Bool × Unit))) × Unit))→Option (Int × Unit):=zbr (zda K0)
abbrev zeJ:Fun:=⟨281,(ch [(.sl zf),(.fn (ch [zf]) (ch [.bool]))]),(ch [tI]),0,zeI⟩
theorem zm2:Sq zeJ:=ml0 (d:=false) (S:=fun K=>zbr (zda K)) Tryz.func281 (by kernel_rfl) (fun K=>tr1 (T:=zbr) (zkT K K) fun (x0,x1,())=>by kernel_rfl) rfl
def zfp:(zr × ((Option (Option ((zr × Unit)→Option (Bool × Unit)))) × Unit))→Option (Bool × Unit):=fun (x0,x1,()) =>
  Option.bind x1 fun q0=>Option.bind q0 fun q1=>Option.bind (q1 (x0,())) fun q2=>bif q2.1 then some (false,()) else some (true,())
abbrev zfq:Fun:=⟨216,(ch [zi,(.ptr (.fn (ch [zi]) (ch [.bool])))]),(ch [.bool]),0,zfp⟩
theorem zoc:Sq zfq:=ms0 (d:=false) (K:=0) Tryz.func216 (by kernel_rfl) (funext fun (x0,x1,())=>by kernel_rfl)
abbrev jw:Type:=(List zr) × (Option ((zr × Unit)→Option (Bool × Unit))) × Int × Int
abbrev zkU:jw→St:=fun (v0,v1,v7,v8)=>St.mk [(0,.dat (.sl zi) v0),(1,.dat (.fn (.pair zi .unit) (.pair .bool .unit)) v1),(7,.dat tI v7),(8,.dat tI v8)] []
def zdb (k0:jw→Option (Int × Unit)):jw→Option (Int × Unit):=fun (v0,v1,v7,v8) =>
  bif decide (v8 < v7) then inR v8 ((List.length v0):Int) (Option.bind v1 fun q0=>Option.bind (q0 (ix zaP v0 v8,())) fun q1=>bif q1.1 then some (v8,()) else k0 (v0,v1,v7,wI (v8 + 1))) else some ((-1),())
abbrev zdc (K:Nat):jw→Option (Int × Unit):=zl zdb K
theorem zkV (K:Nat):∀ n,evV Es0 K Tryz.f282 0 (ch [tI]) [1,0,1,0] [] zkU n = zl zdb n:=zn fun n0 (v0,v1,v7,v8)=>by kernel_rfl
def zbs (L0:jw→Option (Int × Unit)):((List zr) × ((Option ((zr × Unit)→Option (Bool × Unit))) × Unit))→Option (Int × Unit):=fun (x0,x1,()) =>
  L0 (x0,x1,((List.length x0):Int),0)
def zeK:((List zr) × ((Option ((zr × Unit)→Option (Bool × Unit))) × Unit))→Option (Int × Unit):=zbs (zdc K0)
abbrev zeL:Fun:=⟨282,(ch [(.sl zi),(.fn (ch [zi]) (ch [.bool]))]),(ch [tI]),0,zeK⟩
theorem zm3:Sq zeL:=ml0 (d:=false) (S:=fun K=>zbs (zdc K)) Tryz.func282 (by kernel_rfl) (fun K=>tr1 (T:=zbs) (zkV K K) fun (x0,x1,())=>by kernel_rfl) rfl
def zhh:(Int × ((Option (Option ((Int × Unit)→Option (Bool × Unit)))) × Unit))→Option (Bool × Unit):=fun (x0,x1,()) =>
  Option.bind x1 fun q0=>Option.bind q0 fun q1=>Option.bind (q1 (x0,())) fun q2=>bif q2.1 then some (false,()) else some (true,())
abbrev zhi:Fun:=⟨217,(ch [tI,(.ptr (.fn (ch [tI]) (ch [.bool])))]),(ch [.bool]),0,zhh⟩
theorem zqJ:Sq zhi:=ms0 (d:=false) (K:=0) Tryz.func217 (by kernel_rfl) (funext fun (x0,x1,())=>by kernel_rfl)
def zq9:(zZ × (zZ × Unit))→Option (Bool × Unit):=fun (x0,x1,()) =>
  bif decide (x0.1 ≤ x1.1) then bif wU (↑(BitVec.toNat (BitVec.ofInt (IntKind.bits IntKind.u64) x0.2.1 &&& ~~~BitVec.ofInt (IntKind.bits IntKind.u64) x1.2.1)):Int) == 0 then some (true,()) else some (false,()) else some (false,())
abbrev zra:Fun:=⟨159,(ch [zG,zG]),(ch [.bool]),0,zq9⟩
theorem zyT:Sq zra:=ms0 (d:=false) (K:=0) Tryz.func159 (by kernel_rfl) (funext fun (x0,x1,())=>by kernel_rfl)
def zjV:(z1 × ((Option (Option ((z4 × Unit)→Option (Bool × Unit)))) × Unit))→Option (Bool × Unit):=fun (x0,x1,()) =>
  bif x0.1 then Option.bind x1 fun q0=>Option.bind q0 fun q1=>Option.bind (q1 (x0.2.1,())) fun q2=>bif q2.1 then Option.bind x1 fun q3=>Option.bind q3 fun q4=>Option.bind (q4 (x0.2.2.1,())) fun q5=>bif q5.1 then some (true,()) else some (false,()) else some (false,()) else some (true,())
abbrev zjW:Fun:=⟨130,(ch [zC,(.ptr (.fn (ch [zI]) (ch [.bool])))]),(ch [.bool]),0,zjV⟩
theorem ztz:Sq zjW:=ms0 (d:=false) (K:=0) Tryz.func130 (by kernel_rfl) (funext fun (x0,x1,())=>by kernel_rfl)
def zgw:(z1 × ((Option (Option ((z1 × Unit)→Option (Bool × Unit)))) × Unit))→Option (Bool × Unit):=fun (x0,x1,()) =>
  Option.bind x1 fun q0=>Option.bind q0 fun q1=>Option.bind (q1 (x0,())) fun q2=>bif q2.1 then some (false,()) else some (true,())
abbrev zgx:Fun:=⟨220,(ch [zC,(.ptr (.fn (ch [zC]) (ch [.bool])))]),(ch [.bool]),0,zgw⟩
theorem zpu:Sq zgx:=ms0 (d:=false) (K:=0) Tryz.func220 (by kernel_rfl) (funext fun (x0,x1,())=>by kernel_rfl)
def zeM:(z5 × ((Option (Option ((z4 × Unit)→Option (Bool × Unit)))) × Unit))→Option (Bool × Unit):=fun (x0,x1,()) =>
  bif x0.2.2.1 != 2 then some (true,()) else Option.bind x1 fun q0=>Option.bind q0 fun q1=>Option.bind (q1 (x0.2.2.2.2.1,())) fun q2=>bif q2.1 then some (true,()) else some (false,())
abbrev zjX:Fun:=⟨132,(ch [zA,(.ptr (.fn (ch [zI]) (ch [.bool])))]),(ch [.bool]),0,zeM⟩
theorem ztA:Sq zjX:=ms0 (d:=false) (K:=0) Tryz.func132 (by kernel_rfl) (funext fun (x0,x1,())=>by kernel_rfl)
def zgy:(z5 × ((Option (Option ((z5 × Unit)→Option (Bool × Unit)))) × Unit))→Option (Bool × Unit):=fun (x0,x1,()) =>
  Option.bind x1 fun q0=>Option.bind q0 fun q1=>Option.bind (q1 (x0,())) fun q2=>bif q2.1 then some (false,()) else some (true,())
abbrev zgz:Fun:=⟨221,(ch [zA,(.ptr (.fn (ch [zA]) (ch [.bool])))]),(ch [.bool]),0,zgy⟩
theorem zpv:Sq zgz:=ms0 (d:=false) (K:=0) Tryz.func221 (by kernel_rfl) (funext fun (x0,x1,())=>by kernel_rfl)
def zhj:(z4 × ((Option (Option ((z4 × Unit)→Option (Bool × Unit)))) × Unit))→Option (Bool × Unit):=fun (x0,x1,()) =>
  Option.bind x1 fun q0=>Option.bind q0 fun q1=>Option.bind (q1 (x0,())) fun q2=>bif q2.1 then some (false,()) else some (true,())
abbrev zhk:Fun:=⟨223,(ch [zI,(.ptr (.fn (ch [zI]) (ch [.bool])))]),(ch [.bool]),0,zhj⟩
theorem zqK:Sq zhk:=ms0 (d:=false) (K:=0) Tryz.func223 (by kernel_rfl) (funext fun (x0,x1,())=>by kernel_rfl)
abbrev jP:Type:=(List z4) × (Option ((z4 × Unit)→Option (Bool × Unit))) × Int × Int
abbrev zm4:jP→St:=fun (v0,v1,v7,v8)=>St.mk [(0,.dat (.sl qS) v0),(1,.dat (.fn (.pair qS .unit) (.pair .bool .unit)) v1),(7,.dat tI v7),(8,.dat tI v8)] []
def zeN (k0:jP→Option (Int × Unit)):jP→Option (Int × Unit):=fun (v0,v1,v7,v8) =>
  bif decide (v8 < v7) then inR v8 ((List.length v0):Int) (Option.bind v1 fun q0=>Option.bind (q0 (ix zae v0 v8,())) fun q1=>bif q1.1 then some (v8,()) else k0 (v0,v1,v7,wI (v8 + 1))) else some ((-1),())
abbrev zeO (K:Nat):jP→Option (Int × Unit):=zl zeN K
theorem zm5 (K:Nat):∀ n,evV Es0 K Tryz.f283 0 (ch [tI]) [1,0,1,0] [] zm4 n = zl zeN n:=zn fun n0 (v0,v1,v7,v8)=>by kernel_rfl
def zb9 (L0:jP→Option (Int × Unit)):((List z4) × ((Option ((z4 × Unit)→Option (Bool × Unit))) × Unit))→Option (Int × Unit):=fun (x0,x1,()) =>
  L0 (x0,x1,((List.length x0):Int),0)
def zgA:((List zcA) × ((Option ((zcA × Unit)→Option (Bool × Unit))) × Unit))→Option (Int × Unit):=zb9 (zeO K0)
abbrev zgB:Fun:=⟨283,(ch [(.sl zI),(.fn (ch [zI]) (ch [.bool]))]),(ch [tI]),0,zgA⟩
theorem zpw:Sq zgB:=ml0 (d:=false) (S:=fun K=>zb9 (zeO K)) Tryz.func283 (by kernel_rfl) (fun K=>tr1 (T:=zb9) (zm5 K K) fun (x0,x1,())=>by kernel_rfl) rfl
def zgC:(qc × ((Option (Option ((qc × Unit)→Option (Bool × Unit)))) × Unit))→Option (Bool × Unit):=fun (x0,x1,()) =>
  Option.bind x1 fun q0=>Option.bind q0 fun q1=>Option.bind (q1 (x0,())) fun q2=>bif q2.1 then some (false,()) else some (true,())
abbrev zgD:Fun:=⟨224,(ch [zF,(.ptr (.fn (ch [zF]) (ch [.bool])))]),(ch [.bool]),0,zgC⟩
theorem zpx:Sq zgD:=ms0 (d:=false) (K:=0) Tryz.func224 (by kernel_rfl) (funext fun (x0,x1,())=>by kernel_rfl)
def zfr:(zL × ((Option (Option ((zL × Unit)→Option (Bool × Unit)))) × Unit))→Option (Bool × Unit):=fun (x0,x1,()) =>
  Option.bind x1 fun q0=>Option.bind q0 fun q1=>Option.bind (q1 (x0,())) fun q2=>bif q2.1 then some (false,()) else some (true,())
abbrev zfs:Fun:=⟨225,(ch [zp,(.ptr (.fn (ch [zp]) (ch [.bool])))]),(ch [.bool]),0,zfr⟩
theorem zod:Sq zfs:=ms0 (d:=false) (K:=0) Tryz.func225 (by kernel_rfl) (funext fun (x0,x1,())=>by kernel_rfl)
def zjY:(zL × Unit)→Option (Bool × Unit):=fun (x0,()) =>
  bif x0.1 then some (true,()) else some (false,())
abbrev zjZ:Fun:=⟨141,(ch [zp]),(ch [.bool]),0,zjY⟩
theorem ztB:Sq zjZ:=ms0 (d:=false) (K:=0) Tryz.func141 (by kernel_rfl) (funext fun (x0,())=>by kernel_rfl)
def zdH:((Option zaf) × Unit)→Option (Bool × Unit):=fun (x0,()) =>
  bif Option.isSome x0 then Option.bind x0 fun q0=>bif Option.isSome q0.2.1 then some (true,()) else some (false,()) else some (false,())
abbrev ziv:Fun:=⟨226,(ch [(.ptr jN)]),(ch [.bool]),0,zdH⟩
theorem zr1:Sq ziv:=ms0 (d:=false) (K:=0) Tryz.func226 (by kernel_rfl) (funext fun (x0,())=>by kernel_rfl)
def zpy:(zo × Unit)→Option (Bool × Unit):=fun (x0,()) =>
  bif x0.1 then some (true,()) else some (false,())
abbrev zpz:Fun:=⟨285,(ch [zf]),(ch [.bool]),0,zpy⟩
theorem zxS:Sq zpz:=ms0 (d:=false) (K:=0) Tryz.func285 (by kernel_rfl) (funext fun (x0,())=>by kernel_rfl)
def zdI:((Option zbj) × Unit)→Option (Bool × Unit):=fun (x0,()) =>
  bif Option.isSome x0 then Option.bind x0 fun q0=>bif Option.isSome q0.2.1 then some (true,()) else some (false,()) else some (false,())
abbrev ziw:Fun:=⟨286,(ch [(.ptr vL)]),(ch [.bool]),0,zdI⟩
theorem zr2:Sq ziw:=ms0 (d:=false) (K:=0) Tryz.func286 (by kernel_rfl) (funext fun (x0,())=>by kernel_rfl)
def znt:(zo × Unit)→Option (Int × Unit):=fun (x0,()) =>
  bif x0.2.2.2.1 == 2 then some (x0.2.2.2.2.1,()) else some (x0.2.2.2.2.2.1,())
abbrev znu:Fun:=⟨145,(ch [zf]),(ch [tI]),0,znt⟩
theorem zv9:Sq znu:=ms0 (d:=false) (K:=0) Tryz.func145 (by kernel_rfl) (funext fun (x0,())=>by kernel_rfl)
def zrb:(Int × (Int × Unit))→Option (Int × (Int × Unit)):=fun (x0,x1,()) =>
  bif decide (0 ≤ x0) then bif decide (0 ≤ x1) then bif decide (x1 < 18446744073709551616) then bif extB true x0 x1 != 0 then some (0,7,()) else bif decide (extA true x0 x1 > 4611686018427387904) then some (0,7,()) else some (extA true x0 x1,0,()) else none else none else none
abbrev zrc:Fun:=⟨147,(ch [tU,tU]),(ch [tU,tI]),0,zrb⟩
theorem zyU:Sq zrc:=ms0 (d:=false) (K:=0) Tryz.func147 (by kernel_rfl) (funext fun (x0,x1,())=>by kernel_rfl)
def znv:(zL × Unit)→Option (Bool × Unit):=fun (x0,()) =>
  bif x0.1 then some (true,()) else some (false,())
abbrev znw:Fun:=⟨229,(ch [zp]),(ch [.bool]),0,znv⟩
theorem zwa:Sq znw:=ms0 (d:=false) (K:=0) Tryz.func229 (by kernel_rfl) (funext fun (x0,())=>by kernel_rfl)
def zlO:(zh × Unit)→Option ((List Int) × Unit):=fun (x0,()) =>
  some (x0.2.2.2.2.2.2.2.1,())
abbrev zlP:Fun:=⟨84,(ch [ze]),(ch [(.arr 4 tU)]),0,zlO⟩
theorem zuR:Sq zlP:=ms0 (d:=false) (K:=0) Tryz.func84 (by kernel_rfl) (funext fun (x0,())=>by kernel_rfl)
def zlQ:(zh × Unit)→Option ((List Int) × Unit):=fun (x0,()) =>
  some (x0.2.2.2.2.2.2.2.2.1,())
abbrev zlR:Fun:=⟨85,(ch [ze]),(ch [(.arr 4 tU)]),0,zlQ⟩
theorem zuS:Sq zlR:=ms0 (d:=false) (K:=0) Tryz.func85 (by kernel_rfl) (funext fun (x0,())=>by kernel_rfl)
def zpA:(Int × (Int × Unit))→Option (Int × (Int × Unit)):=fun (x0,x1,()) =>
  bif decide (0 ≤ x0) then bif decide (0 ≤ x1) then bif decide (x1 < 18446744073709551616) then bif extB false x0 x1 != 0 then some (0,6,()) else some (extA false x0 x1,0,()) else none else none else none
abbrev zpB:Fun:=⟨86,(ch [tU,tU]),(ch [tU,tI]),0,zpA⟩
theorem zxT:Sq zpB:=ms0 (d:=false) (K:=0) Tryz.func86 (by kernel_rfl) (funext fun (x0,x1,())=>by kernel_rfl)
def zpC:(Int × (Int × Unit))→Option (Bool × Unit):=fun (x0,x1,()) =>
  bif decide (x0 ≥ 0) then bif decide (x0 < x1) then some (true,()) else some (false,()) else some (false,())
abbrev zvO:Fun:=⟨149,(ch [tI,tI]),(ch [.bool]),0,zpC⟩
theorem zBn:Sq zvO:=ms0 (d:=false) (K:=0) Tryz.func149 (by kernel_rfl) (funext fun (x0,x1,())=>by kernel_rfl)
def zix:(Int × ((Option (List (List Int))) × ((Option Int) × Unit)))→Option (Bool × Unit):=fun (x0,x1,x2,()) =>
  Option.bind x1 fun q0=>inR x0 ((List.length q0):Int) (Option.bind x2 fun q1=>inR q1 ((List.length (List.getD q0 (Int.toNat x0) ([]:List Int))):Int) (bif List.getD (List.getD q0 (Int.toNat x0) ([]:List Int)) (Int.toNat q1) (0:Int) == 0 then some (true,()) else some (false,())))
abbrev ziy:Fun:=⟨150,(ch [tI,(.ptr (.sl (.sl tI))),(.ptr tI)]),(ch [.bool]),0,zix⟩
theorem zr3:Sq ziy:=ms0 (d:=false) (K:=0) Tryz.func150 (by kernel_rfl) (funext fun (x0,x1,x2,())=>by kernel_rfl)
abbrev zxU:Fun:=⟨233,(ch [zG]),(ch [(.sl tI)]),0,zhU⟩
abbrev yG:Type:=(List Int) × Int × Int × Int
abbrev zr4:yG→St:=fun (v0,v1,v7,v8)=>St.mk [(0,.dat (.sl tI) v0),(1,.dat tI v1),(7,.dat tI v7),(8,.dat tI v8)] []
def ziz (k0:yG→Option (Int × Unit)):yG→Option (Int × Unit):=fun (v0,v1,v7,v8) =>
  bif decide (v8 < v7) then inR v8 ((List.length v0):Int) (bif v1 == ix (0:Int) v0 v8 then some (v8,()) else k0 (v0,v1,v7,wI (v8 + 1))) else some ((-1),())
abbrev ziA (K:Nat):yG→Option (Int × Unit):=zl ziz K
theorem zr5 (K:Nat):∀ n,evV Es0 K Tryz.f288 0 (ch [tI]) [1,0,1,0] [] zr4 n = zl ziz n:=zn fun n0 (v0,v1,v7,v8)=>by kernel_rfl
def zfU (L0:yG→Option (Int × Unit)):((List Int) × (Int × Unit))→Option (Int × Unit):=fun (x0,x1,()) =>
  L0 (x0,x1,((List.length x0):Int),0)
def zlS:((List Int) × Int × Unit)→Option (Int × Unit):=zfU (ziA K0)
abbrev zlT:Fun:=⟨288,(ch [(.sl tI),tI]),(ch [tI]),0,zlS⟩
theorem zuT:Sq zlT:=ml0 (d:=false) (S:=fun K=>zfU (ziA K)) Tryz.func288 (by kernel_rfl) (fun K=>tr1 (T:=zfU) (zr5 K K) fun (x0,x1,())=>by kernel_rfl) rfl
abbrev L1:List Fun:=zhV :: zhW :: zlh :: zjG :: zhX :: zjH :: zjI :: zjJ :: zjK :: zhY :: znj :: zli :: zoW :: zoX :: zoY :: zg7 :: zg8 :: zoZ :: zo0 :: zo1 :: zeo :: zjL :: zjM :: zjN :: zjO :: zib :: znk :: zlr :: ze9 :: zlu :: zie :: zif :: znm :: zno :: zlv :: zez :: zjQ :: zgr :: zo9 :: zgt :: zpb :: zpd :: zfb :: zpf :: zc2 :: zhe :: zph :: zpj :: zin :: ziq :: zjS :: znq :: zff :: zeD :: zfh :: zpm :: zpo :: zlF :: zfi :: zfk :: ztu :: ztv :: zfm :: zvM :: zpq :: zcq :: zc6 :: zeG :: ztw :: zpr :: zps :: zlN :: zhg :: zvN :: ztx :: znr :: zns :: zjU :: zfo :: zeJ :: zfq :: zeL :: zhi :: zra :: zjW :: zgx :: zjX :: zgz :: zhk :: zgB :: zgD :: zfs :: zjZ :: ziv :: zpz :: ziw :: znu :: zrc :: znw :: zlP :: zlR :: zpB :: zvO :: ziy :: zxU :: zlT :: L0
theorem h1:Sds Tryz.prog E0 L1:=⟨zrO,zrP,zuu,ztg,zrQ,zth,zti,ztj,ztk,zrR,zv2,zuv,zxB,zxC,zxD,zqx,zqy,zxE,zxF,zxG,zmW,ztl,ztm,ztn,zto,zrS,zv3,zuI,zn2,zuJ,zrX,zrY,zv4,zv5,zuK,zmX,ztr,zo8,zxH,zpa,zxI,zxJ,zn3,zxK,zkM,zqH,zxL,zxM,zrZ,zr0,zts,zv6,zn6,zm0,zn7,zxN,zxO,zuP,zn8,zn9,zAb,zAc,zoa,zBl,zxP,zjh,zkP,zm1,zAd,zxQ,zxR,zuQ,zqI,zBm,zAe,zv7,zv8,zty,zob,zm2,zoc,zm3,zqJ,zyT,ztz,zpu,ztA,zpv,zqK,zpw,zpx,zod,ztB,zr1,zxS,zr2,zv9,zyU,zwa,zuR,zuS,zxT,zBn,zr3,zxA,zuT,h0⟩
theorem ms1 {d:Bool} {F:Fun} {f:Go.Func} {K:Nat} (hf:Tryz.prog.funcs[F.id]? = some f) (ho:qV f = true) (h:evF (En E0 d L1) K f F.md F.a F.r = F.spec):Sd Tryz.prog E0 F:=mkS h1 hf ho h
theorem ml1 {d:Bool} {F:Fun} {f:Go.Func} {S:Nat→F.a.I→Option F.r.I} (hf:Tryz.prog.funcs[F.id]? = some f) (ho:qV f = true) (h:∀ K,evF (En E0 d L1) K f F.md F.a F.r = S K) (e:S K0 = F.spec):Sd Tryz.prog E0 F:=mkS h1 hf ho ((h K0).trans e)
abbrev Es1:Env:=En E0 false L1
abbrev Ed1:Env:=En E0 true L1
end
end Go.Proofs.YtlklokhlgcfcdaaGreatDoor
end
section
namespace Go.Proofs.YtlklokhlgcfcdaaGreatDoor
open Go.Ev
noncomputable section
abbrev zai:Type:=Int × Int × Int × Int × List zh × Nat × List (List Int) × Nat × List zo × List zr × List Int × List zh × Nat × List (List Int) × Nat × List zo × List zr × List Int
abbrev zj0:zai→St:=fun (v44,v45,o0_0,o1_0,o2,c2,o3,c3,o4,o5,o6,o7,c7,o8,c8,o9,o10,o11)=>St.mk [(1,.bp 0 []),(2,.bp 1 []),(43,.ow 2),(44,.dat tI v44),(45,.dat tI v45)] [.bx (.fld (.pair tU (.pair (.sl ze) (.pair (.sl (.sl tI)) (.pair (.sl zf) (.pair (.sl zi) (.pair (.sl tI) .unit)))))) [.dat tU o0_0,.ow 2,.ow 3,.ow 4,.ow 5,.ow 6]) false,.bx (.fld (.pair tU (.pair (.sl ze) (.pair (.sl (.sl tI)) (.pair (.sl zf) (.pair (.sl zi) (.pair (.sl tI) .unit)))))) [.dat tU o1_0,.ow 7,.ow 8,.ow 9,.ow 10,.ow 11]) false,.drow ze o2 c2,.drow (.sl tI) o3 c3,.row zf o4 false,.row zi o5 false,.row tI o6 false,.drow ze o7 c7,.drow (.sl tI) o8 c8,.row zf o9 false,.row zi o10 false,.row tI o11 false]
abbrev zaj:Type:=Int × Int × Int × (List zh) × Int × List (List Int) × Nat × List zo × List zr × List Int × List zh × Nat × List (List Int) × Nat × List zo × List zr × List Int
abbrev ztC:zaj→St:=fun (v25,v26,o0_0,o0_1,o1_0,o2,c2,o3,o4,o5,o6,c6,o7,c7,o8,o9,o10)=>St.mk [(1,.bp 0 []),(2,.bp 1 []),(24,.ow 2),(25,.dat tI v25),(26,.dat tI v26)] [.bx (.fld (.pair tU (.pair (.sl ze) (.pair (.sl (.sl tI)) (.pair (.sl zf) (.pair (.sl zi) (.pair (.sl tI) .unit)))))) [.dat tU o0_0,.dat (.sl ze) o0_1,.ow 2,.ow 3,.ow 4,.ow 5]) false,.bx (.fld (.pair tU (.pair (.sl ze) (.pair (.sl (.sl tI)) (.pair (.sl zf) (.pair (.sl zi) (.pair (.sl tI) .unit)))))) [.dat tU o1_0,.ow 6,.ow 7,.ow 8,.ow 9,.ow 10]) false,.drow (.sl tI) o2 c2,.row zf o3 false,.row zi o4 false,.row tI o5 false,.drow ze o6 c6,.drow (.sl tI) o7 c7,.row zf o8 false,.row zi o9 false,.row tI o10 false]
def zak (k1:zai→Option (zm × Unit)):zai→Option (zm × Unit):=fun (v44,v45,o0_0,o1_0,o2,c2,o3,c3,o4,o5,o6,o7,c7,o8,c8,o9,o10,o11) =>
  bif decide (v45 < v44) then inR v45 ((List.length o2):Int) (bif decide (c2 ≤ Int.toNat v45) then Option.bind (zek ((ix za o2 v45).1,())) fun q6=>Option.bind (zel ((ix za o2 v45).2.1,())) fun q7=>Option.bind (zem ((ix za o2 v45).2.2.1,())) fun q8=>Option.bind (zen ((ix za o2 v45).2.2.2.1,())) fun q9=>Option.bind (zbl ((ix za o2 v45).2.2.2.2.1,())) fun q10=>Option.bind (zgO ((ix za o2 v45).2.2.2.2.2.1,())) fun q11=>Option.bind (zfQ ((ix za o2 v45).2.2.2.2.2.2.1,())) fun q12=>inR v45 ((List.length o2):Int) (bif decide (Int.toNat v45 = c2) then k1 (v44,wI (v45 + 1),o0_0,o1_0,List.set o2 (Int.toNat v45) (q6.1,q7.1,q8.1,q9.1,q10.1,q11.1,q12.1,(ix za o2 v45).2.2.2.2.2.2.2.1,(ix za o2 v45).2.2.2.2.2.2.2.2.1,()),c2 + 1,o3,c3,o4,o5,o6,o7,c7,o8,c8,o9,o10,o11) else none) else none) else bif decide (c2 = List.length o2) then bif decide (c3 = List.length o3) then some ((o0_0,o2,o3,o4,o5,o6,()),()) else none else none
abbrev zal (K:Nat):zai→Option (zm × Unit):=zl zak K
theorem ztD (K:Nat):∀ n,evV Ed1 K Tryz.f5 3 (ch [zt]) [1,1,1,1,1,0,1,0] [] zj0 n = zl zak n:=zn fun n1 (v44,v45,o0_0,o1_0,o2,c2,o3,c3,o4,o5,o6,o7,c7,o8,c8,o9,o10,o11)=>by kernel_rfl
def vV (L1:zai→Option (zm × Unit)) (k0:zaj→Option (zm × Unit)):zaj→Option (zm × Unit):=fun (v25,v26,o0_0,o0_1,o1_0,o2,c2,o3,o4,o5,o6,c6,o7,c7,o8,o9,o10) =>
  bif decide (v26 < v25) then inR v26 ((List.length o2):Int) (bif decide (c2 ≤ Int.toNat v26) then Option.bind (zcm (List.getD o2 (Int.toNat v26) ([]:List Int),())) fun q4=>inR v26 ((List.length o2):Int) (bif decide (Int.toNat v26 = c2) then k0 (v25,wI (v26 + 1),o0_0,o0_1,o1_0,List.set o2 (Int.toNat v26) q4.1,c2 + 1,o3,o4,o5,o6,c6,o7,c7,o8,o9,o10) else none) else none) else Option.bind (zdx (o0_1,())) fun q5=>L1 (((List.length q5.1):Int),0,o0_0,o1_0,q5.1,0,o2,c2,o3,o4,o5,o6,c6,o7,c7,o8,o9,o10)
abbrev zeP (K:Nat):zaj→Option (zm × Unit):=zl (fun k0=>vV (zal K) k0) K
theorem ztE (K:Nat):∀ n,evV Ed1 K Tryz.f5 3 (ch [zt]) [1,1,1,0,1,0] [] ztC n = zl (fun k0=>vV (zal K) k0) n:=qk (B:=fun L1 k0=>vV L1 k0) (V1:=fun n0=>evV Ed1 K Tryz.f5 3 (ch [zt]) [1,1,1,1,1,0,1,0] [] zj0 K) (W1:=fun k0=>(zal K)) (fun n0=>ztD K K) fun n0 (v25,v26,o0_0,o0_1,o1_0,o2,c2,o3,o4,o5,o6,c6,o7,c7,o8,o9,o10)=>by kernel_rfl
def zdr (L0:zaj→Option (zm × Unit)):(zm × Unit)→Option (zm × Unit):=fun (x0,()) =>
  Option.bind (zbk (x0.2.2.2.1,())) fun q0=>Option.bind (zdw (x0.2.2.2.2.1,())) fun q1=>Option.bind (zcm (x0.2.2.2.2.2.1,())) fun q2=>Option.bind (zej (x0.2.2.1,())) fun q3=>L0 (((List.length q3.1):Int),0,x0.1,x0.2.1,0,q3.1,0,q0.1,q1.1,q2.1,[],0,[],0,[],[],[])
def jx:(zm × Unit)→Option (zm × Unit):=zdr (zeP K0)
abbrev znx:Fun:=⟨5,(ch [zt]),(ch [zt]),3,jx⟩
theorem zwb:Sq znx:=ml1 (d:=true) (S:=fun K=>zdr (zeP K)) Tryz.func5 (by kernel_rfl) (fun K=>tr1 (T:=zdr) (ztE K K) fun (x0,())=>by kernel_rfl) rfl
abbrev vg:Type:=Int × zh × zh
abbrev zft:vg→St:=fun (v6,o0,o1)=>St.mk [(2,.bp 0 []),(3,.bp 1 []),(6,.dat tI v6)] [.bx (.dat ze o0) false,.bx (.dat ze o1) false]
abbrev vh:Type:=Int × zh × zh
abbrev zoe:vh→St:=fun (v5,o0,o1)=>St.mk [(2,.bp 0 []),(3,.bp 1 []),(5,.dat tI v5)] [.bx (.dat ze o0) false,.bx (.dat ze o1) false]
def vi (k1:vg→Option (Bool × Unit)):vg→Option (Bool × Unit):=fun (v6,o0,o1) =>
  bif decide (v6 < ((List.length o0.2.2.2.2.2.2.1):Int)) then inR v6 ((List.length o0.2.2.2.2.2.2.1):Int) (inR v6 ((List.length o1.2.2.2.2.2.2.1):Int) (bif !eqI zI (ix zB3 o0.2.2.2.2.2.2.1 v6) (ix zB3 o1.2.2.2.2.2.2.1 v6) then some (false,()) else k1 (wI (v6 + 1),o0,o1))) else some (true,())
abbrev yU (K:Nat):vg→Option (Bool × Unit):=zl vi K
theorem zof (K:Nat):∀ n,evV Es1 K Tryz.f29 0 (ch [.bool]) [1,1,1,1,0,1,0] [] zft n = zl vi n:=zn fun n1 (v6,o0,o1)=>by kernel_rfl
def qX (L1:vg→Option (Bool × Unit)) (k0:vh→Option (Bool × Unit)):vh→Option (Bool × Unit):=fun (v5,o0,o1) =>
  bif decide (v5 < ((List.length o0.2.2.2.2.2.1):Int)) then inR v5 ((List.length o0.2.2.2.2.2.1):Int) (inR v5 ((List.length o1.2.2.2.2.2.1):Int) (bif !eqI (.arr 4 tU) (List.getD o0.2.2.2.2.2.1 (Int.toNat v5) (zb (.arr 4 tU))) (List.getD o1.2.2.2.2.2.1 (Int.toNat v5) (zb (.arr 4 tU))) then some (false,()) else k0 (wI (v5 + 1),o0,o1))) else L1 (0,o0,o1)
abbrev zbL (K:Nat):vh→Option (Bool × Unit):=zl (fun k0=>qX (yU K) k0) K
theorem zog (K:Nat):∀ n,evV Es1 K Tryz.f29 0 (ch [.bool]) [1,1,1,0,1,0] [] zoe n = zl (fun k0=>qX (yU K) k0) n:=qk (B:=fun L1 k0=>qX L1 k0) (V1:=fun n0=>evV Es1 K Tryz.f29 0 (ch [.bool]) [1,1,1,1,0,1,0] [] zft K) (W1:=fun k0=>(yU K)) (fun n0=>zof K K) fun n0 (v5,o0,o1)=>by kernel_rfl
def zaG (L0:vh→Option (Bool × Unit)):(zh × (zh × Unit))→Option (Bool × Unit):=fun (x0,x1,()) =>
  Option.bind (zcE (x0.1,x1.1,())) fun q0=>bif q0.1 then Option.bind (zcG (x0.2.1,x1.2.1,())) fun q1=>bif q1.1 then Option.bind (zh6 (x0.2.2.1,x1.2.2.1,())) fun q2=>bif q2.1 then Option.bind (zh8 (x0.2.2.2.1,x1.2.2.2.1,())) fun q3=>bif q3.1 then Option.bind (zia (x0.2.2.2.2.1,x1.2.2.2.2.1,())) fun q4=>bif q4.1 then bif ((List.length x0.2.2.2.2.2.1):Int) != ((List.length x1.2.2.2.2.2.1):Int) then some (false,()) else bif ((List.length x0.2.2.2.2.2.2.1):Int) != ((List.length x1.2.2.2.2.2.2.1):Int) then some (false,()) else bif !eqI (.arr 4 tU) x0.2.2.2.2.2.2.2.1 x1.2.2.2.2.2.2.2.1 then some (false,()) else bif !eqI (.arr 4 tU) x0.2.2.2.2.2.2.2.2.1 x1.2.2.2.2.2.2.2.2.1 then some (false,()) else L0 (0,x0,x1) else some (false,()) else some (false,()) else some (false,()) else some (false,()) else some (false,())
def zaH:(zh × zh × Unit)→Option (Bool × Unit):=zaG (zbL K0)
abbrev zhl:Fun:=⟨29,(ch [ze,ze]),(ch [.bool]),0,zaH⟩
theorem zqL:Sq zhl:=ml1 (d:=false) (S:=fun K=>zaG (zbL K)) Tryz.func29 (by kernel_rfl) (fun K=>tr1 (T:=zaG) (zog K K) fun (x0,x1,())=>by kernel_rfl) rfl
def j5:(zh × (zh × Unit))→Option (Bool × Unit):=fun (x0,x1,()) =>
  Option.bind (zeq (x0.1,x1.1,())) fun q0=>bif q0.1 then Option.bind (zes (x0.2.1,x1.2.1,())) fun q1=>bif q1.1 then Option.bind (zeu (x0.2.2.1,x1.2.2.1,())) fun q2=>bif q2.1 then Option.bind (zew (x0.2.2.2.1,x1.2.2.2.1,())) fun q3=>bif q3.1 then Option.bind (zdz (x0.2.2.2.2.1,x1.2.2.2.2.1,())) fun q4=>bif q4.1 then Option.bind (zgQ (x0.2.2.2.2.2.1,x1.2.2.2.2.2.1,())) fun q5=>bif q5.1 then Option.bind (zfS (x0.2.2.2.2.2.2.1,x1.2.2.2.2.2.2.1,())) fun q6=>bif q6.1 then bif eqI (.arr 4 tU) x0.2.2.2.2.2.2.2.1 x1.2.2.2.2.2.2.2.1 then bif eqI (.arr 4 tU) x0.2.2.2.2.2.2.2.2.1 x1.2.2.2.2.2.2.2.2.1 then some (true,()) else some (false,()) else some (false,()) else some (false,()) else some (false,()) else some (false,()) else some (false,()) else some (false,()) else some (false,()) else some (false,())
abbrev zhm:Fun:=⟨31,(ch [ze,ze]),(ch [.bool]),0,j5⟩
theorem zqM:Sq zhm:=ms1 (d:=false) (K:=0) Tryz.func31 (by kernel_rfl) (funext fun (x0,x1,())=>by kernel_rfl)
def ziB:(zZ × Unit)→Option (Bool × Unit):=fun (x0,()) =>
  Option.bind (znn (x0,())) fun q0=>bif q0.1 then some (false,()) else some (true,())
abbrev ziC:Fun:=⟨180,(ch [zG]),(ch [.bool]),0,ziB⟩
theorem zr6:Sq ziC:=ms1 (d:=false) (K:=0) Tryz.func180 (by kernel_rfl) (funext fun (x0,())=>by kernel_rfl)
def yY:((List zZ) × ((Option ((zZ × Unit)→Option (Bool × Unit))) × Unit))→Option (Bool × Unit):=fun (x0,x1,()) =>
  Option.bind (zey (x0,x1,())) fun q0=>bif decide (q0.1 ≥ 0) then some (true,()) else some (false,())
abbrev zcr:Fun:=⟨183,(ch [(.sl zG),(.fn (ch [zG]) (ch [.bool]))]),(ch [.bool]),0,yY⟩
theorem zji:Sq zcr:=ms1 (d:=false) (K:=0) Tryz.func183 (by kernel_rfl) (funext fun (x0,x1,())=>by kernel_rfl)
def zcM:(Int × (Int × Unit))→Option (Int × Unit):=fun (x0,x1,()) =>
  Option.bind (zbQ (x0,())) fun q0=>bif q0.1 then Option.bind (zbQ (x1,())) fun q1=>bif q1.1 then some (0,()) else some ((-1),()) else Option.bind (zbQ (x1,())) fun q2=>bif q2.1 then some (1,()) else bif decide (x0 < x1) then some ((-1),()) else bif decide (x0 > x1) then some (1,()) else some (0,())
abbrev zhn:Fun:=⟨254,(ch [tI,tI]),(ch [tI]),0,zcM⟩
theorem zqN:Sq zhn:=ms1 (d:=false) (K:=0) Tryz.func254 (by kernel_rfl) (funext fun (x0,x1,())=>by kernel_rfl)
def zbt:(Int × (Int × Unit))→Option (Int × Unit):=fun (x0,x1,()) =>
  Option.bind (zah (x0,())) fun q0=>bif q0.1 then Option.bind (zah (x1,())) fun q1=>bif q1.1 then some (0,()) else some ((-1),()) else Option.bind (zah (x1,())) fun q2=>bif q2.1 then some (1,()) else bif decide (x0 < x1) then some ((-1),()) else bif decide (x0 > x1) then some (1,()) else some (0,())
abbrev zeQ:Fun:=⟨255,(ch [tU,tU]),(ch [tI]),0,zbt⟩
theorem zm6:Sq zeQ:=ms1 (d:=false) (K:=0) Tryz.func255 (by kernel_rfl) (funext fun (x0,x1,())=>by kernel_rfl)
def zj1:(Int × ((Option zw) × Unit))→Option (Bool × Unit):=fun (x0,x1,()) =>
  Option.bind x1 fun q0=>Option.bind (qa (x0,0,wI (((List.length q0.1):Int) - 1),())) fun q1=>bif q1.1 then some (false,()) else some (true,())
abbrev zj2:Fun:=⟨185,(ch [tI,(.ptr zB)]),(ch [.bool]),0,zj1⟩
theorem ztF:Sq zj2:=ms1 (d:=false) (K:=0) Tryz.func185 (by kernel_rfl) (funext fun (x0,x1,())=>by kernel_rfl)
def qC:((List Int) × ((Option ((Int × Unit)→Option (Bool × Unit))) × Unit))→Option (Bool × Unit):=fun (x0,x1,()) =>
  Option.bind (zgs (x0,x1,())) fun q0=>bif decide (q0.1 ≥ 0) then some (true,()) else some (false,())
abbrev zd5:Fun:=⟨151,(ch [(.sl tI),(.fn (ch [tI]) (ch [.bool]))]),(ch [.bool]),0,qC⟩
theorem zlU:Sq zd5:=ms1 (d:=false) (K:=0) Tryz.func151 (by kernel_rfl) (funext fun (x0,x1,())=>by kernel_rfl)
def zdd:((List Int) × ((Option ((Int × Unit)→Option (Bool × Unit))) × Unit))→Option (Bool × Unit):=fun (x0,x1,()) =>
  Option.bind (zfa (x0,x1,())) fun q0=>bif decide (q0.1 ≥ 0) then some (true,()) else some (false,())
abbrev zde:Fun:=⟨299,(ch [(.sl (.int .u8)),(.fn (ch [(.int .u8)]) (ch [.bool]))]),(ch [.bool]),0,zdd⟩
theorem zkW:Sq zde:=ms1 (d:=false) (K:=0) Tryz.func299 (by kernel_rfl) (funext fun (x0,x1,())=>by kernel_rfl)
def zlV:(Int × Unit)→Option (Bool × Unit):=fun (x0,()) =>
  Option.bind (zii (x0,())) fun q0=>bif q0.1 then some (true,()) else Option.bind (zpe (x0,())) fun q1=>bif q1.1 then some (true,()) else some (false,())
abbrev zlW:Fun:=⟨258,(ch [(.int .u8)]),(ch [.bool]),0,zlV⟩
theorem zuU:Sq zlW:=ms1 (d:=false) (K:=0) Tryz.func258 (by kernel_rfl) (funext fun (x0,())=>by kernel_rfl)
def zbT:((List jM) × ((Option ((jM × Unit)→Option (Bool × Unit))) × Unit))→Option (Bool × Unit):=fun (x0,x1,()) =>
  Option.bind (zc1 (x0,x1,())) fun q0=>bif decide (q0.1 ≥ 0) then some (true,()) else some (false,())
abbrev zbU:Fun:=⟨188,(ch [(.sl qn),(.fn (ch [qn]) (ch [.bool]))]),(ch [.bool]),0,zbT⟩
theorem zhG:Sq zbU:=ms1 (d:=false) (K:=0) Tryz.func188 (by kernel_rfl) (funext fun (x0,x1,())=>by kernel_rfl)
def zfu:((List zZ) × (zZ × Unit))→Option (Bool × Unit):=fun (x0,x1,()) =>
  Option.bind (zim (x0,x1,())) fun q0=>bif decide (q0.1 ≥ 0) then some (true,()) else some (false,())
abbrev zfv:Fun:=⟨192,(ch [(.sl zG),zG]),(ch [.bool]),0,zfu⟩
theorem zoh:Sq zfv:=ms1 (d:=false) (K:=0) Tryz.func192 (by kernel_rfl) (funext fun (x0,x1,())=>by kernel_rfl)
def ziD:(Int × Unit)→Option (Bool × Unit):=fun (x0,()) =>
  Option.bind (qa (x0,0,12,())) fun q0=>bif q0.1 then some (false,()) else some (true,())
abbrev ziE:Fun:=⟨194,(ch [tI]),(ch [.bool]),0,ziD⟩
theorem zr7:Sq ziE:=ms1 (d:=false) (K:=0) Tryz.func194 (by kernel_rfl) (funext fun (x0,())=>by kernel_rfl)
def ziF:(zw × Unit)→Option (Bool × Unit):=fun (x0,()) =>
  Option.bind (qa (x0.2.2.2.2.2.1,0,24,())) fun q0=>bif q0.1 then Option.bind (qa (x0.2.2.2.2.2.2.1,0,48,())) fun q1=>bif q1.1 then Option.bind (qa (x0.2.2.2.2.2.2.2.1,1,4,())) fun q2=>bif q2.1 then Option.bind (qa (x0.2.2.2.2.2.2.2.2.1,1,16,())) fun q3=>bif q3.1 then some (true,()) else some (false,()) else some (false,()) else some (false,()) else some (false,())
abbrev zpD:Fun:=⟨109,(ch [zB]),(ch [.bool]),0,ziF⟩
theorem zxV:Sq zpD:=ms1 (d:=false) (K:=0) Tryz.func109 (by kernel_rfl) (funext fun (x0,())=>by kernel_rfl)
def zcs:((List zh) × ((Option ((zh × Unit)→Option (Bool × Unit))) × Unit))→Option (Bool × Unit):=fun (x0,x1,()) =>
  Option.bind (zeC (x0,x1,())) fun q0=>bif decide (q0.1 ≥ 0) then some (true,()) else some (false,())
abbrev zct:Fun:=⟨196,(ch [(.sl ze),(.fn (ch [ze]) (ch [.bool]))]),(ch [.bool]),0,zcs⟩
theorem zjj:Sq zct:=ms1 (d:=false) (K:=0) Tryz.func196 (by kernel_rfl) (funext fun (x0,x1,())=>by kernel_rfl)
def zdf:((List qr) × ((Option ((qr × Unit)→Option (Bool × Unit))) × Unit))→Option (Bool × Unit):=fun (x0,x1,()) =>
  Option.bind (zfg (x0,x1,())) fun q0=>bif decide (q0.1 ≥ 0) then some (true,()) else some (false,())
abbrev zdg:Fun:=⟨198,(ch [(.sl zJ),(.fn (ch [zJ]) (ch [.bool]))]),(ch [.bool]),0,zdf⟩
theorem zkX:Sq zdg:=ms1 (d:=false) (K:=0) Tryz.func198 (by kernel_rfl) (funext fun (x0,x1,())=>by kernel_rfl)
def zpE:(z1 × Unit)→Option (Bool × Unit):=fun (x0,()) =>
  bif x0.1 then Option.bind (zir (x0.2.1,())) fun q0=>bif q0.1 then Option.bind (zir (x0.2.2.1,())) fun q1=>bif q1.1 then Option.bind (zpn (x0.2.2.2.1,())) fun q2=>bif q2.1 then some (false,()) else some (true,()) else some (true,()) else some (true,()) else bif !eqI zC x0 (zb zC) then some (true,()) else some (false,())
abbrev zpF:Fun:=⟨200,(ch [zC]),(ch [.bool]),0,zpE⟩
theorem zxW:Sq zpF:=ms1 (d:=false) (K:=0) Tryz.func200 (by kernel_rfl) (funext fun (x0,())=>by kernel_rfl)
def zpG:((List z1) × (z4 × (Int × Unit)))→Option (Int × Unit):=fun (x0,x1,x2,()) =>
  Option.bind (zbI (x0,some fun z=>zlE (z.1,some x1,some x2,()),())) fun q0=>some (q0.1,())
abbrev zpH:Fun:=⟨201,(ch [(.sl zC),zI,tI]),(ch [tI]),0,zpG⟩
theorem zxX:Sq zpH:=ms1 (d:=false) (K:=0) Tryz.func201 (by kernel_rfl) (funext fun (x0,x1,x2,())=>by kernel_rfl)
def zaA:((List z5) × ((Option ((z5 × Unit)→Option (Bool × Unit))) × Unit))→Option (Bool × Unit):=fun (x0,x1,()) =>
  Option.bind (zfj (x0,x1,())) fun q0=>bif decide (q0.1 ≥ 0) then some (true,()) else some (false,())
abbrev zdh:Fun:=⟨202,(ch [(.sl zA),(.fn (ch [zA]) (ch [.bool]))]),(ch [.bool]),0,zaA⟩
theorem zkY:Sq zdh:=ms1 (d:=false) (K:=0) Tryz.func202 (by kernel_rfl) (funext fun (x0,x1,())=>by kernel_rfl)
def zgE:(zzt × Unit)→Option (Bool × Unit):=fun (x0,()) =>
  bif x0.1 == 1 then Option.bind (zeE (x0.2.1,())) fun q0=>bif q0.1 then bif eqI zI x0.2.2.1 (zb zI) then some (true,()) else some (false,()) else some (false,()) else bif x0.1 == 3 then Option.bind (zeE (x0.2.1,())) fun q1=>bif q1.1 then bif eqI zI x0.2.2.1 (zb zI) then some (true,()) else some (false,()) else some (false,()) else bif x0.1 == 2 then bif x0.2.1 == 0 then Option.bind (zeE (x0.2.2.1.1,())) fun q2=>bif q2.1 then Option.bind (zeE (x0.2.2.1.2.1,())) fun q3=>bif q3.1 then some (true,()) else some (false,()) else some (false,()) else some (false,()) else some (false,())
abbrev zgF:Fun:=⟨270,(ch [zqr]),(ch [.bool]),0,zgE⟩
theorem zpI:Sq zgF:=ms1 (d:=false) (K:=0) Tryz.func270 (by kernel_rfl) (funext fun (x0,())=>by kernel_rfl)
def zaB:((List qc) × ((Option ((qc × Unit)→Option (Bool × Unit))) × Unit))→Option (Bool × Unit):=fun (x0,x1,()) =>
  Option.bind (zfl (x0,x1,())) fun q0=>bif decide (q0.1 ≥ 0) then some (true,()) else some (false,())
abbrev zdi:Fun:=⟨204,(ch [(.sl zF),(.fn (ch [zF]) (ch [.bool]))]),(ch [.bool]),0,zaB⟩
theorem zkZ:Sq zdi:=ms1 (d:=false) (K:=0) Tryz.func204 (by kernel_rfl) (funext fun (x0,x1,())=>by kernel_rfl)
def zlX:(qc × Unit)→Option (Bool × Unit):=fun (x0,()) =>
  Option.bind (zjT (x0.2.1,())) fun q0=>bif q0.1 then Option.bind (zjT (x0.2.2.1,())) fun q1=>bif q1.1 then Option.bind (zjT (x0.2.2.2.1,())) fun q2=>bif q2.1 then some (true,()) else some (false,()) else some (false,()) else some (false,())
abbrev zlY:Fun:=⟨272,(ch [zF]),(ch [.bool]),0,zlX⟩
theorem zuV:Sq zlY:=ms1 (d:=false) (K:=0) Tryz.func272 (by kernel_rfl) (funext fun (x0,())=>by kernel_rfl)
def zlZ:(ByteArray × (ByteArray × Unit))→Option (ByteArray × Unit):=fun (x0,x1,()) =>
  bif ByteArray.toList x0 == ByteArray.toList (ByteArray.mk #[]) then some (x0,()) else bif ByteArray.toList x1 == ByteArray.toList (ByteArray.mk #[]) then some (x0,()) else bif (↑(ByteArray.size x1):Int) == 1 then bif decide (0 < (↑(ByteArray.size x1):Int)) then bif decide ((↑(UInt8.toNat (List.getD (Array.toList (ByteArray.data x1)) (Int.toNat 0) 0)):Int) < 128) then bif decide (0 < (↑(ByteArray.size x1):Int)) then Option.bind (zcp (x0,(↑(UInt8.toNat (List.getD (Array.toList (ByteArray.data x1)) (Int.toNat 0) 0)):Int),())) fun q0=>bif decide (0 < (↑(ByteArray.size x1):Int)) then Option.bind (zc5 (q0.1,(↑(UInt8.toNat (List.getD (Array.toList (ByteArray.data x1)) (Int.toNat 0) 0)):Int),())) fun q1=>some (q1.1,()) else none else none else none else none else none
abbrev zl0:Fun:=⟨303,(ch [.str,.str]),(ch [.str]),0,zlZ⟩
theorem zuW:Sq zl0:=ms1 (d:=false) (K:=0) Tryz.func303 (by kernel_rfl) (funext fun (x0,x1,())=>by kernel_rfl)
def yZ:((List zL) × ((Option ((zL × Unit)→Option (Bool × Unit))) × Unit))→Option (Bool × Unit):=fun (x0,x1,()) =>
  Option.bind (zeF (x0,x1,())) fun q0=>bif decide (q0.1 ≥ 0) then some (true,()) else some (false,())
abbrev zcu:Fun:=⟨206,(ch [(.sl zp),(.fn (ch [zp]) (ch [.bool]))]),(ch [.bool]),0,yZ⟩
theorem zjk:Sq zcu:=ms1 (d:=false) (K:=0) Tryz.func206 (by kernel_rfl) (funext fun (x0,x1,())=>by kernel_rfl)
def zk0:(zqq × Unit)→Option (Bool × Unit):=fun (x0,()) =>
  Option.bind (jt (x0.1,())) fun q0=>bif q0.1 then bif decide (x0.2.1 ≤ 4611686018427387904) then bif x0.2.2.1 == -1 then some (true,()) else Option.bind (zhF (x0.2.2.1,())) fun q1=>bif q1.1 then some (true,()) else some (false,()) else some (false,()) else some (false,())
abbrev zrd:Fun:=⟨276,(ch [zei]),(ch [.bool]),0,zk0⟩
theorem zyV:Sq zrd:=ms1 (d:=false) (K:=0) Tryz.func276 (by kernel_rfl) (funext fun (x0,())=>by kernel_rfl)
def ziG:(Int × (Int × Unit))→Option (Int × (Int × Unit)):=fun (x0,x1,()) =>
  Option.bind (zhf (x0,x1,())) fun q0=>bif q0.1 != 0 then some (0,7,()) else bif decide (q0.2.1 > 4611686018427387904) then some (0,7,()) else some (q0.2.1,0,())
abbrev zpJ:Fun:=⟨304,(ch [tU,tU]),(ch [tU,tI]),0,ziG⟩
theorem zxY:Sq zpJ:=ms1 (d:=false) (K:=0) Tryz.func304 (by kernel_rfl) (funext fun (x0,x1,())=>by kernel_rfl)
def ziH:(zo × ((Option qg) × Unit))→Option (Bool × Unit):=fun (x0,x1,()) =>
  bif x0.1 then Option.bind x1 fun q0=>Option.bind (zdq (q0,x0.2.1,())) fun q1=>bif q1.1 then Option.bind x1 fun q2=>Option.bind (qA (q2,x0.2.2.1,())) fun q3=>bif q3.1 then Option.bind x1 fun q4=>bif decide (x0.2.2.2.2.2.2.2.2.2.1 < ((List.length q4.2.1.2.2.2.2.1):Int)) then some (true,()) else some (false,()) else some (false,()) else some (false,()) else some (true,())
abbrev ziI:Fun:=⟨121,(ch [zf,(.ptr zW)]),(ch [.bool]),0,ziH⟩
theorem zr8:Sq ziI:=ms1 (d:=false) (K:=0) Tryz.func121 (by kernel_rfl) (funext fun (x0,x1,())=>by kernel_rfl)
def zcv:((List zo) × ((Option ((zo × Unit)→Option (Bool × Unit))) × Unit))→Option (Bool × Unit):=fun (x0,x1,()) =>
  Option.bind (zeI (x0,x1,())) fun q0=>bif decide (q0.1 ≥ 0) then some (true,()) else some (false,())
abbrev zcw:Fun:=⟨213,(ch [(.sl zf),(.fn (ch [zf]) (ch [.bool]))]),(ch [.bool]),0,zcv⟩
theorem zjl:Sq zcw:=ms1 (d:=false) (K:=0) Tryz.func213 (by kernel_rfl) (funext fun (x0,x1,())=>by kernel_rfl)
def zdJ:(zr × ((Option qg) × Unit))→Option (Bool × Unit):=fun (x0,x1,()) =>
  Option.bind x1 fun q0=>bif decide (x0.2.1 < ((List.length q0.1.2.1):Int)) then Option.bind x1 fun q1=>inR x0.2.1 ((List.length q1.1.2.1):Int) (bif x0.2.2.1 == ix (0:Int) q1.1.2.1 x0.2.1 then Option.bind x1 fun q2=>Option.bind (qA (q2,x0.2.2.2.1,())) fun q3=>bif q3.1 then Option.bind x1 fun q4=>bif decide (x0.1 ≤ q4.2.1.1) then some (true,()) else some (false,()) else some (false,()) else some (false,())) else some (false,())
abbrev ziJ:Fun:=⟨125,(ch [zi,(.ptr zW)]),(ch [.bool]),0,zdJ⟩
theorem zr9:Sq ziJ:=ms1 (d:=false) (K:=0) Tryz.func125 (by kernel_rfl) (funext fun (x0,x1,())=>by kernel_rfl)
def zcx:((List zr) × ((Option ((zr × Unit)→Option (Bool × Unit))) × Unit))→Option (Bool × Unit):=fun (x0,x1,()) =>
  Option.bind (zeK (x0,x1,())) fun q0=>bif decide (q0.1 ≥ 0) then some (true,()) else some (false,())
abbrev zcy:Fun:=⟨215,(ch [(.sl zi),(.fn (ch [zi]) (ch [.bool]))]),(ch [.bool]),0,zcx⟩
theorem zjm:Sq zcy:=ms1 (d:=false) (K:=0) Tryz.func215 (by kernel_rfl) (funext fun (x0,x1,())=>by kernel_rfl)
def yH:(Int × ((Option qg) × Unit))→Option (Bool × Unit):=fun (x0,x1,()) =>
  bif x0 == -1 then some (true,()) else Option.bind x1 fun q0=>Option.bind (qA (q0,x0,())) fun q1=>bif q1.1 then some (true,()) else some (false,())
abbrev ziK:Fun:=⟨127,(ch [tI,(.ptr zW)]),(ch [.bool]),0,yH⟩
theorem zsa:Sq ziK:=ms1 (d:=false) (K:=0) Tryz.func127 (by kernel_rfl) (funext fun (x0,x1,())=>by kernel_rfl)
def zk1:(qg × (Int × (Int × Unit)))→Option (Bool × Unit):=fun (x0,x1,x2,()) =>
  Option.bind (zdq (x0,x1,())) fun q0=>bif q0.1 then Option.bind (zdq (x0,x2,())) fun q1=>bif q1.1 then inR x1 ((List.length x0.1.1):Int) (inR x2 ((List.length x0.1.1):Int) (Option.bind (zq9 (ix zcW x0.1.1 x1,ix zcW x0.1.1 x2,())) fun q2=>bif q2.1 then some (true,()) else some (false,()))) else some (false,()) else some (false,())
abbrev zre:Fun:=⟨137,(ch [zW,tI,tI]),(ch [.bool]),0,zk1⟩
theorem zyW:Sq zre:=ms1 (d:=false) (K:=0) Tryz.func137 (by kernel_rfl) (funext fun (x0,x1,x2,())=>by kernel_rfl)
def zdj:((List z1) × ((Option ((z1 × Unit)→Option (Bool × Unit))) × Unit))→Option (Bool × Unit):=fun (x0,x1,()) =>
  Option.bind (zbI (x0,x1,())) fun q0=>bif decide (q0.1 ≥ 0) then some (true,()) else some (false,())
abbrev zdk:Fun:=⟨219,(ch [(.sl zC),(.fn (ch [zC]) (ch [.bool]))]),(ch [.bool]),0,zdj⟩
theorem zk2:Sq zdk:=ms1 (d:=false) (K:=0) Tryz.func219 (by kernel_rfl) (funext fun (x0,x1,())=>by kernel_rfl)
def zd6:((List z4) × ((Option ((z4 × Unit)→Option (Bool × Unit))) × Unit))→Option (Bool × Unit):=fun (x0,x1,()) =>
  Option.bind (zgA (x0,x1,())) fun q0=>bif decide (q0.1 ≥ 0) then some (true,()) else some (false,())
abbrev zd7:Fun:=⟨222,(ch [(.sl zI),(.fn (ch [zI]) (ch [.bool]))]),(ch [.bool]),0,zd6⟩
theorem zl1:Sq zd7:=ms1 (d:=false) (K:=0) Tryz.func222 (by kernel_rfl) (funext fun (x0,x1,())=>by kernel_rfl)
def zdK:(z5 × ((Option qg) × Unit))→Option (Bool × Unit):=fun (x0,x1,()) =>
  bif x0.2.2.1 != 1 then some (true,()) else Option.bind x1 fun q0=>Option.bind (qA (q0,x0.2.2.2.1,())) fun q1=>bif q1.1 then some (true,()) else some (false,())
abbrev ziL:Fun:=⟨134,(ch [zA,(.ptr zW)]),(ch [.bool]),0,zdK⟩
theorem zsb:Sq ziL:=ms1 (d:=false) (K:=0) Tryz.func134 (by kernel_rfl) (funext fun (x0,x1,())=>by kernel_rfl)
def qo:(zL × ((Option qg) × Unit))→Option (Bool × Unit):=fun (x0,x1,()) =>
  bif x0.1 then Option.bind x1 fun q0=>Option.bind (qA (q0,x0.2.1,())) fun q1=>bif q1.1 then Option.bind x1 fun q2=>Option.bind (qA (q2,x0.2.2.1,())) fun q3=>bif q3.1 then some (true,()) else some (false,()) else some (false,()) else some (true,())
abbrev ziM:Fun:=⟨139,(ch [zp,(.ptr zW)]),(ch [.bool]),0,qo⟩
theorem zsc:Sq ziM:=ms1 (d:=false) (K:=0) Tryz.func139 (by kernel_rfl) (funext fun (x0,x1,())=>by kernel_rfl)
def zdL:((List zL) × ((Option ((zL × Unit)→Option (Bool × Unit))) × Unit))→Option ((Option zaf) × Unit):=fun (x0,x1,()) =>
  bif Option.isNone x1 then some (none,()) else Option.bind (zbl (x0,())) fun q0=>some (some (q0.1,x1,()),())
abbrev ziN:Fun:=⟨140,(ch [(.sl zp),(.fn (ch [zp]) (ch [.bool]))]),(ch [(.ptr jN)]),0,zdL⟩
theorem zsd:Sq ziN:=ms1 (d:=false) (K:=0) Tryz.func140 (by kernel_rfl) (funext fun (x0,x1,())=>by kernel_rfl)
def zeR:((Option zaf) × (Int × Unit))→Option (Bool × Unit):=fun (x0,x1,()) =>
  Option.bind (zdH (x0,())) fun q0=>bif q0.1 then bif decide (x1 ≥ 0) then Option.bind x0 fun q1=>bif decide (x1 < ((List.length q1.1):Int)) then Option.bind x0 fun q2=>Option.bind x0 fun q3=>inR x1 ((List.length q3.1):Int) (Option.bind q2.2.1 fun q4=>Option.bind (q4 (ix zb0 q3.1 x1,())) fun q5=>bif q5.1 then some (true,()) else some (false,())) else some (false,()) else some (false,()) else some (false,())
abbrev zj3:Fun:=⟨142,(ch [(.ptr jN),tI]),(ch [.bool]),0,zeR⟩
theorem ztG:Sq zj3:=ms1 (d:=false) (K:=0) Tryz.func142 (by kernel_rfl) (funext fun (x0,x1,())=>by kernel_rfl)
def ziO:((List zo) × ((Option ((zo × Unit)→Option (Bool × Unit))) × Unit))→Option ((Option zbj) × Unit):=fun (x0,x1,()) =>
  bif Option.isNone x1 then some (none,()) else Option.bind (zbk (x0,())) fun q0=>some (some (q0.1,x1,()),())
abbrev ziP:Fun:=⟨284,(ch [(.sl zf),(.fn (ch [zf]) (ch [.bool]))]),(ch [(.ptr vL)]),0,ziO⟩
theorem zse:Sq ziP:=ms1 (d:=false) (K:=0) Tryz.func284 (by kernel_rfl) (funext fun (x0,x1,())=>by kernel_rfl)
def zj4:((Option zbj) × (Int × Unit))→Option (Bool × Unit):=fun (x0,x1,()) =>
  Option.bind (zdI (x0,())) fun q0=>bif q0.1 then bif decide (x1 ≥ 0) then Option.bind x0 fun q1=>bif decide (x1 < ((List.length q1.1):Int)) then Option.bind x0 fun q2=>Option.bind x0 fun q3=>inR x1 ((List.length q3.1):Int) (Option.bind q2.2.1 fun q4=>Option.bind (q4 (ix qj q3.1 x1,())) fun q5=>bif q5.1 then some (true,()) else some (false,())) else some (false,()) else some (false,()) else some (false,())
abbrev zj5:Fun:=⟨287,(ch [(.ptr vL),tI]),(ch [.bool]),0,zj4⟩
theorem ztH:Sq zj5:=ms1 (d:=false) (K:=0) Tryz.func287 (by kernel_rfl) (funext fun (x0,x1,())=>by kernel_rfl)
abbrev zca:Type:=Int × (List Int) × Int × Int
abbrev zxZ:zca→St:=fun (v4,v9,v10,v11)=>St.mk [(4,.dat tU v4),(9,.dat (.sl tU) v9),(10,.dat tI v10),(11,.dat tI v11)] []
def zpK (k0:zca→Option (Int × (Int × Unit))):zca→Option (Int × (Int × Unit)):=fun (v4,v9,v10,v11) =>
  bif decide (v11 < v10) then inR v11 ((List.length v9):Int) (Option.bind (zrb (v4,ix (0:Int) v9 v11,())) fun q0=>bif q0.2.1 != 0 then some (0,q0.2.1,()) else k0 (q0.1,v9,v10,wI (v11 + 1))) else some (v4,0,())
abbrev zpL (K:Nat):zca→Option (Int × (Int × Unit)):=zl zpK K
theorem zx0 (K:Nat):∀ n,evV Es1 K Tryz.f82 0 (ch [tU,tI]) [1,1,0,1,0] [] zxZ n = zl zpK n:=zn fun n0 (v4,v9,v10,v11)=>by kernel_rfl
def zm7 (L0:zca→Option (Int × (Int × Unit))):((List Int) × Unit)→Option (Int × (Int × Unit)):=fun (x0,()) =>
  L0 (0,x0,((List.length x0):Int),0)
def zeS:((List Int) × Unit)→Option (Int × Int × Unit):=zm7 (zpL K0)
abbrev ztI:Fun:=⟨82,(ch [(.sl tU)]),(ch [tU,tI]),0,zeS⟩
theorem zAf:Sq ztI:=ml1 (d:=false) (S:=fun K=>zm7 (zpL K)) Tryz.func82 (by kernel_rfl) (fun K=>tr1 (T:=zm7) (zx0 K K) fun (x0,())=>by kernel_rfl) rfl
def zho:((List Int) × (Int × Unit))→Option (Bool × Unit):=fun (x0,x1,()) =>
  Option.bind (zlS (x0,x1,())) fun q0=>bif decide (q0.1 ≥ 0) then some (true,()) else some (false,())
abbrev zhp:Fun:=⟨232,(ch [(.sl tI),tI]),(ch [.bool]),0,zho⟩
theorem zqO:Sq zhp:=ms1 (d:=false) (K:=0) Tryz.func232 (by kernel_rfl) (funext fun (x0,x1,())=>by kernel_rfl)
abbrev L2:List Fun:=znx :: zhl :: zhm :: ziC :: zcr :: zhn :: zeQ :: zj2 :: zd5 :: zde :: zlW :: zbU :: zfv :: ziE :: zpD :: zct :: zdg :: zpF :: zpH :: zdh :: zgF :: zdi :: zlY :: zl0 :: zcu :: zrd :: zpJ :: ziI :: zcw :: ziJ :: zcy :: ziK :: zre :: zdk :: zd7 :: ziL :: ziM :: ziN :: zj3 :: ziP :: zj5 :: ztI :: zhp :: L1
theorem h2:Sds Tryz.prog E0 L2:=⟨zwb,zqL,zqM,zr6,zji,zqN,zm6,ztF,zlU,zkW,zuU,zhG,zoh,zr7,zxV,zjj,zkX,zxW,zxX,zkY,zpI,zkZ,zuV,zuW,zjk,zyV,zxY,zr8,zjl,zr9,zjm,zsa,zyW,zk2,zl1,zsb,zsc,zsd,ztG,zse,ztH,zAf,zqO,h1⟩
theorem ms2 {d:Bool} {F:Fun} {f:Go.Func} {K:Nat} (hf:Tryz.prog.funcs[F.id]? = some f) (ho:qV f = true) (h:evF (En E0 d L2) K f F.md F.a F.r = F.spec):Sd Tryz.prog E0 F:=mkS h2 hf ho h
theorem ml2 {d:Bool} {F:Fun} {f:Go.Func} {S:Nat→F.a.I→Option F.r.I} (hf:Tryz.prog.funcs[F.id]? = some f) (ho:qV f = true) (h:∀ K,evF (En E0 d L2) K f F.md F.a F.r = S K) (e:S K0 = F.spec):Sd Tryz.prog E0 F:=mkS h2 hf ho ((h K0).trans e)
abbrev Es2:Env:=En E0 false L2
abbrev za4:Type:=Int × zm × zm
abbrev zl2:za4→St:=fun (v6,o0,o1)=>St.mk [(2,.bp 0 []),(3,.bp 1 []),(6,.dat tI v6)] [.bx (.dat zt o0) false,.bx (.dat zt o1) false]
abbrev za5:Type:=Int × zm × zm
abbrev zuX:za5→St:=fun (v5,o0,o1)=>St.mk [(2,.bp 0 []),(3,.bp 1 []),(5,.dat tI v5)] [.bx (.dat zt o0) false,.bx (.dat zt o1) false]
def za6 (k1:za4→Option (Bool × Unit)):za4→Option (Bool × Unit):=fun (v6,o0,o1) =>
  bif decide (v6 < ((List.length o0.2.2.2.2.2.1):Int)) then inR v6 ((List.length o0.2.2.2.2.2.1):Int) (inR v6 ((List.length o1.2.2.2.2.2.1):Int) (bif ix (0:Int) o0.2.2.2.2.2.1 v6 != ix (0:Int) o1.2.2.2.2.2.1 v6 then some (false,()) else k1 (wI (v6 + 1),o0,o1))) else some (true,())
abbrev zco (K:Nat):za4→Option (Bool × Unit):=zl za6 K
theorem zuY (K:Nat):∀ n,evV Es2 K Tryz.f6 0 (ch [.bool]) [1,1,1,0,1,0] [] zl2 n = zl za6 n:=zn fun n1 (v6,o0,o1)=>by kernel_rfl
def yx (L1:za4→Option (Bool × Unit)) (k0:za5→Option (Bool × Unit)):za5→Option (Bool × Unit):=fun (v5,o0,o1) =>
  bif decide (v5 < ((List.length o0.2.1):Int)) then inR v5 ((List.length o0.2.1):Int) (inR v5 ((List.length o1.2.1):Int) (Option.bind (zaH (ix za o0.2.1 v5,ix za o1.2.1 v5,())) fun q3=>bif q3.1 then k0 (wI (v5 + 1),o0,o1) else some (false,()))) else L1 (0,o0,o1)
abbrev zfV (K:Nat):za5→Option (Bool × Unit):=zl (fun k0=>yx (zco K) k0) K
theorem zuZ (K:Nat):∀ n,evV Es2 K Tryz.f6 0 (ch [.bool]) [1,1,0,1,0] [] zuX n = zl (fun k0=>yx (zco K) k0) n:=qk (B:=fun L1 k0=>yx L1 k0) (V1:=fun n0=>evV Es2 K Tryz.f6 0 (ch [.bool]) [1,1,1,0,1,0] [] zl2 K) (W1:=fun k0=>(zco K)) (fun n0=>zuY K K) fun n0 (v5,o0,o1)=>by kernel_rfl
def zeT (L0:za5→Option (Bool × Unit)):(zm × (zm × Unit))→Option (Bool × Unit):=fun (x0,x1,()) =>
  bif x0.1 != x1.1 then some (false,()) else bif ((List.length x0.2.1):Int) != ((List.length x1.2.1):Int) then some (false,()) else bif ((List.length x0.2.2.2.2.2.1):Int) != ((List.length x1.2.2.2.2.2.1):Int) then some (false,()) else Option.bind (zh0 (x0.2.2.1,x1.2.2.1,())) fun q0=>bif q0.1 then Option.bind (zh2 (x0.2.2.2.1,x1.2.2.2.1,())) fun q1=>bif q1.1 then Option.bind (zh4 (x0.2.2.2.2.1,x1.2.2.2.2.1,())) fun q2=>bif q2.1 then L0 (0,x0,x1) else some (false,()) else some (false,()) else some (false,())
def yI:(zm × zm × Unit)→Option (Bool × Unit):=zeT (zfV K0)
abbrev zpM:Fun:=⟨6,(ch [zt,zt]),(ch [.bool]),0,yI⟩
theorem zx1:Sq zpM:=ml2 (d:=false) (S:=fun K=>zeT (zfV K)) Tryz.func6 (by kernel_rfl) (fun K=>tr1 (T:=zeT) (zuZ K K) fun (x0,x1,())=>by kernel_rfl) rfl
def jQ:(zm × (zm × Unit))→Option (Bool × Unit):=fun (x0,x1,()) =>
  bif x0.1 == x1.1 then Option.bind (zbn (x0.2.1,x1.2.1,some j5,())) fun q0=>bif q0.1 then Option.bind (zbE (x0.2.2.1,x1.2.2.1,some yw,())) fun q1=>bif q1.1 then Option.bind (zdD (x0.2.2.2.1,x1.2.2.2.1,())) fun q2=>bif q2.1 then Option.bind (zdF (x0.2.2.2.2.1,x1.2.2.2.2.1,())) fun q3=>bif q3.1 then Option.bind (yw (x0.2.2.2.2.2.1,x1.2.2.2.2.2.1,())) fun q4=>bif q4.1 then some (true,()) else some (false,()) else some (false,()) else some (false,()) else some (false,()) else some (false,()) else some (false,())
abbrev zpN:Fun:=⟨7,(ch [zt,zt]),(ch [.bool]),0,jQ⟩
theorem zx2:Sq zpN:=ms2 (d:=false) (K:=0) Tryz.func7 (by kernel_rfl) (funext fun (x0,x1,())=>by kernel_rfl)
def zrf:(zZ × (zZ × Unit))→Option (Int × Unit):=fun (x0,x1,()) =>
  Option.bind (zcM (x0.1,x1.1,())) fun q0=>Option.bind (zbt (x0.2.1,x1.2.1,())) fun q1=>Option.bind (zih (zj (zj (List.replicate 2 (0:Int)) 0 q0.1) 1 q1.1,())) fun q2=>some (q2.1,())
abbrev zrg:Fun:=⟨184,(ch [zG,zG]),(ch [tI]),0,zrf⟩
theorem zyX:Sq zrg:=ms2 (d:=false) (K:=0) Tryz.func184 (by kernel_rfl) (funext fun (x0,x1,())=>by kernel_rfl)
def zgR:(zw × Unit)→Option (Bool × Unit):=fun (x0,()) =>
  Option.bind (qa (((List.length x0.2.1):Int),1,8,())) fun q0=>bif q0.1 then Option.bind (qC (x0.2.1,some fun z=>zj1 (z.1,some x0,()),())) fun q1=>bif q1.1 then some (false,()) else some (true,()) else some (false,())
abbrev zny:Fun:=⟨105,(ch [zB]),(ch [.bool]),0,zgR⟩
theorem zwc:Sq zny:=ms2 (d:=false) (K:=0) Tryz.func105 (by kernel_rfl) (funext fun (x0,())=>by kernel_rfl)
def zm8:(ByteArray × ((Option ((Int × Unit)→Option (Bool × Unit))) × Unit))→Option (Bool × Unit):=fun (x0,x1,()) =>
  Option.bind (zdd (List.map (fun b=>(↑(UInt8.toNat b):Int)) (Array.toList (ByteArray.data x0)),some fun z=>zpc (z.1,some x1,()),())) fun q0=>bif q0.1 then some (false,()) else some (true,())
abbrev ztJ:Fun:=⟨257,(ch [.str,(.fn (ch [(.int .u8)]) (ch [.bool]))]),(ch [.bool]),0,zm8⟩
theorem zAg:Sq ztJ:=ms2 (d:=false) (K:=0) Tryz.func257 (by kernel_rfl) (funext fun (x0,x1,())=>by kernel_rfl)
abbrev yJ:Type:=Int × (List z4) × Int × Int × zw × Int
abbrev zsf:yJ→St:=fun (v4,v11,v12,v13,o0,o1)=>St.mk [(1,.bp 0 []),(3,.bp 1 []),(4,.dat tI v4),(11,.dat (.sl qS) v11),(12,.dat tI v12),(13,.dat tI v13)] [.bx (.dat zB o0) false,.bx (.dat tU o1) false]
def ziQ (k0:yJ→Option (Bool × Unit)):yJ→Option (Bool × Unit):=fun (v4,v11,v12,v13,o0,o1) =>
  bif decide (v13 < v12) then inR v13 ((List.length v11):Int) (Option.bind (zpi ((ix zae v11 v13).1,())) fun q0=>bif q0.2.1 != 0 then some (false,()) else bif decide ((ix zae v11 v13).1 ≤ v4) then some (false,()) else Option.bind (qa ((ix zae v11 v13).2.1,0,wI (((List.length o0.2.2.1):Int) - 1),())) fun q1=>bif q1.1 then Option.bind (zfu (o0.1,q0.1,())) fun q2=>bif q2.1 then k0 ((ix zae v11 v13).1,v11,v12,wI (v13 + 1),o0,wU (↑(BitVec.toNat (BitVec.ofInt (IntKind.bits IntKind.u64) o1 ||| BitVec.ofInt (IntKind.bits IntKind.u64) q0.1.2.1)):Int)) else some (false,()) else some (false,())) else bif decide (((List.length o0.2.2.2.1):Int) ≤ 8) then Option.bind (yY (o0.1,some fun z=>zio (z.1,some o1,()),())) fun q3=>bif q3.1 then some (false,()) else some (true,()) else some (false,())
abbrev ziR (K:Nat):yJ→Option (Bool × Unit):=zl ziQ K
theorem zsg (K:Nat):∀ n,evV Es2 K Tryz.f107 0 (ch [.bool]) [1,1,1,0,1,0] [] zsf n = zl ziQ n:=zn fun n0 (v4,v11,v12,v13,o0,o1)=>by kernel_rfl
def zfW (L0:yJ→Option (Bool × Unit)):(zw × Unit)→Option (Bool × Unit):=fun (x0,()) =>
  L0 ((-1),x0.2.2.2.1,((List.length x0.2.2.2.1):Int),0,x0,0)
def zfX:(zw × Unit)→Option (Bool × Unit):=zfW (ziR K0)
abbrev zl3:Fun:=⟨107,(ch [zB]),(ch [.bool]),0,zfX⟩
theorem zu0:Sq zl3:=ml2 (d:=false) (S:=fun K=>zfW (ziR K)) Tryz.func107 (by kernel_rfl) (fun K=>tr1 (T:=zfW) (zsg K K) fun (x0,())=>by kernel_rfl) rfl
abbrev yK:Type:=Int × (List zcV) × Int × Int
abbrev zsh:yK→St:=fun (v3,v23,v24,v25)=>St.mk [(3,.dat tU v3),(23,.dat (.sl zbw) v23),(24,.dat tI v24),(25,.dat tI v25)] []
def ziS (k0:yK→Option (Bool × Unit)):yK→Option (Bool × Unit):=fun (v3,v23,v24,v25) =>
  bif decide (v25 < v24) then inR v25 ((List.length v23):Int) (bif decide ((ix zad v23 v25).2.2.2.2.2.1 > v3) then some (false,()) else Option.bind (zjR (ix zad v23 v25,())) fun q0=>Option.bind (qC (q0.1,some ziD,())) fun q1=>bif q1.1 then some (false,()) else k0 (wU (v3 - (ix zad v23 v25).2.2.2.2.2.1),v23,v24,wI (v25 + 1))) else some (true,())
abbrev ziT (K:Nat):yK→Option (Bool × Unit):=zl ziS K
theorem zsi (K:Nat):∀ n,evV Es2 K Tryz.f108 0 (ch [.bool]) [1,1,1,0,1,0] [] zsh n = zl ziS n:=zn fun n0 (v3,v23,v24,v25)=>by kernel_rfl
def zfY (L0:yK→Option (Bool × Unit)):(zw × Unit)→Option (Bool × Unit):=fun (x0,()) =>
  bif ((List.length x0.2.2.2.2.1):Int) != ((List.length x0.1):Int) then some (false,()) else bif decide (0 < ((List.length x0.2.2.2.2.1):Int)) then bif decide ((ix zad x0.2.2.2.2.1 0).1 < 1) then some (false,()) else L0 (4611686018427387904,x0.2.2.2.2.1,((List.length x0.2.2.2.2.1):Int),0) else none
def zfZ:(zw × Unit)→Option (Bool × Unit):=zfY (ziT K0)
abbrev zl4:Fun:=⟨108,(ch [zB]),(ch [.bool]),0,zfZ⟩
theorem zu1:Sq zl4:=ml2 (d:=false) (S:=fun K=>zfY (ziT K)) Tryz.func108 (by kernel_rfl) (fun K=>tr1 (T:=zfY) (zsi K K) fun (x0,())=>by kernel_rfl) rfl
def zhq:((List zh) × ((Option ((zh × Unit)→Option (Bool × Unit))) × Unit))→Option (Bool × Unit):=fun (x0,x1,()) =>
  Option.bind (zcs (x0,some fun z=>zfe (z.1,some x1,()),())) fun q0=>bif q0.1 then some (false,()) else some (true,())
abbrev zhr:Fun:=⟨110,(ch [(.sl ze),(.fn (ch [ze]) (ch [.bool]))]),(ch [.bool]),0,zhq⟩
theorem zqP:Sq zhr:=ms2 (d:=false) (K:=0) Tryz.func110 (by kernel_rfl) (funext fun (x0,x1,())=>by kernel_rfl)
abbrev za7:Type:=(List z1) × (List z1) × Int × Int
abbrev zu2:za7→St:=fun (v0,v5,v6,v7)=>St.mk [(0,.dat (.sl zC) v0),(5,.dat (.sl zC) v5),(6,.dat tI v6),(7,.dat tI v7)] []
def zl5 (k0:za7→Option (Bool × Unit)):za7→Option (Bool × Unit):=fun (v0,v5,v6,v7) =>
  bif decide (v7 < v6) then inR v7 ((List.length v5):Int) (Option.bind (zpE (ix zbP v5 v7,())) fun q0=>bif q0.1 then some (false,()) else bif (ix zbP v5 v7).1 then Option.bind (zpG (v0,(ix zbP v5 v7).2.1,(ix zbP v5 v7).2.2.2.1,())) fun q1=>bif q1.1 != v7 then some (false,()) else k0 (v0,v5,v6,wI (v7 + 1)) else k0 (v0,v5,v6,wI (v7 + 1))) else some (true,())
abbrev zl6 (K:Nat):za7→Option (Bool × Unit):=zl zl5 K
theorem zu3 (K:Nat):∀ n,evV Es2 K Tryz.f113 0 (ch [.bool]) [1,0,1,0] [] zu2 n = zl zl5 n:=zn fun n0 (v0,v5,v6,v7)=>by kernel_rfl
def ziU (L0:za7→Option (Bool × Unit)):((List z1) × Unit)→Option (Bool × Unit):=fun (x0,()) =>
  L0 (x0,x0,((List.length x0):Int),0)
def zpO:((List z1) × Unit)→Option (Bool × Unit):=ziU (zl6 K0)
abbrev zpP:Fun:=⟨113,(ch [(.sl zC)]),(ch [.bool]),0,zpO⟩
theorem zx3:Sq zpP:=ml2 (d:=false) (S:=fun K=>ziU (zl6 K)) Tryz.func113 (by kernel_rfl) (fun K=>tr1 (T:=ziU) (zu3 K K) fun (x0,())=>by kernel_rfl) rfl
def zrh:(zL × Unit)→Option (Bool × Unit):=fun (x0,()) =>
  Option.bind (zhF (x0.2.1,())) fun q0=>bif q0.1 then Option.bind (zhF (x0.2.2.1,())) fun q1=>bif q1.1 then bif x0.2.1 != x0.2.2.1 then Option.bind (zk0 (x0.2.2.2.1,())) fun q2=>bif q2.1 then Option.bind (zk0 (x0.2.2.2.2.1,())) fun q3=>bif q3.1 then Option.bind (ziu (x0.2.2.2.1,())) fun q4=>bif q4.1 then Option.bind (ziu (x0.2.2.2.2.1,())) fun q5=>bif q5.1 then some (false,()) else some (true,()) else some (true,()) else some (false,()) else some (false,()) else some (false,()) else some (false,()) else some (false,())
abbrev zri:Fun:=⟨208,(ch [zp]),(ch [.bool]),0,zrh⟩
theorem zyY:Sq zri:=ms2 (d:=false) (K:=0) Tryz.func208 (by kernel_rfl) (funext fun (x0,())=>by kernel_rfl)
def zk3:(Int × (Int × (Int × Unit)))→Option (Int × (Int × Unit)):=fun (x0,x1,x2,()) =>
  bif x0 != 1 then bif x0 != 2 then some (0,1,()) else bif x1 == 0 then some (0,1,()) else bif x2 == 0 then some (0,1,()) else Option.bind (ziG (x1,x2,())) fun q0=>bif q0.2.1 != 0 then some (0,q0.2.1,()) else bif x0 == 2 then some (x1,0,()) else some (q0.1,0,()) else bif x1 == 0 then some (0,1,()) else bif x2 == 0 then some (0,1,()) else Option.bind (ziG (x1,x2,())) fun q1=>bif q1.2.1 != 0 then some (0,q1.2.1,()) else bif x0 == 2 then some (x1,0,()) else some (q1.1,0,())
abbrev zrj:Fun:=⟨278,(ch [tI,tU,tU]),(ch [tU,tI]),0,zk3⟩
theorem zyZ:Sq zrj:=ms2 (d:=false) (K:=0) Tryz.func278 (by kernel_rfl) (funext fun (x0,x1,x2,())=>by kernel_rfl)
def znz:(zr × (zr × Unit))→Option (Int × Unit):=fun (x0,x1,()) =>
  Option.bind (zbt (x0.1,x1.1,())) fun q0=>Option.bind (zcM (x0.2.1,x1.2.1,())) fun q1=>Option.bind (zih (zj (zj (List.replicate 2 (0:Int)) 0 q0.1) 1 q1.1,())) fun q2=>some (q2.1,())
abbrev znA:Fun:=⟨212,(ch [zi,zi]),(ch [tI]),0,znz⟩
theorem zwd:Sq znA:=ms2 (d:=false) (K:=0) Tryz.func212 (by kernel_rfl) (funext fun (x0,x1,())=>by kernel_rfl)
def zhs:((List zo) × ((Option ((zo × Unit)→Option (Bool × Unit))) × Unit))→Option (Bool × Unit):=fun (x0,x1,()) =>
  Option.bind (zcv (x0,some fun z=>zfn (z.1,some x1,()),())) fun q0=>bif q0.1 then some (false,()) else some (true,())
abbrev zht:Fun:=⟨120,(ch [(.sl zf),(.fn (ch [zf]) (ch [.bool]))]),(ch [.bool]),0,zhs⟩
theorem zqQ:Sq zht:=ms2 (d:=false) (K:=0) Tryz.func120 (by kernel_rfl) (funext fun (x0,x1,())=>by kernel_rfl)
def zcN:((List zr) × ((Option ((zr × Unit)→Option (Bool × Unit))) × Unit))→Option (Bool × Unit):=fun (x0,x1,()) =>
  Option.bind (zcx (x0,some fun z=>zfp (z.1,some x1,()),())) fun q0=>bif q0.1 then some (false,()) else some (true,())
abbrev zhu:Fun:=⟨124,(ch [(.sl zi),(.fn (ch [zi]) (ch [.bool]))]),(ch [.bool]),0,zcN⟩
theorem zqR:Sq zhu:=ms2 (d:=false) (K:=0) Tryz.func124 (by kernel_rfl) (funext fun (x0,x1,())=>by kernel_rfl)
def zam:((List Int) × ((Option ((Int × Unit)→Option (Bool × Unit))) × Unit))→Option (Bool × Unit):=fun (x0,x1,()) =>
  Option.bind (qC (x0,some fun z=>zhh (z.1,some x1,()),())) fun q0=>bif q0.1 then some (false,()) else some (true,())
abbrev zj6:Fun:=⟨126,(ch [(.sl tI),(.fn (ch [tI]) (ch [.bool]))]),(ch [.bool]),0,zam⟩
theorem ztK:Sq zj6:=ms2 (d:=false) (K:=0) Tryz.func126 (by kernel_rfl) (funext fun (x0,x1,())=>by kernel_rfl)
def zj7:(z4 × ((Option qg) × ((Option Int) × Unit)))→Option (Bool × Unit):=fun (x0,x1,x2,()) =>
  Option.bind x1 fun q0=>Option.bind (zdp (q0.2.1,x0,())) fun q1=>bif q1.1 then Option.bind x1 fun q2=>Option.bind x2 fun q3=>Option.bind (zk1 (q2,x0.1,q3,())) fun q4=>bif q4.1 then some (true,()) else some (false,()) else some (false,())
abbrev zj8:Fun:=⟨218,(ch [zI,(.ptr zW),(.ptr tI)]),(ch [.bool]),0,zj7⟩
theorem ztL:Sq zj8:=ms2 (d:=false) (K:=0) Tryz.func218 (by kernel_rfl) (funext fun (x0,x1,x2,())=>by kernel_rfl)
def ziV:((List z1) × ((Option ((z1 × Unit)→Option (Bool × Unit))) × Unit))→Option (Bool × Unit):=fun (x0,x1,()) =>
  Option.bind (zdj (x0,some fun z=>zgw (z.1,some x1,()),())) fun q0=>bif q0.1 then some (false,()) else some (true,())
abbrev ziW:Fun:=⟨129,(ch [(.sl zC),(.fn (ch [zC]) (ch [.bool]))]),(ch [.bool]),0,ziV⟩
theorem zsj:Sq ziW:=ms2 (d:=false) (K:=0) Tryz.func129 (by kernel_rfl) (funext fun (x0,x1,())=>by kernel_rfl)
def yL:((List z5) × ((Option ((z5 × Unit)→Option (Bool × Unit))) × Unit))→Option (Bool × Unit):=fun (x0,x1,()) =>
  Option.bind (zaA (x0,some fun z=>zgy (z.1,some x1,()),())) fun q0=>bif q0.1 then some (false,()) else some (true,())
abbrev ziX:Fun:=⟨131,(ch [(.sl zA),(.fn (ch [zA]) (ch [.bool]))]),(ch [.bool]),0,yL⟩
theorem zsk:Sq ziX:=ms2 (d:=false) (K:=0) Tryz.func131 (by kernel_rfl) (funext fun (x0,x1,())=>by kernel_rfl)
def zj9:((List z4) × ((Option ((z4 × Unit)→Option (Bool × Unit))) × Unit))→Option (Bool × Unit):=fun (x0,x1,()) =>
  Option.bind (zd6 (x0,some fun z=>zhj (z.1,some x1,()),())) fun q0=>bif q0.1 then some (false,()) else some (true,())
abbrev zka:Fun:=⟨133,(ch [(.sl zI),(.fn (ch [zI]) (ch [.bool]))]),(ch [.bool]),0,zj9⟩
theorem ztM:Sq zka:=ms2 (d:=false) (K:=0) Tryz.func133 (by kernel_rfl) (funext fun (x0,x1,())=>by kernel_rfl)
def yM:(qc × ((Option qg) × ((Option Int) × Unit)))→Option (Bool × Unit):=fun (x0,x1,x2,()) =>
  bif x0.1 then Option.bind x1 fun q0=>Option.bind x2 fun q1=>Option.bind (zk1 (q0,x0.2.1,q1,())) fun q2=>bif q2.1 then Option.bind x1 fun q3=>Option.bind (qA (q3,x0.2.2.1,())) fun q4=>bif q4.1 then Option.bind x1 fun q5=>Option.bind (qA (q5,x0.2.2.2.1,())) fun q6=>bif q6.1 then some (true,()) else some (false,()) else some (false,()) else some (false,()) else some (true,())
abbrev ziY:Fun:=⟨136,(ch [zF,(.ptr zW),(.ptr tI)]),(ch [.bool]),0,yM⟩
theorem zsl:Sq ziY:=ms2 (d:=false) (K:=0) Tryz.func136 (by kernel_rfl) (funext fun (x0,x1,x2,())=>by kernel_rfl)
end
end Go.Proofs.YtlklokhlgcfcdaaGreatDoor
end
