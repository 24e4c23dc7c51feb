import Derived.Test.YtejbgeokcpillaaGreatDoorGrc
import Derived.Carry
import Derived.OpenShut
import Derived.Test.YtejbgeokcpillaaGreatDoorProg
set_option linter.unusedSimpArgs false
set_option linter.unusedVariables false
section
namespace Go.Ev
open Go.RowKit
section
variable {P:Program} {nt:Up} {F0 F G:FH} {w0 w:World} {st st':St} {m:MM} {a:Act} {E:Env} {v:AV} {u:Value}
def znm (ids:Nat→Option Nat) (h:List Obj):(b:Ty)→Nat→b.I→List AV→Prop
  | .pair (.sl σ) b,i,x,v :: vs=>(∃ id,v = .ow id ∧ ids i = some id ∧ atN h id = some (mkO σ (bif σ.deep then some (List.length x.1) else none) x.1)) ∧ znm ids h b (i + 1) x.2 vs
  | .pair a b,i,x,v :: vs=>v = .dat a x.1 ∧ znm ids h b (i + 1) x.2 vs
  | .unit,_,_,[]=>True
  | _,_,_,_=>False
theorem znm.ids {ids ids':Nat→Option Nat} {h:List Obj}:∀ {b:Ty} {i:Nat} {x:b.I} {vs:List AV},(∀ f,i ≤ f→ids' f = ids f)→znm ids h b i x vs→znm ids' h b i x vs:=by
  intro b
  induction b with
  | unit=>intro i x vs _ ho; cases vs <;> exact ho
  | pair t b _ ihb =>
    intro i x vs hi ho
    cases vs with
    | nil=>cases t <;> exact ho.elim
    | cons v vs =>
      cases t with
      | sl σ =>
        obtain ⟨⟨id,h1,h2,h3⟩,h4⟩:=ho
        exact ⟨⟨id,h1,by rw [hi i (Nat.le_refl _)]; exact h2,h3⟩,ihb (fun f hf=>hi f (by omega)) h4⟩
      | _=>exact ⟨ho.1,ihb (fun f hf=>hi f (by omega)) ho.2⟩
  | _=>intro i x vs _ ho; cases vs <;> exact ho.elim
theorem znm.heap {ids:Nat→Option Nat} {h h':List Obj}:∀ {b:Ty} {i:Nat} {x:b.I} {vs:List AV},(∀ f id,ids f = some id→atN h' id = atN h id)→znm ids h b i x vs→znm ids h' b i x vs:=by
  intro b
  induction b with
  | unit=>intro i x vs _ ho; cases vs <;> exact ho
  | pair t b _ ihb =>
    intro i x vs hi ho
    cases vs with
    | nil=>cases t <;> exact ho.elim
    | cons v vs =>
      cases t with
      | sl σ =>
        obtain ⟨⟨id,h1,h2,h3⟩,h4⟩:=ho
        exact ⟨⟨id,h1,h2,by rw [hi _ _ h2]; exact h3⟩,ihb hi h4⟩
      | _=>exact ⟨ho.1,ihb hi ho.2⟩
  | _=>intro i x vs _ ho; cases vs <;> exact ho.elim
theorem zGM {h h0 h1:List Obj} (hdr:∀ i τ xs k,atN h i = some (.drow τ xs k)→τ.deep = true) {t:Ty} {x:t.I} (hz:zue h0 t v = some (x,h1)) (l:yI h0 h) :
    (v = .dat t x ∧ t.dl = false ∧ h1 = h0) ∨ ∃ (σ:Ty) (xs:List σ.I) (id:Nat),(⟨t,x⟩:(τ:Ty) × τ.I) = ⟨.sl σ,xs⟩ ∧ v = .ow id ∧ atN h id = some (mkO σ (bif σ.deep then some (List.length xs) else none) xs) ∧ atN h0 id ≠ some .gone ∧ (∃ o,atN h0 id = some o) ∧ h1 = zi h0 id .gone:=by
  cases v with
  | dat τ y =>
    simp only [zue] at hz
    obtain ⟨hdl,hz⟩:=ql hz
    split at hz
    · rename_i z hc
      cases hz
      obtain ⟨rfl,rfl⟩:=zN hc
      exact .inl ⟨rfl,hdl,rfl⟩
    · cases hz
  | ow id =>
    simp only [zue] at hz
    right
    split at hz
    · rename_i τ xs ho
      obtain ⟨hd,hz⟩:=ql hz
      split at hz
      · rename_i z hc
        cases hz
        obtain ⟨e,rfl⟩:=zN hc
        subst e
        refine ⟨τ,xs,id,rfl,rfl,?_,(by rw [ho]; intro e; cases e),⟨_,ho⟩,rfl⟩
        rw [l.at ho (by intro e; cases e),hd]
        rfl
      · cases hz
    · rename_i τ xs n ho
      split at hz
      · rename_i z hc
        obtain ⟨hn,hz⟩:=za hz
        cases hz
        obtain ⟨e,rfl⟩:=zN hc
        subst e
        have hat:=l.at ho (by intro e; cases e)
        refine ⟨τ,xs,id,rfl,rfl,?_,(by rw [ho]; intro e; cases e),⟨_,ho⟩,rfl⟩
        rw [hat,hdr _ _ _ _ hat,of_decide_eq_true hn]
        rfl
      · cases hz
    · cases hz
  | _=>cases hz
theorem zzi {h:List Obj} (hdr:∀ i τ xs k,atN h i = some (.drow τ xs k)→τ.deep = true):∀ {b:Ty} {vs:List AV} {x:b.I} {h0 h1:List Obj} (i:Nat),ownC b vs h0 = some (x,h1)→yI h0 h →
    ∃ ids:Nat→Option Nat,znm ids h b i x vs ∧ yI h1 h ∧ (∀ f id,ids f = some id→i ≤ f ∧ atN h0 id ≠ some .gone ∧ atN h1 id = some .gone ∧ ∃ σ k xs,atN h id = some (mkO σ k xs)) ∧ (∀ j,atN h0 j = some .gone→atN h1 j = some .gone) ∧
      ∀ f f' id,ids f = some id→ids f' = some id→f = f':=by
  intro b
  induction b with
  | unit =>
    intro vs x h0 h1 i hz l
    cases vs with
    | nil=>cases hz; exact ⟨fun _=>none,trivial,l,fun f id e=>(by cases e),fun _ h=>h,fun f f' id e=>(by cases e)⟩
    | cons _ _=>cases hz
  | pair t b _ ihb =>
    intro vs x h0 h1 i hz l
    cases vs with
    | nil=>cases hz
    | cons v vs =>
      simp only [ownC] at hz
      split at hz
      · rename_i y h2 hy
        split at hz
        · rename_i ys h3 hys
          cases hz
          rcases zGM hdr hy l with ⟨rfl,hdl,rfl⟩ | ⟨σ,xs,id,e,rfl,hat,hng,⟨o,ho⟩,rfl⟩
          · obtain ⟨ids,g1,g2,g3,g4,g5⟩:=ihb (i + 1) hys l
            refine ⟨ids,?_,g2,fun f id hf=>⟨by have:=(g3 f id hf).1; omega,(g3 f id hf).2⟩,g4,g5⟩
            cases t with
            | sl σ=>cases hdl
            | _=>exact ⟨rfl,g1⟩
          · cases e
            obtain ⟨ids,g1,g2,g3,g4,g5⟩:=ihb (i + 1) hys (l.gone ho)
            have hid:atN (zi h0 id .gone) id = some .gone:=yq ho
            have hids:∀ f,i + 1 ≤ f→(if f = i then some id else ids f) = ids f:=fun f hf=>by rw [if_neg (by omega)]
            refine ⟨fun f=>if f = i then some id else ids f,⟨⟨id,rfl,if_pos rfl,hat⟩,g1.ids hids⟩,g2,fun f id' hf=>?_,fun j hj=>?_,fun f f' id' hf hf'=>?_⟩
            · by_cases e:f = i
              · simp only [e,if_true,Option.some.injEq] at hf
                subst hf
                exact ⟨by omega,hng,g4 _ hid,σ,_,_,hat⟩
              · simp only [e,if_false] at hf
                obtain ⟨k1,k2,k3,k4⟩:=g3 f id' hf
                refine ⟨by omega,fun hg=>k2 ?_,k3,k4⟩
                by_cases e2:id = id'
                · rw [← e2]; exact hid
                · rw [qc e2]; exact hg
            · refine g4 j ?_
              by_cases e2:id = j
              · rw [← e2]; exact hid
              · rw [qc e2]; exact hj
            · by_cases e:f = i <;> by_cases e':f' = i
              · omega
              · simp only [e,if_true,Option.some.injEq] at hf
                simp only [e',if_false] at hf'
                subst hf
                exact absurd hid (g3 f' _ hf').2.1
              · simp only [e,if_false] at hf
                simp only [e',if_true,Option.some.injEq] at hf'
                subst hf'
                exact absurd hid (g3 f _ hf).2.1
              · simp only [e,if_false] at hf
                simp only [e',if_false] at hf'
                exact g5 f f' id' hf hf'
        · cases hz
      · cases hz
  | _=>intro vs x h0 h1 i hz l; cases vs <;> cases hz
def MM.ofI (m:MM) (ids:Nat→Option Nat):Nat→Nat→List Nat→Option (Nat × Nat):=fun f=>match ids f with | some id=>m.d id | none=>fun _ _=>none
theorem MM.ofI_some {m:MM} {ids:Nat→Option Nat} {f j:Nat} {p:List Nat} {b:Nat × Nat} (h:m.ofI ids f j p = some b):∃ id,ids f = some id ∧ m.d id j p = some b:=by
  unfold MM.ofI at h
  cases hi:ids f with
  | none=>rw [hi] at h; cases h
  | some id=>rw [hi] at h; exact ⟨id,rfl,h⟩
theorem zEu (h:Rel P nt F0 w0 st m F a w) {ids:Nat→Option Nat}:∀ {b:Ty} {i:Nat} {x:b.I} {vs:List AV} {cs:List Value},znm ids st.h b i x vs→zT P st.h m F b vs cs→zg0 P F w (fun f=>(ids f).bind m) (m.ofI ids) b i x cs:=by
  intro b
  induction b with
  | unit =>
    intro i x vs cs ho hv
    cases vs with
    | nil=>exact hv
    | cons _ _=>exact hv.elim
  | pair t b _ ihb =>
    intro i x vs cs ho hv
    cases vs with
    | nil=>exact hv.elim
    | cons v vs =>
      obtain ⟨c,d,rfl,h1,h2⟩:=hv
      cases t with
      | sl σ =>
        obtain ⟨⟨id,rfl,hi,hat⟩,h4⟩:=ho
        obtain ⟨σ',u,e1,rfl,hs,_⟩:=h1
        cases e1
        refine ⟨u,d,rfl,⟨fun j p bk n hp=>?_,?_⟩,ihb h4 h2⟩
        · obtain ⟨id',hi',hp⟩:=MM.ofI_some hp
          rw [hi] at hi'; cases hi'
          obtain ⟨⟨o,g1,g2⟩,_⟩:=h.dok _ _ _ _ _ hp
          rw [hat] at g1
          cases g1
          cases hd:σ.deep with
          | false=>rw [hd] at g2; cases g2
          | true =>
            rw [hd] at g2
            simp only [cond_true,mkO,Obj.deepAt,decide_eq_true_eq] at g2
            exact ⟨rfl,g2⟩
        · have hq:=zF.owAt hat (znN _ _ _) hs
          show match (ids i).bind m with | some (b,n)=>_ | none=>_
          rw [hi,Option.bind_some]
          cases hmi:m id with
          | none =>
            rw [hmi] at hq
            exact ⟨zBa (h.obs _ _ hat) hmi,hq.2⟩
          | some bn =>
            obtain ⟨bk,n⟩:=bn
            rw [hmi] at hq
            obtain ⟨cap,g1,g2,g3⟩:=hq
            refine ⟨cap,g1,g2,g3,?_⟩
            have:=zo9 (h.obs _ _ hat) hmi
            have hd:m.ofI ids i = m.d id:=by unfold MM.ofI; rw [hi]
            rw [hd]
            exact this
      | _ =>
        obtain ⟨rfl,h4⟩:=ho
        exact ⟨c,d,rfl,h1.2,ihb h4 h2⟩
  | _=>intro i x vs cs ho; cases vs <;> exact ho.elim
theorem zEv (h:Rel P nt F0 w0 st m F a w) {ids:Nat→Option Nat} (hat:∀ f id,ids f = some id→∃ σ k xs,atN st.h id = some (mkO σ k xs)) (hinj:∀ f f' id,ids f = some id→ids f' = some id→f = f'):zAX F w w0.heap.size (fun f=>(ids f).bind m) (m.ofI ids):=by
  refine ⟨fun f b n hf=>?_,fun f j p b n hp=>?_,fun f f' b n n' hf hf'=>?_,fun f j p b n f' j' p' n' hp hp'=>?_,fun f b n f' j p n' hf hp=>?_⟩
  · obtain ⟨id,hi,hf⟩:=Option.bind_eq_some_iff.1 hf
    obtain ⟨σ,k,xs,ho⟩:=hat f id hi
    obtain ⟨el,cs,c,d,_,_,_,hF,_⟩:=zo9 (h.obs _ _ ho) hf
    have:=h.rng _ _ _ hf
    exact ⟨this.2.1,this.2.2,hF⟩
  · obtain ⟨id,hi,hp⟩:=MM.ofI_some hp
    have:=h.dok _ _ _ _ _ hp
    exact ⟨this.2.1,this.2.2.1,this.2.2.2.1⟩
  · obtain ⟨id,hi,hf⟩:=Option.bind_eq_some_iff.1 hf
    obtain ⟨id',hi',hf'⟩:=Option.bind_eq_some_iff.1 hf'
    have:=h.inj _ _ _ _ _ hf hf'
    subst this
    exact hinj _ _ _ hi hi'
  · obtain ⟨id,hi,hp⟩:=MM.ofI_some hp
    obtain ⟨id',hi',hp'⟩:=MM.ofI_some hp'
    obtain ⟨rfl,e2,e3⟩:=h.din _ _ _ _ _ _ _ _ _ hp hp'
    exact ⟨hinj _ _ _ hi hi',e2,e3⟩
  · obtain ⟨id,hi,hf⟩:=Option.bind_eq_some_iff.1 hf
    obtain ⟨id',hi',hp⟩:=MM.ofI_some hp
    exact (h.dok _ _ _ _ _ hp).2.2.2.2 _ _ hf
theorem zHM {ρ:Type} {h:List Obj} {σ:Ty} {v:AV} {k:σ.I→List Obj→Option ρ}:zEI h σ v k = (zue h σ v).bind fun p=>k p.1 p.2:=by
  unfold zEI zue
  cases v with
  | dat τ x =>
    simp only
    cases τ.dl with
    | true=>rfl
    | false=>simp only [cond_false]; cases qH τ σ x <;> rfl
  | ow id =>
    simp only
    cases atN h id with
    | none=>rfl
    | some o =>
      cases o with
      | row τ xs f =>
        cases f with
        | true=>rfl
        | false =>
          simp only
          cases τ.deep with
          | true=>rfl
          | false=>simp only [cond_false]; cases qH (.sl τ) σ xs <;> rfl
      | drow τ xs n =>
        simp only
        cases qH (.sl τ) σ xs with
        | none=>rfl
        | some x=>simp only; cases decide (n = List.length xs) <;> rfl
      | _=>rfl
  | _=>rfl
theorem zBs {ρ:Type}:∀ {σ:Ty} {vs:List AV} {h:List Obj} {k:σ.I→List Obj→Option ρ},zvC σ vs h k = (ownC σ vs h).bind fun p=>k p.1 p.2:=by
  intro σ
  induction σ with
  | unit=>intro vs h k; cases vs <;> rfl
  | pair a b _ ihb =>
    intro vs h k
    cases vs with
    | nil=>rfl
    | cons v vs =>
      simp only [zvC,ownC,zHM,ihb]
      cases zue h a v with
      | none=>rfl
      | some p =>
        obtain ⟨x,h1⟩:=p
        simp only [Option.bind_some]
        cases ownC b vs h1 <;> rfl
  | _=>intro vs h k; cases vs <;> rfl
theorem zGN {md:Nat} {r:Ty} {y:r.I} {vs:List AV} {us:List Value} (h:Rel P nt F0 w0 st m F a w) (hv:jo P st.h m F vs us) (hz:zEJ md r vs st = some y) :
    ∃ F',F0.grow F' w0.heap.size ∧ F'.ok w ∧ zix P F' w w0.heap.size md r y us:=by
  unfold zEJ at hz
  split at hz
  ·
    rename_i b c v vs
    split at hz
    · rename_i x h1 hx
      split at hz
      · rename_i p hp
        cases hz
        obtain ⟨u,r,rfl,hv1,hv2⟩:=hv
        obtain ⟨id,k,rfl,hat,rfl,hkr⟩:∃ id k,v = .ow id ∧ atN st.h id = some (mkO b k x) ∧ h1 = zi st.h id .gone ∧ (k = none ∨ k = some 0):=by
          unfold zF9 at hx
          split at hx
          · rename_i id
            split at hx
            · rename_i τ xs ho
              split at hx
              · rename_i z hc
                cases hx
                obtain ⟨e,rfl⟩:=zN hc
                cases e
                exact ⟨id,none,rfl,ho,rfl,.inl rfl⟩
              · cases hx
            · rename_i τ xs n ho
              split at hx
              · rename_i z hc
                obtain ⟨hn,hx⟩:=za hx
                cases hx
                obtain ⟨e,rfl⟩:=zN hc
                cases e
                have hn:n = 0:=of_decide_eq_true hn
                subst hn
                exact ⟨id,some 0,rfl,ho,rfl,.inr rfl⟩
              · cases hx
            · cases hx
          · cases hx
        obtain ⟨st2fr,st2h⟩:=st
        have l:yI (zi st2h id .gone) st2h:=(yI.refl st2h).gone hat
        obtain ⟨h',e1,e2,e3⟩:=znl l (show jx false c vs ⟨st2fr,zi st2h id .gone⟩ = some (p.1,p.2) from hp)
        obtain ⟨m',F',g1,g2,g3⟩:=zdT e1 h hv2
        have hat':atN h' id = some (mkO b k x):=by rw [(e3.2 id (yq hat)).2]; exact hat
        have hq:=zF.owAt hat' (znN _ _ _) (show zF P h' m' F' (.ow id) u from hv1.ext g3)
        refine ⟨F',g1.gro,g1.fok,?_⟩
        simp only [zix]
        refine ⟨u,r,rfl,g2,?_⟩
        cases hmi:m' id with
        | none =>
          rw [hmi] at hq
          exact .inr ⟨zBa (g1.obs _ _ hat') hmi,hq.2⟩
        | some bn =>
          obtain ⟨bk,n⟩:=bn
          rw [hmi] at hq
          obtain ⟨cap,k1,k2,k3⟩:=hq
          obtain ⟨el,cs,cc,d,f1,f2,f3,f4,f5⟩:=zo9 (g1.obs _ _ hat') hmi
          refine .inl ⟨bk,cap,el,cs,cc,d,k3,k2,(g1.rng _ _ _ hmi).2.1,f1,f4,by rw [f2,k1],f3,?_⟩
          rcases hkr with rfl | rfl
          · exact f5
          · exact zX.toL (fun j x c _ _ hx=>by unfold DE at hx; rw [if_neg (by omega)] at hx; exact hx) (show zX (DE P F' w (m'.d id) b 0) 0 x cc from f5)
      · cases hz
    · cases hz
  ·
    rename_i b c c' vs us'
    obtain ⟨hbc,hz⟩:=za hz
    simp only [decide_eq_true_eq] at hbc
    rw [zBs] at hz
    obtain ⟨⟨x,h1⟩,hx,hz⟩:=Option.bind_eq_some_iff.1 hz
    · split at hz
      · rename_i p hp
        cases hz
        obtain ⟨u,r,rfl,hv1,hv2⟩:=hv
        obtain ⟨cs,rfl,hfs⟩:=(show zE P st.h m F (.fld c' vs) u from hv1)
        subst hbc
        obtain ⟨ids,k1,k2,k3,k4,k5⟩:=zzi (fun i τ xs k ho=>(h.drowk ho).2) 0 hx (yI.refl _)
        obtain ⟨st2fr,st2h⟩:=st
        obtain ⟨h',e1,e2,e3⟩:=znl k2 (show jx false c us' ⟨st2fr,h1⟩ = some (p.1,p.2) from hp)
        obtain ⟨m',F',g1,g2,g3⟩:=zdT e1 h hv2
        have hkeep:∀ f id,ids f = some id→atN h' id = atN st2h id:=fun f id hf=>(e3.2 id (k3 f id hf).2.2.1).2
        refine ⟨F',g1.gro,g1.fok,?_⟩
        simp only [zix]
        refine ⟨.agg cs,r,cs,_,_,rfl,g2,rfl,zEu g1 (k1.heap hkeep) (hfs.ext g3),zEv g1 (fun f id hf=>?_) k5⟩
        obtain ⟨σ,k,xs,ho⟩:=(k3 f id hf).2.2.2
        exact ⟨σ,k,xs,by rw [hkeep f id hf]; exact ho⟩
      · cases hz
  ·
    rename_i b c v us'
    rw [zBs] at hz
    obtain ⟨⟨x,h1⟩,hx,hz⟩:=Option.bind_eq_some_iff.1 hz
    · split at hz
      · rename_i p hp
        cases hz
        obtain ⟨u,r,rfl,hv1,hv2⟩:=hv
        obtain ⟨ids,k1,k2,k3,k4,k5⟩:=zzi (fun i τ xs k ho=>(h.drowk ho).2) 0 hx (yI.refl _)
        obtain ⟨⟨id,rfl,hi0,hat0⟩,_⟩:=(show (∃ id,v = .ow id ∧ ids 0 = some id ∧ atN st.h id = some (mkO b _ x.1)) ∧ _ from k1)
        have hT:zaL st.h id = some b:=by rw [zsI hat0,znN]; rfl
        have hfs:zT P st.h m F (.pair (.sl b) .unit) [.ow id] [u]:=⟨[u],[],rfl,vz.ofRow hT (show zF P st.h m F (.ow id) u from hv1),rfl⟩
        obtain ⟨st2fr,st2h⟩:=st
        obtain ⟨h',e1,e2,e3⟩:=znl k2 (show jx false c us' ⟨st2fr,h1⟩ = some (p.1,p.2) from hp)
        obtain ⟨m',F',g1,g2,g3⟩:=zdT e1 h hv2
        have hkeep:∀ f id,ids f = some id→atN h' id = atN st2h id:=fun f id hf=>(e3.2 id (k3 f id hf).2.2.1).2
        refine ⟨F',g1.gro,g1.fok,?_⟩
        simp only [zix]
        refine ⟨u,r,_,_,rfl,g2,zEu g1 (k1.heap hkeep) (hfs.ext g3),zEv g1 (fun f id hf=>?_) k5⟩
        obtain ⟨σ,k,xs,ho⟩:=(k3 f id hf).2.2.2
        exact ⟨σ,k,xs,by rw [hkeep f id hf]; exact ho⟩
      · cases hz
  ·
    split at hz
    · rename_i p hp
      cases hz
      obtain ⟨m',F',g1,g2,_⟩:=zdT (x:=p.1) (st':=p.2) hp h hv
      exact ⟨F',g1.gro,g1.fok,g2⟩
    · cases hz
  · cases hz
theorem zGO (hm:P.follows .mixedOrders = true) (hE:EnvOk P G E) {fi:FuncId} {f:Func} (hf:P.funcs[fi]? = some f) {K md:Nat} {a r:Ty} {x:a.I} {y:r.I} (he:evF E K f md a r x = some y)
    {F0:FH} {w:World} {vs:List Value} (hG:G.le F0) (hk:F0.ok w) (hr:RepA P F0 a x vs) :
    Calls P fi vs.toArray w fun e w'=>∃ us F',e = .returned (zoV us) ∧ Below w.heap.size w w' ∧ F0.grow F' w.heap.size ∧ F'.ok w' ∧ zix P F' w' w.heap.size md r y us:=by
  unfold evF at he
  cases hb:f.body with
  | none=>rw [hb] at he; cases he
  | some c =>
    rw [hb] at he
    simp only at he
    have hE':EnvOk P G { E with nt:=f.ntmps }:=⟨hE.types,hE.funs,hE.glob,hE.ext,hE.hnd⟩
    refine calls_of_wp hf hb ?_
    refine zEt (nt:=⟨f.ntmps,[],F0⟩) (F0:=F0) (w0:=w) (.inr rfl) hm hE' hG rfl c (r:=y) ?_ ⟨_,F0,Rel.enter hk hr f.ntmps⟩ he
    rintro e st a' w' ⟨m,F,h⟩ hfin
    have hdone:(cond ((f.results.toList.map (zcu { E with nt:=f.ntmps } st)).all Option.isSome) (zEJ md r ((f.results.toList.map (zcu { E with nt:=f.ntmps } st)).filterMap id) st) none) = some y →
        a'.defers = [] ∧ ∃ v,(results f a'.tmps).run P w' = .ok v w' ∧ ∃ us F',Ending.returned v = .returned (zoV us) ∧ Below w.heap.size w w' ∧ F0.grow F' w.heap.size ∧ F'.ok w' ∧ zix P F' w' w.heap.size md r y us:=by
      intro hfin
      obtain ⟨h1,h2⟩:=za hfin
      obtain ⟨us,h3,h4⟩:=ztI hE' h (zjO h1)
      obtain ⟨F',g1,g2,g3⟩:=zGN h h4 h2
      exact ⟨h.dfr,_,h3,us,F',rfl,h.bel,g1,g2,g3⟩
    cases e with
    | normal=>exact hdone hfin
    | ret=>exact hdone hfin
    | exit id=>cases hfin
theorem jo.one {h:List Obj}:∀ {vs:List AV} {us:List Value},jo P h m F vs us→vs.all AV.one = true→zi2 P h m F vs us
  | [],_,e,_=>e
  | v :: vs,_,⟨u,r,e,h1,h2⟩,ho=>by
    simp only [List.all_cons,Bool.and_eq_true] at ho
    rw [zh.eq1 (by rintro ws rfl; cases ho.1)] at h1
    exact ⟨u,r,e,h1,jo.one h2 ho.2⟩
theorem zwb:∀ {vs:List AV} {us:List Value} {h:List Obj} {m:MM} {F:FH} {i t:Nat} {v:AV},look (slots vs i) t = some v→jo P h m F vs us→i ≤ t ∧ ∃ u,us[t - i]? = some u ∧ zh P h m F v u
  | [],_,_,_,_,_,_,_,h,_=>by simp [slots,look] at h
  | x :: vs,_,hp,m,F,i,t,v,h,⟨u,r,rfl,h1,h2⟩=>by
    simp only [slots] at h
    by_cases e:i = t
    · subst e
      simp only [look,beq_self,cond_true,Option.some.injEq] at h
      subst h
      exact ⟨Nat.le_refl _,u,by simp,h1⟩
    · simp only [look,zaN e,cond_false] at h
      obtain ⟨g1,u',g2,g3⟩:=zwb h h2
      refine ⟨by omega,u',?_,g3⟩
      rw [show t - i = (t - (i + 1)) + 1 by omega,List.getElem?_cons_succ]
      exact g2
theorem zIv (hm:P.follows .mixedOrders = true) (hE:EnvOk P G E) {fi:FuncId} {f:Func} (hf:P.funcs[fi]? = some f) (hn:(f.name == "runtime.NumGoroutine") = false) (hb':f.body.isNone = false):zIS P G fi (zI1 E f):=by
  refine ⟨⟨f,hf,hn,hb'⟩,fun args h h' v he nt F0 w0 fr m F a w vs hG hr hv=>?_⟩
  change zpf E f (AV × List Obj) args h (fun v h=>some (v,h)) = some (v,h') at he
  unfold zpf at he
  cases hb:f.body with
  | none=>rw [hb] at he; cases he
  | some c =>
    rw [hb] at he
    simp only at he
    have hE':EnvOk P G (inE E f):=⟨hE.types,hE.funs,hE.glob,hE.ext,hE.hnd⟩
    refine calls_of_wp hf hb ?_
    let up:List (AV × Value):=fr.filterMap (fun p=>(look fr p.1).map fun v=>(v,a.tmps.getD p.1 undef)) ++ nt.up
    have hup:∀ v u,(v,u) ∈ up→zh P h m F v u:=by
      intro v u hv
      rcases List.mem_append.1 hv with hv | hv
      · obtain ⟨p,hp,e⟩:=List.mem_filterMap.1 hv
        obtain ⟨v',h1,h2⟩:=Option.map_eq_some_iff.1 e
        cases h2
        exact hr.fr _ _ h1
      · exact hr.up v u hv
    have hst:Rel P ⟨f.ntmps,up,F⟩ F0 w0 ⟨slots args 0,h⟩ m F { tmps:=vs.toArray ++ Array.replicate (f.ntmps - vs.toArray.size) undef,defers:=[] } w:=by
      refine ⟨by simp; omega,fun t v ht=>?_,hup,.refl F,hr.obs,hr.inj,hr.rng,hr.dok,hr.din,hr.fok,hr.gro,hr.bel,rfl⟩
      obtain ⟨_,u,h2,h3⟩:=zwb ht hv
      rw [Nat.sub_zero] at h2
      have hlt:=(List.getElem?_eq_some_iff.1 h2).1
      have:(vs.toArray ++ Array.replicate (f.ntmps - vs.toArray.size) undef).getD t undef = u:=by
        rw [Array.getD_eq_getD_getElem?,Array.getElem?_append_left (by simpa using hlt)]
        simp [h2]
      rw [this]
      exact h3
    refine zEt (nt:=⟨f.ntmps,up,F⟩) (F0:=F0) (w0:=w0) (.inl rfl) hm hE' hG rfl c (r:=(v,h')) ?_ ⟨m,F,hst⟩ he
    rintro e st a' w' ⟨m',F',h2⟩ hfin
    have hdone:(cond ((f.results.toList.map (zcu (inE E f) st)).all Option.isSome && ((f.results.toList.map (zcu (inE E f) st)).filterMap id).all AV.one) (some (unT ((f.results.toList.map (zcu (inE E f) st)).filterMap id),st.h)) none) = some (v,h') →
        a'.defers = [] ∧ ∃ v1,(results f a'.tmps).run P w' = .ok v1 w' ∧ ∃ u m' F',Ending.returned v1 = .returned u ∧ F.le F' ∧ Rel P nt F0 w0 ⟨fr,h'⟩ m' F' a w' ∧ zh P h' m' F' v u:=by
      intro hfin
      obtain ⟨g1,g2⟩:=za hfin
      rw [Bool.and_eq_true] at g1
      cases g2
      obtain ⟨us,g3,g4⟩:=ztI hE' h2 (zjO g1.1)
      refine ⟨h2.dfr,_,g3,_,m',F',rfl,h2.lo,⟨hr.nt,fun t v ht=>?_,fun v u hv=>h2.up v u (List.mem_append.2 (.inr hv)),hr.lo.trans h2.lo,h2.obs,h2.inj,h2.rng,h2.dok,h2.din,h2.fok,h2.gro,h2.bel,hr.dfr⟩,zcG (jo.one g4 g1.2)⟩
      have hmem:∀ (l:List (Nat × AV)),look l t = some v→∃ p ∈ l,p.1 = t:=by
        intro l
        induction l with
        | nil=>intro h; simp [look] at h
        | cons p l ih =>
          intro h
          obtain ⟨k,y⟩:=p
          simp only [look] at h
          cases hb:Nat.beq k t with
          | true=>exact ⟨(k,y),by simp,Nat.eq_of_beq_eq_true hb⟩
          | false=>rw [hb] at h; obtain ⟨p,hp,e⟩:=ih h; exact ⟨p,by simp [hp],e⟩
      obtain ⟨p,hp,rfl⟩:=hmem fr ht
      exact h2.up v _ (List.mem_append.2 (.inl (List.mem_filterMap.2 ⟨p,hp,by rw [ht]; rfl⟩)))
    cases e with
    | normal=>exact hdone hfin
    | ret=>exact hdone hfin
    | exit id=>cases hfin
end
end Go.Ev
end
section
namespace Go.Ev
open Go.RowKit Go.ChangeShapes
def InR:(τ:Ty)→τ.I→Prop
  | .int k,n=>(Lit.int k n).wf = true
  | .str,s=>ByteArray.size s ≤ maxLen
  | .pair a b,x=>InR a x.1 ∧ InR b x.2
  | .st a,x=>InR a x
  | .arr n a,xs=>List.length xs = n ∧ ∀ x ∈ (show List a.I from xs),InR a x
  | .sl a,xs=>List.length xs ≤ maxLen ∧ ∀ x ∈ (show List a.I from xs),InR a x
  | _,_=>True
def Ty.data:Ty→Bool
  | .bool | .int _ | .str | .unit=>true
  | .pair a b=>a.data && b.data
  | .st a=>a.data
  | .arr _ a=>a.data
  | .sl a=>a.data
  | _=>false
mutual
def dbk {H:Type}:DataW H→Nat
  | .slice elems _=>dbkAll elems + 1
  | .agg parts=>dbkAll parts + 1
  | _=>1
def dbkAll {H:Type}:List (DataW H)→Nat
  | []=>0
  | d :: r=>dbk d + dbkAll r
end
def bkI:(τ:Ty)→τ.I→Nat
  | .unit,_=>0
  | .pair a b,x=>bkI a x.1 + bkI b x.2
  | .st a,x=>bkI a x + 1
  | .arr _ a,xs=>(List.map (bkI a) xs).sum + 1
  | .sl a,xs=>(List.map (bkI a) xs).sum + 1
  | _,_=>1
theorem zsS {H:Type} (d:DataW H):1 ≤ dbk d:=by cases d <;> simp [dbk]
section
variable {P:Program} {H:Type} {enc:TypeId × Value→H} {w:World} {base:Nat} {sp:Nat→Bool} {held:Bool}
theorem zBt {a:Addr} {j:Nat} {v:Value} (h:w.cell? (a.add j) = some v) (h0:a.spot = none ∨ j = 0):a.spot = none ∧ ∃ c el fz,w.heap[a.block]? = some (.cells c el fz) ∧ c[a.off + j]? = some v:=by
  have hs:a.spot = none:=by
    rcases h0 with h0 | rfl
    · exact h0
    · have:a.add 0 = a:=by unfold Addr.add; rfl
      rw [this] at h
      unfold World.cell? at h
      split at h
      · cases hsp:a.spot with
        | none=>rfl
        | some x=>rw [hsp] at h; simp at h
      · cases h
  refine ⟨hs,?_⟩
  rw [zoZ hs] at h
  unfold World.cell? at h
  simp only at h
  split at h
  · rename_i c el fz hk
    exact ⟨c,el,fz,hk,by simpa using h⟩
  · cases h
theorem zBu {a:Addr} {n:Nat} {cs:List Value} (h:w.cells? base a n = some cs) (hn:0 < n):∃ c,FH.of w a.block = some c ∧ a.spot = none ∧ ∀ (j:Nat) (v:Value),cs[j]? = some v→c[a.off + j]? = some v:=by
  obtain ⟨hb,hl,hc⟩:=World.cells?_some h
  have h0:=hc 0 hn
  rw [List.getElem?_eq_getElem (by omega)] at h0
  obtain ⟨hs,c,el,fz,hk,_⟩:=zBt h0 (.inr rfl)
  refine ⟨c,by simp [FH.of,hk],hs,fun j v hv=>?_⟩
  have hj:=(List.getElem?_eq_some_iff.1 hv).1
  have:=hc j (by omega)
  rw [hv] at this
  obtain ⟨_,c',_,_,hk',h2⟩:=zBt this (.inl hs)
  rw [hk] at hk'
  cases hk'
  exact h2
theorem zEw {ad:Addr} {n:Nat} (hn:0 < n) {c:Array Value} (hs:ad.spot = none) (hc:FH.of w ad.block = some c):∀ (m i0:Nat) (css:List (List Value)),((List.range' i0 m).mapM fun i=>w.cells? base (ad.add (i * n)) n) = some css →
    ∀ (j:Nat) (v:Value),css.flatten[j]? = some v→c[ad.off + i0 * n + j]? = some v
  | 0,i0,css,h,j,v,hj=>by simp at h; subst h; simp at hj
  | m + 1,i0,css,h,j,v,hj=>by
    rw [List.range'_succ,List.mapM_cons] at h
    simp only [Option.bind_eq_bind,Option.bind_eq_some_iff,Option.pure_def,Option.some.injEq] at h
    obtain ⟨cs,h1,css',h2,rfl⟩:=h
    have hl:=(World.cells?_some h1).2.1
    obtain ⟨c',h3,_,h5⟩:=zBu h1 hn
    rw [zoZ hs] at h3 h5
    simp only at h3 h5
    rw [hc] at h3
    cases h3
    rw [List.flatten_cons] at hj
    by_cases hjn:j < n
    · rw [List.getElem?_append_left (by omega)] at hj
      exact h5 j v hj
    · rw [List.getElem?_append_right (by omega),hl] at hj
      have:=zEw hn hs hc m (i0 + 1) css' h2 (j - n) v hj
      rw [show ad.off + i0 * n + j = ad.off + (i0 + 1) * n + (j - n) by rw [Nat.add_mul]; omega]
      exact this
theorem zut {α:Type} {R:α→List Value→Prop} {f:Nat→Option (List Value)} {g:List Value→Option (DataW H × List MemPlace)} {I:α→Prop} {bk:α→Nat} (hg:∀ cs y,g cs = some y→∃ x,R x cs ∧ I x ∧ bk x ≤ dbk y.1) :
    ∀ (l:List Nat) (ys:List (DataW H × List MemPlace)),(l.mapM fun i=>(f i).bind g) = some ys→∃ (xs:List α) (css:List (List Value)),xs.length = l.length ∧ l.mapM f = some css ∧ zu R xs css.flatten ∧ (∀ x ∈ xs,I x) ∧ (xs.map bk).sum ≤ dbkAll (ys.map (·.1))
  | [],ys,h=>⟨[],[],rfl,rfl,rfl,by simp,Nat.zero_le _⟩
  | i :: l,ys,h=>by
    rw [List.mapM_cons] at h
    simp only [Option.bind_eq_bind,Option.bind_eq_some_iff,Option.pure_def,Option.some.injEq] at h
    obtain ⟨y,⟨cs,hcs,hy⟩,ys',h2,rfl⟩:=h
    obtain ⟨x,hx,hI,hk⟩:=hg cs y hy
    obtain ⟨xs,css,h3,h4,h5,h6,h7⟩:=zut hg l ys' h2
    refine ⟨x :: xs,cs :: css,by simp [h3],?_,⟨cs,css.flatten,rfl,hx,h5⟩,?_,by simp only [List.map_cons,List.sum_cons,dbkAll]; omega⟩
    · rw [List.mapM_cons,hcs,h4]; rfl
    · intro z hz
      rcases List.mem_cons.1 hz with rfl | hz
      · exact hI
      · exact h6 z hz
theorem znR {cs:List Value} {n:Nat}:∀ (m i0:Nat) (css:List (List Value)),(i0 + m) * n ≤ cs.length→((List.range' i0 m).mapM fun i=>some ((cs.drop (i * n)).take n)) = some css→css.flatten = (cs.drop (i0 * n)).take (m * n)
  | 0,i0,css,_,h=>by simp at h; subst h; simp
  | m + 1,i0,css,hl,h=>by
    rw [List.range'_succ,List.mapM_cons] at h
    simp only [Option.bind_eq_bind,Option.bind_some,Option.bind_eq_some_iff,Option.pure_def,Option.some.injEq] at h
    obtain ⟨css',h2,rfl⟩:=h
    have:=znR m (i0 + 1) css' (by rw [show i0 + 1 + m = i0 + (m + 1) by omega]; exact hl) h2
    rw [List.flatten_cons,this,Nat.add_mul i0 1 n,Nat.one_mul,← List.drop_drop,show (m + 1) * n = n + m * n by rw [Nat.add_mul]; omega,List.take_add]
theorem zHN:∀ (τ:Ty),τ.data = true →
    (∀ (fuel:Nat) (t:TypeId) (cs:List Value) (x:DataW H × List MemPlace),τ.np = true→zV P t τ→DataW.trod enc P w base sp held fuel t cs = some x→∃ y,Rep P (FH.of w) τ y cs ∧ InR τ y ∧ bkI τ y ≤ dbk x.1) ∧
    (∀ (fuel:Nat) (fs:List Field) (off:Nat) (cs:List Value) (xs:List (DataW H × List MemPlace)),(tyB P τ).2 fs off = true→(fs.mapM fun f=>DataW.trod enc P w base sp held fuel f.type ((cs.drop f.offset).take (P.cellsOf f.type))) = some xs→cs.length = off + nc τ→∃ y,Rep P (FH.of w) τ y (cs.drop off) ∧ InR τ y ∧ bkI τ y ≤ dbkAll (xs.map (·.1))):=by
  intro τ
  induction τ with
  | unit =>
    intro _
    refine ⟨fun fuel t cs x _ h=>(by cases h),fun fuel fs off cs xs h _ hl=>⟨(),?_,trivial,Nat.zero_le _⟩⟩
    show cs.drop off = []
    rw [List.drop_eq_nil_iff]
    simp only [nc] at hl
    omega
  | bool =>
    intro _
    refine ⟨fun fuel t cs x _ h hx=>?_,fun fuel fs off cs xs h=>(by cases h)⟩
    have hu:P.underlying t = some .bool:=by
      simp only [zV,tyB,Bool.and_eq_true] at h
      have:=h.2
      split at this
      · assumption
      · cases this
    cases fuel with
    | zero=>simp [DataW.trod] at hx
    | succ fuel =>
      unfold DataW.trod at hx
      rw [hu] at hx
      split at hx <;> first | (cases hx; done) | skip
      all_goals first | exact ⟨_,rfl,trivial,zsS _⟩ | (rename_i hh; simp at hh)
  | int k =>
    intro _
    refine ⟨fun fuel t cs x _ h hx=>?_,fun fuel fs off cs xs h=>(by cases h)⟩
    have hu:P.underlying t = some (.int k):=by
      simp only [zV,tyB,Bool.and_eq_true] at h
      have:=h.2
      split at this
      · simp only [decide_eq_true_eq] at this; subst this; assumption
      · cases this
    cases fuel with
    | zero=>simp [DataW.trod] at hx
    | succ fuel =>
      unfold DataW.trod at hx
      rw [hu] at hx
      split at hx <;> first | (cases hx; done) | skip
      · rename_i hh; cases hh
      · rename_i k1 k2 n hh
        cases hh
        split at hx
        · rename_i hc; obtain ⟨rfl,hw⟩:=hc; exact ⟨n,rfl,hw,zsS _⟩
        · cases hx
      all_goals (rename_i hh; simp at hh)
  | str =>
    intro _
    refine ⟨fun fuel t cs x _ h hx=>?_,fun fuel fs off cs xs h=>(by cases h)⟩
    have hu:P.underlying t = some .string:=by
      simp only [zV,tyB,Bool.and_eq_true] at h
      have:=h.2
      split at this
      · assumption
      · cases this
    cases fuel with
    | zero=>simp [DataW.trod] at hx
    | succ fuel =>
      unfold DataW.trod at hx
      rw [hu] at hx
      split at hx <;> first | (cases hx; done) | skip
      all_goals first
        | (rename_i hh; simp at hh; done)
        | (rename_i s hh; split at hx; · rename_i hc; exact ⟨s,rfl,hc,zsS _⟩
           · cases hx)
        | skip
  | pair a b iha ihb =>
    intro hd
    simp only [Ty.data,Bool.and_eq_true] at hd
    refine ⟨fun fuel t cs x _ h hx=>?_,fun fuel fs off cs xs h hx hl=>?_⟩
    · rename_i hnp; cases hnp
    · cases fs with
      | nil=>cases h
      | cons f fs =>
        simp only [tyB,Bool.and_eq_true] at h
        obtain ⟨⟨⟨⟨h1,h2⟩,h3⟩,_⟩,h4⟩:=h
        obtain rfl:=Nat.eq_of_beq_eq_true h1
        obtain ⟨i,hi,hsz⟩:=zV.size h2 (Ty.np_spec h3.2)
        rw [List.mapM_cons] at hx
        simp only [Option.bind_eq_bind,Option.bind_eq_some_iff,Option.pure_def,Option.some.injEq] at hx
        obtain ⟨x1,hx1,xs2,hx2,rfl⟩:=hx
        have hcells:P.cellsOf f.type = nc a:=by unfold Program.cellsOf; rw [hi]; exact hsz
        rw [hcells] at hx1
        obtain ⟨y1,g1,g2,b1⟩:=(iha hd.1).1 fuel f.type _ x1 h3.2 h2 hx1
        simp only [nc] at hl
        obtain ⟨y2,g3,g4,b2⟩:=(ihb hd.2).2 fuel fs (f.offset + nc a) cs xs2 h4 hx2 (by omega)
        refine ⟨(y1,y2),⟨_,_,?_,g1,g3⟩,⟨g2,g4⟩,by simp only [bkI,List.map_cons,dbkAll]; omega⟩
        rw [← List.drop_drop,List.take_append_drop]
  | st a iha =>
    intro hd
    refine ⟨fun fuel t cs x _ h hx=>?_,fun fuel fs off cs xs h=>(by cases h)⟩
    obtain ⟨fs,hu,hf,_⟩:=zV.st h
    obtain ⟨i,hi,hsz⟩:=zV.size h (by intro a b e; cases e)
    have hcells:P.cellsOf t = nc a:=by unfold Program.cellsOf; rw [hi]; exact hsz
    cases fuel with
    | zero=>simp [DataW.trod] at hx
    | succ fuel =>
      unfold DataW.trod at hx
      rw [hu] at hx
      simp only at hx
      split at hx
      · rename_i hl
        simp only [Option.map_eq_some_iff] at hx
        obtain ⟨xs,hx,rfl⟩:=hx
        obtain ⟨y,g1,g2,b1⟩:=(iha hd).2 fuel fs.toList 0 cs xs hf hx (by omega)
        exact ⟨y,g1,g2,by simp only [bkI,dbk]; omega⟩
      · cases hx
  | arr n a iha =>
    intro hd
    refine ⟨fun fuel t cs x _ h hx=>?_,fun fuel fs off cs xs h=>(by cases h)⟩
    obtain ⟨e,hu,he,hpos,hnp,_⟩:=zV.arr h
    obtain ⟨i,hi,hsz⟩:=zV.size h (by intro a b e; cases e)
    obtain ⟨ie,hie,hsze⟩:=zV.size he (Ty.np_spec hnp)
    have hcells:P.cellsOf t = n * nc a:=by unfold Program.cellsOf; rw [hi]; exact hsz
    have hcellse:P.cellsOf e = nc a:=by unfold Program.cellsOf; rw [hie]; exact hsze
    cases fuel with
    | zero=>simp [DataW.trod] at hx
    | succ fuel =>
      unfold DataW.trod at hx
      rw [hu] at hx
      simp only at hx
      split at hx
      · rename_i hl
        simp only [Option.map_eq_some_iff] at hx
        obtain ⟨xs,hx,rfl⟩:=hx
        rw [hcellse] at hx
        obtain ⟨ys,css,h1,h2,h3,h4,h5⟩:=zut (bk:=bkI a) (f:=fun i=>some ((cs.drop (i * nc a)).take (nc a))) (g:=DataW.trod enc P w base sp held fuel e) (R:=Rep P (FH.of w) a) (I:=InR a) (fun cs y hy=>(iha hd).1 fuel e cs y hnp he hy) (List.range n) xs hx
        rw [List.range_eq_range'] at h2
        have:=znR n 0 css (by rw [Nat.zero_add]; omega) h2
        rw [this] at h3
        simp only [Nat.zero_mul,List.drop_zero] at h3
        rw [List.take_of_length_le (by omega)] at h3
        refine ⟨ys,⟨by simpa using h1,h3⟩,⟨by simpa using h1,h4⟩,by simp only [bkI,dbk]; omega⟩
      · cases hx
  | sl a iha =>
    intro hd
    refine ⟨fun fuel t cs x _ h hx=>?_,fun fuel fs off cs xs h=>(by cases h)⟩
    obtain ⟨e,hu,he,hpos,hnp⟩:=zV.sl h
    obtain ⟨ie,hie,hsze⟩:=zV.size he (Ty.np_spec hnp)
    have hcellse:P.cellsOf e = nc a:=by unfold Program.cellsOf; rw [hie]; exact hsze
    cases fuel with
    | zero=>simp [DataW.trod] at hx
    | succ fuel =>
      unfold DataW.trod at hx
      rw [hu] at hx
      split at hx <;> first | (cases hx; done) | skip
      all_goals first
        | (rename_i hh; cases hh; done)
        | exact ⟨[],⟨_,0,rfl,Nat.le_refl _,fun hne=>absurd rfl hne⟩,⟨Nat.zero_le _,fun x hx=>(by cases hx)⟩,zsS _⟩
        | skip
      rename_i e' ad len cap heq
      simp only [Option.some.injEq,TypeDesc.slice.injEq] at heq
      subst heq
      simp only at hx
      split at hx
      · rename_i hc
        simp only [Option.bind_eq_some_iff] at hx
        obtain ⟨elems,hx,hx2⟩:=hx
        rw [hcellse] at hx
        obtain ⟨ys,css,h1,h2,h3,h4,h5⟩:=zut (bk:=bkI a) (f:=fun i=>w.cells? base (ad.add (i * nc a)) (nc a)) (g:=DataW.trod enc P w base sp held fuel e) (R:=Rep P (FH.of w) a) (I:=InR a) (fun cs y hy=>(iha hd).1 fuel e cs y hnp he hy) (List.range len) elems hx
        rw [List.length_range] at h1
        refine ⟨ys,⟨some ad,cap,by rw [h1],by rw [h1]; exact hc.2.1,fun hne=>?_⟩,⟨(show ys.length ≤ maxLen by omega),h4⟩,?_⟩
        rotate_left
        · obtain ⟨rest,-,rfl⟩:=Option.map_eq_some_iff.1 hx2
          simp only [bkI,dbk]; omega
        have hlen:0 < len:=by
          rw [← h1]
          exact List.length_pos_iff.2 hne
        rw [List.range_eq_range'] at h2
        obtain ⟨m,rfl⟩:∃ m,len = m + 1:=⟨len - 1,by omega⟩
        have h2':=h2
        rw [List.range'_succ,List.mapM_cons] at h2'
        simp only [Option.bind_eq_bind,Option.bind_eq_some_iff,Option.pure_def,Option.some.injEq] at h2'
        obtain ⟨cs0,g1,_⟩:=h2'
        rw [Nat.zero_mul,show ad.add 0 = ad from rfl] at g1
        obtain ⟨c,g2,g3,g4⟩:=zBu g1 hpos
        refine ⟨ad,css.flatten,rfl,⟨g3,c,g2,fun j v hv=>?_⟩,h3⟩
        have:=zEw hpos g3 g2 (m + 1) 0 css h2 j v hv
        simpa using this
      · cases hx
  | ptr a=>intro hd; cases hd
  | fn a b=>intro hd; cases hd
def tyL (P:Program):Ty→List TypeId→Bool
  | .unit,[]=>true
  | .pair a b,t :: ts=>(tyB P a).1 t && a.np && a.data && tyL P b ts
  | _,_=>false
theorem ztJ:∀ {τ:Ty} {ts:List TypeId} {vs:List Value} {ds:List (DataW H)} {ps:List MemPlace},tyL P τ ts = true→DataW.TrodAll enc P w base sp held ts vs ds ps→(∀ (j:Nat) (t:TypeId) (v:Value),ts[j]? = some t→vs[j]? = some v→∃ W r b,Value.okWide P W r b t v) →
    ∃ x,RepA P (FH.of w) τ x vs ∧ InR τ x ∧ bkI τ x ≤ dbkAll ds
  | .unit,[],[],[],ps,_,_,_=>⟨(),rfl,trivial,Nat.zero_le _⟩
  | .pair a b,t :: ts,v :: vs,d :: ds,ps,h,hr,hf=>by
    simp only [tyL,Bool.and_eq_true] at h
    obtain ⟨⟨⟨h1,h2⟩,h3⟩,h4⟩:=h
    obtain ⟨p,q,⟨fuel,h5⟩,h6,_⟩:=hr
    obtain ⟨y,g1,g2,b1⟩:=(zHN a h3).1 fuel t v.cells.toList (d,p) h2 h1 h5
    obtain ⟨x,g3,g4,b2⟩:=ztJ h4 h6 fun j t v ht hv=>hf (j + 1) t v (by simpa using ht) (by simpa using hv)
    refine ⟨(y,x),⟨v,vs,rfl,g1,?_,g3⟩,⟨g2,g4⟩,by simp only [bkI,dbkAll]; exact Nat.add_le_add b1 b2⟩
    obtain ⟨W,r,b0,hform⟩:=hf 0 t v rfl rfl
    obtain ⟨de,hu,hagg⟩:=zV.isAgg h1
    unfold Value.okWide at hform
    rw [hu] at hform
    rw [← hagg]
    have hno:∀ cs,v = .agg cs→Cell.okWide P W r b0 t v→(match de with | .struct _ | .array _ _=>true | _=>false) = false→False:=by
      rintro cs rfl hc hde
      unfold Cell.okWide at hc
      rw [hu] at hc
      cases de <;> simp [Cell.ok,hu] at hc hde
    cases de <;> simp only at hform hno ⊢
    case struct=>obtain ⟨cs,rfl,_⟩:=hform; rfl
    case array=>obtain ⟨cs,rfl,_⟩:=hform; rfl
    all_goals (cases v <;> first | rfl | exact (hno _ rfl hform trivial).elim)
  | .unit,[],[],_ :: _,_,_,h,_=>h.elim
  | .unit,[],_ :: _,_,_,_,h,_=>(by cases h)
  | .unit,_ :: _,_,_,_,h,_,_=>(by cases h)
  | .pair _ _,[],_,_,_,h,_,_=>(by cases h)
  | .pair _ _,_ :: _,[],_,_,_,h,_=>(by cases h)
  | .pair _ _,_ :: _,_ :: _,[],_,_,h,_=>(by cases h)
  | .bool,_,_,_,_,h,_,_=>(by cases h)
  | .int _,_,_,_,_,h,_,_=>(by cases h)
  | .str,_,_,_,_,h,_,_=>(by cases h)
  | .st _,_,_,_,_,h,_,_=>(by cases h)
  | .arr _ _,_,_,_,_,h,_,_=>(by cases h)
  | .sl _,_,_,_,_,h,_,_=>(by cases h)
  | .ptr _,_,_,_,_,h,_,_=>(by cases h)
  | .fn _ _,_,_,_,_,h,_,_=>(by cases h)
theorem zpX {W W':World} (hl:laidOutB P = true) (hb:Below W.heap.size W W'):∀ {ts:List TypeId} {vs:List Value} {ds:List (DataW H)} {ps:List MemPlace},
    (∀ t ∈ ts,P.readableRec t = true ∧ t < P.types.size)→DataW.TrodAll enc P W 0 (fun _=>true) true ts vs ds ps→(∀ x ∈ ps,x.block < W.heap.size)→∀ s:Nat→Bool,(∀ p ∈ ps,s p.block = true)→DataW.TrodAll enc P W' 0 s true ts vs ds ps
  | [],[],[],ps,_,h,_,s,_=>h
  | t :: ts,v :: vs,d :: ds,ps,ht,⟨p,q,h1,h2,e⟩,hlt,s,hs=>by
    subst e
    have h0:=ht t (by simp)
    refine ⟨p,q,?_,zpX hl hb (fun t' h'=>ht t' (by simp [h'])) h2 (fun x hx=>hlt x (by simp [hx])) s (fun x hx=>hs x (by simp [hx])),rfl⟩
    exact WideElems.Trod_stays hl h0.1 h0.2 h1 (fun x hx=>hb.same (hlt x (by simp [hx]))) (fun x hx=>hs x (by simp [hx]))
  | [],[],_ :: _,_,_,h,_,_,_=>h.elim
  | [],_ :: _,_,_,_,h,_,_,_=>h.elim
  | _ :: _,[],_,_,_,h,_,_,_=>h.elim
  | _ :: _,_ :: _,[],_,_,h,_,_,_=>h.elim
end
section
variable {P:Program} {H:Type} {enc:TypeId × Value→H}
theorem law_contract {fi:FuncId} {f:Func} {a:Ty} {tb:TypeId} {spec:ChangeSpec} {W:World} {base:Nat} {args:Array Value} {ds gs:List (DataW H)} {before:List MemPlace}
    (hl:laidOutB P = true) (hts:∀ t ∈ f.params.toList,P.readableRec t = true ∧ t < P.types.size) (hty:tyL P a f.params.toList = true) (hres:f.resultTypes = #[tb]) (hbool:P.underlying tb = some .bool) (hvars:spec.vars = [])
    (hfn:∀ ds:List (DataW H),ds.length = f.params.size→spec.fn H ds = { results:=[.lit (.bool true)],args:=ds })
    (hval:∀ (j:Nat) t v,f.params[j]? = some t→args[j]? = some v→Value.okWide P W .any base t v)
    (hW:DataW.Whole enc P f.params.toList spec.vars false W args.toList ds gs before)
    (hcall:∀ x,InR a x→bkI a x ≤ dbkAll ds→RepA P (FH.of W) a x args.toList→Calls P fi args W fun e W'=>e = .returned (.bool true) ∧ Below W.heap.size W W') :
    Calls P fi args W fun e W'=>∃ v,e = .returned v ∧ spec.post enc P f false true false false W args v W':=by
  have hW':=hW
  obtain ⟨p,q,hA,hV,rfl,hfz,hnd⟩:=hW
  rw [hvars] at hV
  obtain ⟨rfl,rfl⟩:=trodVars_none hV
  have hlt:∀ x ∈ p,x.block < W.heap.size:=fun x hx=>by simpa using hW'.lt x (by simp [hx])
  obtain ⟨x,hx,hin,hbk⟩:=ztJ (w:=W) hty hA fun j t v ht hv=>⟨W,.any,base,hval j t v (by rw [← Array.getElem?_toList]; exact ht) (by rw [← Array.getElem?_toList]; exact hv)⟩
  have hlen:∀ {ts:List TypeId} {vs:List Value} {ds:List (DataW H)} {ps:List MemPlace},DataW.TrodAll enc P W 0 (fun _=>true) true ts vs ds ps→ds.length = ts.length:=by
    intro ts
    induction ts with
    | nil=>intro vs ds ps h; cases vs <;> cases ds <;> first | rfl | exact h.elim
    | cons t ts ih=>intro vs ds ps h; cases vs <;> cases ds <;> first | exact h.elim | (obtain ⟨_,_,_,h2,_⟩:=h; simp [ih h2])
  have hfn':=hfn ds (by rw [hlen hA]; simp)
  refine (hcall x hin hbk hx).mono fun e W' ⟨he,hb⟩=>?_
  subst he
  simp only [List.append_nil] at *
  refine ⟨_,rfl,ds,[],p,[],p,[],hW',?_,?_,?_,hb.frame _,fun h=>(by cases h)⟩
  · rw [List.append_nil,hfn',hres]
    exact trodAll_cons_mk (shut_bool hbool _) trodAll_mk0
  · rw [List.append_nil,hfn']
    exact zpX hl hb hts hA hlt _ (fun x hx=>by simpa using hlt x hx)
  · rw [List.append_nil,hfn',hvars]
    rfl
end
end Go.Ev
end
section
namespace Go.Ev
open Go.RowKit
section
variable {P:Program} {G:FH} {E:Env}
theorem zkZ.mk (hm:P.follows .mixedOrders = true) (hE:EnvOk P G E) {fi:FuncId} {f:Func} (hf:P.funcs[fi]? = some f) (hn:(f.name == "runtime.NumGoroutine") = false) (hb:f.body.isNone = false)
    {F:Fun} (h:∀ x y,F.spec x = some y→∃ K,evF E K f F.md F.a F.r x = some y):zkZ P G fi F:=by
  refine ⟨⟨f,hf,hn,hb⟩,fun x y hy F0 w vs hG hk hr=>?_⟩
  obtain ⟨K,he⟩:=h x y hy
  exact zGO hm hE hf he hG hk hr
theorem EnvOk.nil {types:TT} {nt:Nat} {dp:Bool} (ht:types.all (fun k τ=>(tyB P τ).1 k) = true) {glob:List (Nat × AV)} (hg:∀ g v,look glob g = some v→∃ τ x cs,v = .dat (.ptr τ) (some x) ∧ At G ⟨g,0,none⟩ cs ∧ Rep P G τ x cs) {ext:List (Nat × Bool)} {jn:List Nat} (hx:∀ f add,look ext f = some add→ExtOk P f add):EnvOk P G ⟨types,[],glob,nt,dp,ext,jn,fun _=>none,false,false⟩ :=
  ⟨fun t τ h=>TT.all_look ht h,fun f F h=>by simp [look] at h,hg,hx,fun f H h=>by cases h⟩
theorem EnvOk.deep (hE:EnvOk P G E) (d:Bool):EnvOk P G { E with deep:=d }:=⟨hE.types,hE.funs,hE.glob,hE.ext,hE.hnd⟩
theorem EnvOk.cons (hE:EnvOk P G E) {fi:FuncId} {F:Fun} (h:zkZ P G fi F):EnvOk P G { E with funs:=(fi,F) :: E.funs }:=by
  refine ⟨hE.types,fun f F' h'=>?_,hE.glob,hE.ext,hE.hnd⟩
  simp only [look] at h'
  cases hb:Nat.beq fi f with
  | true =>
    rw [hb] at h'
    simp only [cond_true,Option.some.injEq] at h'
    subst h'
    rw [← Nat.eq_of_beq_eq_true hb]
    exact h
  | false=>rw [hb] at h'; exact hE.funs f F' h'
end
end Go.Ev
end
section
namespace Go.Ev
theorem zpg {n:Nat} (h:n ≤ Go.maxLen):IntKind.wrap .i64 (n:Int) = (n:Int):=by
  unfold Go.maxLen at h
  exact IntWalk.i64_in _ (by omega)
def qQ {α:Type} (p:α→Bool):List α→Int→Int
  | [],_=>-1
  | x :: xs,i=>cond (p x) i (qQ p xs (i + 1))
theorem zuu {α:Type} {p:α→Bool}:∀ (xs:List α) (i:Int),0 ≤ i→decide (qQ p xs i ≥ 0) = xs.any p
  | [],_,_=>rfl
  | x :: xs,i,h=>by
    have ih:=zuu (p:=p) xs (i + 1) (by omega)
    simp only [qQ,List.any_cons]
    by_cases hp:p x = true
    · simp [hp,h]
    · simp only [Bool.not_eq_true] at hp
      simp only [hp,cond_false,Bool.false_or]
      exact ih
end Go.Ev
end
section
namespace Go.Ev
theorem zwc {i len:Nat} (h:i < len) (hl:len ≤ Go.maxLen):IntKind.wrap .i64 ((i:Int) + 1) = (i:Int) + 1:=by
  rw [show (i:Int) + 1 = ((i + 1:Nat):Int) by omega]
  exact zpg (by omega)
theorem yJ {α:Type} {l:List α} {i:Nat} (d:α) (h:i < l.length):l.drop i = l.getD i d :: l.drop (i + 1):=by
  rw [List.drop_eq_getElem_cons h]
  simp [List.getD,h]
theorem zHO {σ ρ:Type} {L:Nat→Int→σ→Option ρ} {len:Nat} (hl:len ≤ Go.maxLen) (F:Nat→σ→Option ρ) (I:Nat→σ→Prop)
    (hstep:∀ n i s,i < len→I i s→(∀ s',I (i + 1) s'→L n ((i:Int) + 1) s' = F (i + 1) s')→L (n + 1) (i:Int) s = F i s)
    (hend:∀ n s,I len s→L (n + 1) (len:Int) s = F len s) :
    ∀ (k i n:Nat) (s:σ),i + k = len→k < n→I i s→L n (i:Int) s = F i s:=by
  intro k
  induction k with
  | zero =>
    intro i n s hi hn hI
    obtain ⟨m,rfl⟩:∃ m,n = m + 1:=⟨n - 1,by omega⟩
    obtain rfl:i = len:=by omega
    exact hend m s hI
  | succ k ih =>
    intro i n s hi hn hI
    obtain ⟨m,rfl⟩:∃ m,n = m + 1:=⟨n - 1,by omega⟩
    refine hstep m i s (by omega) hI fun s' hI'=>?_
    have:=ih (i + 1) m s' (by omega) (by omega) hI'
    rw [show (i:Int) + 1 = ((i + 1:Nat):Int) by omega]
    exact this
theorem zGP {σ ρ:Type} {L:Nat→Int→σ→Option ρ} {len:Nat} (hl:len ≤ Go.maxLen) (F:Nat→σ→Option ρ) (I:Nat→σ→Prop)
    (hstep:∀ n i s,i < len→I i s→(∀ s',I (i + 1) s'→L n ((i:Int) + 1) s' = F (i + 1) s')→L (n + 1) (i:Int) s = F i s)
    (hend:∀ n s,I len s→L (n + 1) (len:Int) s = F len s) (n:Nat) (hn:len < n) (s:σ) (h0:I 0 s):L n 0 s = F 0 s :=
  zHO hl F I hstep hend len 0 n s (by omega) hn h0
end Go.Ev
end
section
namespace Go.Ev
abbrev Fnc (A R:Ty):Type:=A.I→Option R.I
def zm {σ ρ:Type} (B:(σ→Option ρ)→σ→Option ρ):Nat→σ→Option ρ
  | 0,_=>none
  | n + 1,s=>B (zm B n) s
noncomputable def evV {σ:Type} (E:Env) (K:Nat) (f:Func) (md:Nat) (R:Ty) (p ns:List Nat) (S:σ→St) (n:Nat):σ→Option R.I:=fun s=>evL E K f md R p ns n (S s)
theorem zBv {E:Env} {K:Nat} {f:Func} {md:Nat} {R:Ty} {p ns:List Nat} {st:St}:evL E K f md R p ns 0 st = none:=by
  unfold evL
  split
  · split <;> rfl
  · rfl
theorem zw {σ:Type} {E:Env} {K:Nat} {f:Func} {md:Nat} {R:Ty} {p ns:List Nat} {S:σ→St} {B:(σ→Option R.I)→σ→Option R.I}
    (h:∀ n s,evV E K f md R p ns S (n + 1) s = B (evV E K f md R p ns S n) s):∀ n,evV E K f md R p ns S n = zm B n
  | 0=>by funext s; exact zBv
  | n + 1=>by funext s; rw [h,zw h n]; rfl
theorem zdb {σ τ:Type} {E:Env} {K:Nat} {f:Func} {md:Nat} {R:Ty} {p ns:List Nat} {S:σ→St} {B:(τ→Option R.I)→(σ→Option R.I)→σ→Option R.I} {V1:Nat→τ→Option R.I} {W1:(σ→Option R.I)→τ→Option R.I}
    (h1:∀ n,V1 n = W1 (evV E K f md R p ns S n)) (h:∀ n s,evV E K f md R p ns S (n + 1) s = B (V1 n) (evV E K f md R p ns S n) s):∀ n,evV E K f md R p ns S n = zm (fun k=>B (W1 k) k) n :=
  zw fun n s=>by rw [← h1]; exact h n s
def zwd {σ τ ρ:Type} (B0:(τ→Option ρ)→σ→Option ρ) (B1:(τ→Option ρ)→τ→Option ρ):Nat→σ→Option ρ
  | 0,_=>none
  | n + 1,s=>B0 (zm B1 n) s
theorem zGQ {σ τ:Type} {E:Env} {K:Nat} {f:Func} {md:Nat} {R:Ty} {p ns:List Nat} {S0:σ→St} {S1:τ→St} {B0:(τ→Option R.I)→σ→Option R.I} {B1:(τ→Option R.I)→τ→Option R.I}
    (h1:∀ n,evV E K f md R p ns S1 n = zm B1 n) (h:∀ n s,evV E K f md R p ns S0 (n + 1) s = B0 (evV E K f md R p ns S1 n) s):∀ n,evV E K f md R p ns S0 n = zwd B0 B1 n
  | 0=>by funext s; exact zBv
  | n + 1=>by funext s; rw [h,h1]; rfl
theorem tr1 {α X Y:Type} {T:α→X→Y} {V W:α} (h:V = W) {F:X→Y} (hx:∀ x,F x = T V x):F = T W:=by subst h; funext x; exact hx x
def En (E:Env) (d:Bool) (l:List Fun):Env:=⟨E.types,l.map fun F=>(F.id,F),E.glob,0,d,E.ext,[],fun _=>none,false,false⟩
def Ej (E:Env) (d:Bool) (js:List Nat) (l:List Fun):Env:=⟨E.types,l.map fun F=>(F.id,F),E.glob,0,d,E.ext,js,fun _=>none,false,js.any (Nat.beq 999999)⟩
def Sd (P:Program) (E:Env) (F:Fun):Prop:=∀ G,EnvOk P G E→zkZ P G F.id F
def Sds (P:Program) (E:Env):List Fun→Prop
  | []=>True
  | F :: l=>Sd P E F ∧ Sds P E l
def qX (f:Func):Bool:=!(f.name == "runtime.NumGoroutine") && !f.body.isNone
theorem Sds.env {P:Program} {E:Env} {l:List Fun} {d:Bool} {G:FH} (h:Sds P E l) (hE:EnvOk P G E):EnvOk P G (En E d l):=by
  refine ⟨hE.types,?_,hE.glob,hE.ext,fun f H h=>by cases h⟩
  intro f F hf
  have key:∀ l:List Fun,Sds P E l→look (l.map fun F=>(F.id,F)) f = some F→zkZ P G f F:=by
    intro l
    induction l with
    | nil=>intro _ h; cases h
    | cons F' l ih =>
      intro hs hl
      simp only [List.map_cons,look] at hl
      cases hb:Nat.beq F'.id f with
      | true =>
        rw [hb] at hl
        cases hl
        rw [← Nat.eq_of_beq_eq_true hb]
        exact hs.1 G hE
      | false=>rw [hb] at hl; exact ih hs.2 hl
  exact key l h hf
theorem Sds.envJ {P:Program} {E:Env} {l:List Fun} {d:Bool} {js:List Nat} {G:FH} (h:Sds P E l) (hE:EnvOk P G E):EnvOk P G (Ej E d js l) :=
  have h':=h.env (d:=d) hE
  ⟨h'.types,h'.funs,h'.glob,h'.ext,fun f H h=>by cases h⟩
theorem Sd.mkJ {P:Program} {E:Env} {l:List Fun} {d:Bool} {js:List Nat} {F:Fun} {f:Func} {K:Nat} (hm:P.follows .mixedOrders = true) (hl:Sds P E l) (hf:P.funcs[F.id]? = some f) (ho:qX f = true)
    (h:evF (Ej E d js l) K f F.md F.a F.r = F.spec):Sd P E F:=by
  intro G hE
  unfold qX at ho
  simp only [Bool.and_eq_true,Bool.not_eq_true'] at ho
  exact zkZ.mk hm (hl.envJ hE) hf ho.1 ho.2 fun x y hy=>⟨K,by rw [h]; exact hy⟩
theorem Sd.mk {P:Program} {E:Env} {l:List Fun} {d:Bool} {F:Fun} {f:Func} {K:Nat} (hm:P.follows .mixedOrders = true) (hl:Sds P E l) (hf:P.funcs[F.id]? = some f) (ho:qX f = true)
    (h:evF (En E d l) K f F.md F.a F.r = F.spec):Sd P E F:=by
  intro G hE
  unfold qX at ho
  simp only [Bool.and_eq_true,Bool.not_eq_true'] at ho
  exact zkZ.mk hm (hl.env hE) hf ho.1 ho.2 fun x y hy=>⟨K,by rw [h]; exact hy⟩
def FOk (P:Program):List (Nat × Func)→Prop
  | []=>True
  | p :: l=>(P.funcs[p.1]? = some p.2 ∧ qX p.2 = true) ∧ FOk P l
theorem FOk.look {P:Program}:∀ {l:List (Nat × Func)} {i:Nat} {f:Func},FOk P l→look l i = some f→P.funcs[i]? = some f ∧ qX f = true
  | (j,g) :: l,i,f,h,hl=>by
    simp only [Go.Ev.look] at hl
    cases hb:Nat.beq j i with
    | true=>rw [hb] at hl; cases hl; rw [← Nat.eq_of_beq_eq_true hb]; exact h.1
    | false=>rw [hb] at hl; exact FOk.look h.2 hl
theorem EnvOk.inl {P:Program} {G:FH} {E:Env} (hm:P.follows .mixedOrders = true) (hE:EnvOk P G E) {fs:List (Nat × Func)} (hfs:FOk P fs):∀ d,EnvOk P G (E.inl fs d)
  | 0=>hE
  | d + 1=>⟨hE.types,hE.funs,hE.glob,hE.ext,fun i H h=>by
    obtain ⟨fn,h1,rfl⟩:=Option.map_eq_some_iff.1 h
    obtain ⟨h2,h3⟩:=hfs.look h1
    unfold qX at h3
    simp only [Bool.and_eq_true,Bool.not_eq_true'] at h3
    exact zIv hm (EnvOk.inl hm hE hfs d) h2 h3.1 h3.2⟩
theorem Sd.mkI {P:Program} {E:Env} {l:List Fun} {d:Bool} {js:List Nat} {fs:List (Nat × Func)} {n:Nat} {F:Fun} {f:Func} {K:Nat} (hm:P.follows .mixedOrders = true) (hl:Sds P E l) (hfs:FOk P fs) (hf:P.funcs[F.id]? = some f) (ho:qX f = true)
    (h:evF ((Ej E d js l).inl fs n) K f F.md F.a F.r = F.spec):Sd P E F:=by
  intro G hE
  unfold qX at ho
  simp only [Bool.and_eq_true,Bool.not_eq_true'] at ho
  exact zkZ.mk hm ((hl.envJ hE).inl hm hfs n) hf ho.1 ho.2 fun x y hy=>⟨K,by rw [h]; exact hy⟩
@[reducible] def ch:List Ty→Ty
  | []=>.unit
  | a :: l=>.pair a (ch l)
abbrev u0 {a0 a1:Type} (x:a0 × a1) (v:a0):a0 × a1:=(v,x.2)
abbrev u1 {a0 a1 a2:Type} (x:a0 × a1 × a2) (v:a1):a0 × a1 × a2:=(x.1,v,x.2.2)
abbrev u2 {a0 a1 a2 a3:Type} (x:a0 × a1 × a2 × a3) (v:a2):a0 × a1 × a2 × a3:=(x.1,x.2.1,v,x.2.2.2)
def inR {ρ:Type} (i n:Int) (x:Option ρ):Option ρ:=cond (decide (0 ≤ i)) (cond (decide (i < n)) x none) none
theorem zGR {ρ:Type} {i n:Int} {x:Option ρ} (h0:0 ≤ i) (h1:i < n):inR i n x = x:=by unfold inR; rw [decide_eq_true h0,decide_eq_true h1]; rfl
abbrev ix {α:Type} (d:α) (l:List α) (i:Int):α:=List.getD l (Int.toNat i) d
def K0:Nat:=Go.maxLen + 2
theorem zAF {n:Nat} (h:n ≤ Go.maxLen):n < K0:=by unfold K0; omega
abbrev tI:Ty:=.int .i64
abbrev tU:Ty:=.int .u64
abbrev wI (n:Int):Int:=IntKind.wrap .i64 n
abbrev wU (n:Int):Int:=IntKind.wrap .u64 n
end Go.Ev
end
section
namespace Go.Ev
theorem vT {σ α ρ:Type} {B:(σ→Option ρ)→σ→Option ρ} {len:Nat} (hl:len ≤ Go.maxLen) (st:Int→α→σ) (F:Nat→α→Option ρ) (I:Nat→α→Prop)
    (hstep:∀ k (i:Nat) s,i < len→I i s→(∀ s',I (i + 1) s'→k (st (wI (i + 1)) s') = F (i + 1) s')→B k (st i s) = F i s)
    (hend:∀ k s,I len s→B k (st len s) = F len s) (s:α) (h0:I 0 s):zm B K0 (st 0 s) = F 0 s:=by
  refine zGP (L:=fun n i s=>zm B n (st i s)) hl F I (fun n i s hi hI h=>?_) (fun n s hI=>hend _ s hI) K0 (zAF hl) s h0
  refine hstep _ i s hi hI fun s' hI'=>?_
  rw [wI,zwc hi hl]
  exact h s' hI'
theorem z8 {α:Type} {l:List α} {i:Nat} {d:α} (h:i < l.length):l.getD i d ∈ l:=by
  rw [List.getD_eq_getElem?_getD,List.getElem?_eq_getElem h]
  exact List.getElem_mem h
theorem zR (p:Bool):some (p,()) = bif p then some (true,()) else some (false,()):=by cases p <;> rfl
theorem zuv {σ α ρ:Type} {B:(σ→Option ρ)→σ→Option ρ} {l:List α} (d:α) {p:α→Bool} {fin bad:Option ρ} (st:Int→σ) (hl:l.length ≤ Go.maxLen)
    (hin:∀ k (i:Nat) x,i < l.length→l.getD i d = x→x ∈ l→B k (st i) = bif p x then k (st (wI (i + 1))) else bad) (hout:∀ k,B k (st l.length) = fin):zm B K0 (st 0) = bif l.all p then fin else bad:=by
  have:=vT (α:=Unit) (B:=B) hl (fun i _=>st i) (fun i _=>bif (l.drop i).all p then fin else bad) (fun _ _=>True) (fun k i s hi _ h=>?_) (fun k s _=>?_) () trivial
  · simpa using this
  · rw [hin k i _ hi rfl (z8 hi),h () trivial,yJ d hi,List.all_cons]
    cases p (l.getD i d) <;> rfl
  · rw [hout,List.drop_of_length_le (Nat.le_refl _)]; rfl
theorem zrt {σ α β ρ:Type} {B:(σ→Option ρ)→σ→Option ρ} {l:List β} (d:β) (st:Int→α→σ) (G:List β→α→Option ρ) (hl:l.length ≤ Go.maxLen)
    (hin:∀ k (i:Nat) x rest s,i < l.length→l.getD i d = x→x ∈ l→l.drop (i + 1) = rest→(∀ s',k (st (wI (i + 1)) s') = G rest s')→B k (st i s) = G (x :: rest) s) (hout:∀ k s,B k (st l.length s) = G [] s) (s:α):zm B K0 (st 0 s) = G l s:=by
  have:=vT (B:=B) hl st (fun i s=>G (l.drop i) s) (fun _ _=>True) (fun k i s hi _ h=>?_) (fun k s _=>?_) s trivial
  · simpa using this
  · rw [yJ d hi]
    exact hin k i _ _ s hi rfl (z8 hi) rfl fun s'=>h s' trivial
  · rw [hout,List.drop_of_length_le (Nat.le_refl _)]
def qk (p:Nat→Bool) (i:Nat):Nat→Bool
  | 0=>true
  | n + 1=>p i && qk p (i + 1) n
theorem jl {p:Nat→Bool}:∀ {n i:Nat},qk p i n = true ↔ ∀ j,i ≤ j→j < i + n→p j = true
  | 0,i=>by simp only [qk,true_iff]; intro j h1 h2; omega
  | n + 1,i=>by
    simp only [qk,Bool.and_eq_true,jl (n:=n)]
    constructor
    · rintro ⟨h1,h2⟩ j h3 h4
      by_cases e:j = i
      · subst e; exact h1
      · exact h2 j (by omega) (by omega)
    · intro h
      exact ⟨h i (Nat.le_refl i) (by omega),fun j h1 h2=>h j (by omega) (by omega)⟩
theorem yC {σ ρ:Type} {B:(σ→Option ρ)→σ→Option ρ} {i0 n:Nat} (hn:n ≤ Go.maxLen) (h0:i0 ≤ n) {p:Nat→Bool} {fin bad:Option ρ} (st:Int→σ)
    (hin:∀ k (i:Nat),i0 ≤ i→i < n→B k (st i) = bif p i then k (st (wI (i + 1))) else bad) (hout:∀ k,B k (st n) = fin):zm B K0 (st i0) = bif qk p i0 (n - i0) then fin else bad:=by
  have key:∀ (m i fuel:Nat),i0 ≤ i→i + m = n→m < fuel→zm B fuel (st i) = bif qk p i m then fin else bad:=by
    intro m
    induction m with
    | zero =>
      intro i fuel _ h1 h2
      obtain ⟨f,rfl⟩:∃ f,fuel = f + 1:=⟨fuel - 1,by omega⟩
      obtain rfl:i = n:=by omega
      exact hout _
    | succ m ih =>
      intro i fuel h1 h2 h3
      obtain ⟨f,rfl⟩:∃ f,fuel = f + 1:=⟨fuel - 1,by omega⟩
      show B (zm B f) (st i) = _
      rw [hin _ i h1 (by omega),wI,zwc (len:=n) (by omega) hn,show ((i:Int) + 1) = ((i + 1:Nat):Int) by omega,ih (i + 1) f (by omega) (by omega) (by omega)]
      simp only [qk]
      cases p i <;> rfl
  exact key (n - i0) i0 K0 (Nat.le_refl _) (by omega) (by have:=zAF hn; omega)
theorem zxS {i:Nat} (h:1 ≤ i) (hi:i ≤ Go.maxLen):wI ((i:Int) - 1) = ((i - 1:Nat):Int):=by
  rw [show ((i:Int) - 1) = ((i - 1:Nat):Int) by omega]
  exact zpg (by omega)
section
variable {τ:Ty} {l:List τ.I} {g:τ.I × Unit→Option (Bool × Unit)} {p:τ.I→Bool}
theorem zG {ρ:Type} {i n:Nat} {x:Option ρ} (h:i < n):inR (i:Int) (n:Int) x = x:=zGR (by omega) (by omega)
theorem ltT {i n:Nat} (h:i < n):decide ((i:Int) < (n:Int)) = true:=decide_eq_true (by omega)
theorem ltF (n:Nat):decide ((n:Int) < (n:Int)) = false:=decide_eq_false (by omega)
theorem qq {α:Type} {d:α} {l:List α} {i:Nat}:ix d l (i:Int) = l.getD i d:=by rw [ix,Int.toNat_natCast]
theorem qE {B:((List τ.I × Option (τ.I × Unit→Option (Bool × Unit)) × Int × Int)→Option (Int × Unit))→(List τ.I × Option (τ.I × Unit→Option (Bool × Unit)) × Int × Int)→Option (Int × Unit)}
    (hB:∀ k l g n i,B k (l,g,n,i) = bif decide (i < n) then inR i (List.length l:Int) (Option.bind g fun q0=>Option.bind (q0 (ix (zd τ) l i,())) fun q1=>bif q1.1 then some (i,()) else k (l,g,n,wI (i + 1))) else some (-1,()))
    (hl:l.length ≤ Go.maxLen) (hp:∀ x ∈ l,g (x,()) = some (p x,())):zm B K0 (l,some g,(l.length:Int),0) = some (qQ p l 0,()):=by
  have:=vT (α:=Unit) (B:=B) hl (fun i _=>(l,some g,(l.length:Int),i)) (fun i _=>some (qQ p (l.drop i) i,())) (fun _ _=>True) (fun k i s hi _ h=>?_) (fun k s _=>?_) () trivial
  · simpa using this
  · rw [hB,ltT hi,zG hi,qq,Option.bind_some,hp _ (z8 hi),Option.bind_some,h () trivial,yJ (zd τ) hi]
    simp only [qQ,cond_true]
    cases p (l.getD i (zd τ)) <;> rfl
  · rw [hB,ltF,List.drop_of_length_le (Nat.le_refl _)]; rfl
theorem qh {f:Fnc (.pair (.sl τ) (.pair (.fn (.pair τ .unit) (.pair .bool .unit)) .unit)) (.pair (.int .i64) .unit)} (hf:f (l,some g,()) = some (qQ p l 0,())) :
    (Option.bind (f (l,some g,())) fun q0=>bif decide ((q0.1:Int) ≥ 0) then some (true,()) else some (false,())) = some (l.any p,()):=by
  rw [hf,Option.bind_some,zuu (p:=p) l 0 (Int.le_refl 0)]
  cases l.any p <;> rfl
theorem jR {α:Type} {l:List α} {p:α→Bool}:(!(l.any fun x=>!p x)) = l.all p:=by
  rw [List.not_any_eq_all_not]
  congr 1
  funext x
  simp
def eqL (τ:Ty) (a b:List τ.I):Bool:=decide (a.length = b.length) && (List.zip a b).all fun q=>eqI τ q.1 q.2
theorem zmt (a b:Nat):((a:Int) != (b:Int)) = !decide (a = b):=by
  by_cases h:a = b
  · subst h; simp
  · have:(a:Int) ≠ (b:Int):=by omega
    simp [h,this]
theorem zuw {α β:Type} {d:α} {e:β}:∀ (a:List α) (b:List β) (i:Nat),i < a.length→i < b.length→(List.zip a b).getD i (d,e) = (a.getD i d,b.getD i e)
  | x :: a,y :: b,0,_,_=>rfl
  | x :: a,y :: b,i + 1,h1,h2=>zuw a b i (by simpa using h1) (by simpa using h2)
  | [],_,_,h,_=>by simp at h
  | _ :: _,[],_,_,h=>by simp at h
theorem zaz {B:((List τ.I × List τ.I × Int × Int)→Option (Bool × Unit))→(List τ.I × List τ.I × Int × Int)→Option (Bool × Unit)}
    (hB:∀ k a b n i,B k (a,b,n,i) = bif decide (i < n) then inR i (List.length a:Int) (inR i (List.length b:Int) (bif !eqI τ (ix (zd τ) a i) (ix (zd τ) b i) then some (false,()) else k (a,b,n,wI (i + 1)))) else some (true,()))
    {a b:List τ.I} (hl:a.length ≤ Go.maxLen):(bif ((List.length a:Int) != (List.length b:Int)) then some (false,()) else zm B K0 (a,b,(a.length:Int),0)) = some (eqL τ a b,()):=by
  rw [zmt]
  unfold eqL
  by_cases h:a.length = b.length
  · rw [decide_eq_true h]
    simp only [Bool.not_true,cond_false,Bool.true_and]
    have hz:(List.zip a b).length = a.length:=by rw [List.length_zip]; omega
    have hx:∀ i,i < a.length→(List.zip a b).getD i (zd τ,zd τ) = (a.getD i (zd τ),b.getD i (zd τ)):=fun i hi=>zuw a b i hi (by omega)
    have:=zuv (B:=B) (l:=List.zip a b) (zd τ,zd τ) (p:=fun q=>eqI τ q.1 q.2) (fin:=some (true,())) (bad:=some (false,())) (fun i=>(a,b,(a.length:Int),i)) (by rw [hz]; exact hl) (fun k i x hi hx' _=>?_) (fun k=>?_)
    · rw [this]
      cases (List.zip a b).all fun q=>eqI τ q.1 q.2 <;> rfl
    · rw [hz] at hi
      rw [hx i hi] at hx'
      subst hx'
      rw [hB,ltT hi,zG hi,zG (by omega),qq,qq]
      simp only [cond_true]
      cases eqI τ (a.getD i (zd τ)) (b.getD i (zd τ)) <;> rfl
    · rw [hB,hz,ltF]; rfl
  · rw [decide_eq_false h]; rfl
theorem vV {x:Option (List τ.I × Unit)} (h:l.length ≤ lim) (hx:x = bif decide (List.length (List.replicate 0 (zd τ)) + List.length l ≤ lim) then some (List.replicate 0 (zd τ) ++ l,()) else none) :
    (bif List.isEmpty l then zdW (some ([],())) x else x) = some (l,()):=by
  have e:x = some (l,()):=by rw [hx,decide_eq_true (by simpa using h)]; rfl
  rw [e]
  cases l with
  | nil=>exact zGC _
  | cons y l=>rfl
end
end Go.Ev
end
section
namespace Go.Proofs.YtejbgeokcpillaaGreatDoor
open Go.Ev
abbrev tMe:Ty:=.st (.pair (.int .i64) (.pair (.int .i64) (.pair (.int .i64) .unit)))
abbrev pMe:Type:=(Int × (Int × (Int × Unit)))
abbrev jh:Ty:=.st (.pair (.int .i64) (.pair (.int .i64) (.pair (.int .i64) (.pair .str .unit))))
abbrev zcw:Type:=(Int × (Int × (Int × (ByteArray × Unit))))
abbrev zB:Ty:=.st (.pair (.int .i64) (.pair (.int .u64) .unit))
abbrev zD:Type:=(Int × (Int × Unit))
abbrev qN:zD:=zd zB
abbrev zo:Ty:=.st (.pair .bool (.pair (.int .i64) (.pair (.int .i64) (.pair (.int .i64) (.pair (.int .i64) (.pair (.int .i64) (.pair (.int .u64) (.pair (.int .u64) (.pair (.int .u64) (.pair (.int .i64) .unit))))))))))
abbrev zp:Type:=(Bool × (Int × (Int × (Int × (Int × (Int × (Int × (Int × (Int × (Int × Unit))))))))))
abbrev qm:zp:=zd zo
abbrev zv:Ty:=.st (.pair (.int .u64) (.pair (.int .i64) (.pair (.int .i64) (.pair (.int .i64) (.pair (.int .i64) (.pair (.int .i64) (.pair (.int .i64) (.pair (.int .u64) (.pair (.int .u64) (.pair (.int .i64) .unit))))))))))
abbrev zH:Type:=(Int × (Int × (Int × (Int × (Int × (Int × (Int × (Int × (Int × (Int × Unit))))))))))
abbrev zg6:zH:=zd zv
abbrev qg:Ty:=.st (.pair .bool (.pair .str .unit))
abbrev qY:Type:=(Bool × (ByteArray × Unit))
abbrev zsT:qY:=zd qg
abbrev zC:Ty:=.st (.pair (.int .i64) (.pair (.int .i64) .unit))
abbrev jm:Type:=(Int × (Int × Unit))
abbrev zI2:jm:=zd zC
abbrev zW:Ty:=.st (.pair .bool (.pair zC (.pair zC (.pair (.int .i64) .unit))))
abbrev z7:Type:=(Bool × (jm × (jm × (Int × Unit))))
abbrev vC:z7:=zd zW
abbrev zl:Ty:=.st (.pair .bool (.pair .str (.pair (.int .i64) (.pair (.int .i64) (.pair zC .unit)))))
abbrev zj:Type:=(Bool × (ByteArray × (Int × (Int × (jm × Unit)))))
abbrev zO:zj:=zd zl
abbrev z3:Ty:=.st (.pair .bool (.pair (.int .i64) (.pair (.int .i64) (.pair (.int .i64) (.pair .str .unit)))))
abbrev qn:Type:=(Bool × (Int × (Int × (Int × (ByteArray × Unit)))))
abbrev zAG:qn:=zd z3
abbrev zdi:Ty:=.st (.pair (.int .i64) (.pair (.int .u64) (.pair (.int .i64) .unit)))
abbrev zku:Type:=(Int × (Int × (Int × Unit)))
abbrev zx:Ty:=.st (.pair .bool (.pair (.int .i64) (.pair (.int .i64) (.pair zdi (.pair zdi .unit)))))
abbrev zt:Type:=(Bool × (Int × (Int × (zku × (zku × Unit)))))
abbrev qB:zt:=zd zx
abbrev qi:Ty:=.st (.pair (.int .i64) (.pair (.int .i64) (.pair zC .unit)))
abbrev qF:Type:=(Int × (Int × (jm × Unit)))
abbrev zcI:Ty:=.st (.pair (.int .i64) (.pair (.int .i64) (.pair (.int .i64) (.pair (.int .i64) (.pair (.int .i64) (.pair (.int .u64) .unit))))))
abbrev zbA:Type:=(Int × (Int × (Int × (Int × (Int × (Int × Unit))))))
abbrev jU:zbA:=zd zcI
abbrev qK:Ty:=.st (.pair .str (.pair .str (.pair (.int .i64) (.pair .bool .unit))))
abbrev qL:Type:=(ByteArray × (ByteArray × (Int × (Bool × Unit))))
abbrev zph:qL:=zd qK
abbrev yK:Ty:=.st (.pair (.int .i64) (.pair (.int .i64) .unit))
abbrev zL:Type:=(Int × (Int × Unit))
abbrev qO:zL:=zd yK
abbrev vD:Ty:=.st (.pair (.sl zx) (.pair (.fn (.pair zx .unit) (.pair .bool .unit)) .unit))
abbrev zbB:Type:=((List zt) × ((Option ((zt × Unit)→Option (Bool × Unit))) × Unit))
abbrev vW:Ty:=.st (.pair (.sl zl) (.pair (.fn (.pair zl .unit) (.pair .bool .unit)) .unit))
abbrev zbC:Type:=((List zj) × ((Option ((zj × Unit)→Option (Bool × Unit))) × Unit))
abbrev yD:Ty:=.st (.pair (.sl zo) (.pair (.fn (.pair zo .unit) (.pair .bool .unit)) .unit))
abbrev zdj:Type:=((List zp) × ((Option ((zp × Unit)→Option (Bool × Unit))) × Unit))
abbrev zj8:Ty:=.st (.pair (.int .u8) (.pair (.int .u8) .unit))
abbrev zy:Ty:=.st (.pair (.sl zB) (.pair (.sl (.int .i64)) (.pair (.sl qK) (.pair (.sl yK) (.pair (.sl zcI) (.pair (.int .i64) (.pair (.int .i64) (.pair (.int .i64) (.pair (.int .i64) .unit)))))))))
abbrev ze:Type:=((List zD) × ((List Int) × ((List qL) × ((List zL) × ((List zbA) × (Int × (Int × (Int × (Int × Unit)))))))))
abbrev zn:Ty:=.st (.pair (.sl qg) (.pair (.sl zW) (.pair (.sl zl) (.pair (.sl z3) (.pair (.sl zx) (.pair (.sl (.arr 4 (.int .u64))) (.pair (.sl zC) (.pair (.arr 4 (.int .u64)) (.pair (.arr 4 (.int .u64)) .unit)))))))))
abbrev zg:Type:=((List qY) × ((List z7) × ((List zj) × ((List qn) × ((List zt) × ((List (List Int)) × ((List jm) × ((List Int) × ((List Int) × Unit)))))))))
abbrev zf:zg:=zd zn
abbrev zq:Ty:=.st (.pair (.int .u64) (.pair (.sl zn) (.pair (.sl (.sl (.int .i64))) (.pair (.sl zo) (.pair (.sl zv) (.pair (.sl (.int .i64)) .unit))))))
abbrev zb:Type:=(Int × ((List zg) × ((List (List Int)) × ((List zp) × ((List zH) × ((List Int) × Unit))))))
abbrev qa:Ty:=.st (.pair zy (.pair zq .unit))
abbrev qI:Type:=(ze × (zb × Unit))
def types:TT:=(.node (.node (.node (.node (.node (.node (.node (.node (.node .nil 1 (.fn .unit .unit) .nil) 2 (.int .i64) .nil) 3 (.int .i64) (.node .nil 4 .bool .nil)) 5 (.int .u8) (.node (.node (.node .nil 6 (.int .u8) .nil) 7 (.st (.pair (.int .i64) (.pair (.int .i64) (.pair .bool (.pair (.int .u8) .unit))))) .nil) 8 (.st (.pair (.int .i64) (.pair (.int .i64) (.pair .bool (.pair (.int .u8) .unit))))) (.node .nil 9 .str .nil))) 10 .str (.node (.node (.node (.node .nil 11 .str .nil) 12 (.int .u64) .nil) 21 (.int .i32) (.node .nil 22 (.sl zB) .nil)) 23 (.sl (.int .i64)) (.node (.node .nil 24 (.sl qK) .nil) 25 (.sl yK) (.node .nil 26 (.sl zcI) .nil)))) 27 (.st (.pair (.sl zB) (.pair (.sl (.int .i64)) (.pair (.sl qK) (.pair (.sl yK) (.pair (.sl zcI) (.pair (.int .i64) (.pair (.int .i64) (.pair (.int .i64) (.pair (.int .i64) .unit)))))))))) (.node (.node (.node (.node (.node .nil 28 zy .nil) 29 (.int .u64) .nil) 30 (.sl zn) (.node .nil 31 (.sl (.sl (.int .i64))) .nil)) 32 (.sl zo) (.node (.node (.node .nil 33 (.sl zv) .nil) 34 (.st (.pair (.int .u64) (.pair (.sl zn) (.pair (.sl (.sl (.int .i64))) (.pair (.sl zo) (.pair (.sl zv) (.pair (.sl (.int .i64)) .unit))))))) .nil) 35 zq (.node .nil 36 (.st (.pair (.int .i64) (.pair (.int .i64) (.pair (.int .i64) .unit)))) .nil))) 37 tMe (.node (.node (.node (.node .nil 38 (.st (.pair (.int .i64) (.pair (.int .i64) (.pair (.int .i64) (.pair .str .unit))))) .nil) 39 jh .nil) 40 (.fn (.pair zq .unit) (.pair zq .unit)) (.node .nil 41 (.int .i64) .nil)) 43 (.fn (.pair zy (.pair zq (.pair tMe (.pair jh .unit)))) (.pair zq (.pair (.int .i64) (.pair (.int .i64) .unit)))) (.node (.node .nil 44 (.fn (.pair zy (.pair zq (.pair tMe (.pair (.int .i64) (.pair (.int .i64) (.pair (.int .i64) (.pair .str .unit))))))) (.pair zq (.pair (.int .i64) (.pair (.int .i64) .unit)))) .nil) 46 (.fn (.pair zy (.pair zq (.pair tMe .unit))) (.pair (.sl (.int .i64)) (.pair (.int .i64) .unit))) (.node .nil 47 (.sl zC) .nil))))) 49 (.fn (.pair zy (.pair zq (.pair tMe .unit))) (.pair (.sl zC) (.pair (.int .i64) .unit))) (.node (.node (.node (.node (.node (.node .nil 50 (.fn .unit (.pair .bool .unit)) .nil) 51 (.fn (.pair zq (.pair zq .unit)) (.pair .bool .unit)) .nil) 52 (.fn (.pair (.sl (.int .i64)) (.pair (.sl (.int .i64)) .unit)) (.pair .bool .unit)) (.node .nil 53 (.fn (.pair (.sl zC) (.pair (.sl zC) .unit)) (.pair .bool .unit)) .nil)) 54 (.fn (.pair zy (.pair zq (.pair tMe (.pair jh .unit)))) (.pair .bool .unit)) (.node (.node (.node .nil 55 (.st (.pair (.int .i64) (.pair (.int .u64) .unit))) .nil) 56 zB .nil) 57 (.fn (.pair zy (.pair zq (.pair tMe .unit))) (.pair .bool .unit)) (.node .nil 58 (.fn (.pair zy (.pair zq .unit)) (.pair .bool .unit)) .nil))) 59 (.fn (.pair zq .unit) (.pair (.int .i64) .unit)) (.node (.node (.node (.node .nil 60 (.fn (.pair zB (.pair zB .unit)) (.pair .bool .unit)) .nil) 61 (.fn (.pair zB .unit) (.pair .bool .unit)) .nil) 62 (.fn (.pair zy (.pair zq (.pair zq (.pair zB .unit)))) (.pair .bool .unit)) (.node .nil 63 (.fn (.pair zy (.pair zq (.pair tMe (.pair jh (.pair zB .unit))))) (.pair .bool .unit)) .nil)) 64 (.fn (.pair zy (.pair zq (.pair zq (.pair tMe (.pair jh (.pair zB .unit)))))) (.pair .bool .unit)) (.node (.node .nil 65 (.fn (.pair (.sl zo) .unit) (.pair (.sl zo) .unit)) .nil) 66 (.st (.pair .bool (.pair (.int .i64) (.pair (.int .i64) (.pair (.int .i64) (.pair (.int .i64) (.pair (.int .i64) (.pair (.int .u64) (.pair (.int .u64) (.pair (.int .u64) (.pair (.int .i64) .unit))))))))))) (.node .nil 67 zo .nil)))) 68 (.fn (.pair (.sl zv) .unit) (.pair (.sl zv) .unit)) (.node (.node (.node (.node (.node .nil 69 (.st (.pair (.int .u64) (.pair (.int .i64) (.pair (.int .i64) (.pair (.int .i64) (.pair (.int .i64) (.pair (.int .i64) (.pair (.int .i64) (.pair (.int .u64) (.pair (.int .u64) (.pair (.int .i64) .unit))))))))))) .nil) 70 zv .nil) 71 (.fn (.pair (.sl (.int .i64)) .unit) (.pair (.sl (.int .i64)) .unit)) (.node .nil 72 (.fn (.pair (.sl (.sl (.int .i64))) .unit) (.pair (.sl (.sl (.int .i64))) .unit)) .nil)) 73 (.fn (.pair (.sl zn) .unit) (.pair (.sl zn) .unit)) (.node (.node .nil 74 (.sl qg) .nil) 75 (.sl zW) (.node .nil 76 (.sl zl) .nil))) 77 (.sl z3) (.node (.node (.node (.node .nil 78 (.sl zx) .nil) 79 (.sl (.arr 4 (.int .u64))) .nil) 80 (.arr 4 (.int .u64)) (.node .nil 81 (.st (.pair (.sl qg) (.pair (.sl zW) (.pair (.sl zl) (.pair (.sl z3) (.pair (.sl zx) (.pair (.sl (.arr 4 (.int .u64))) (.pair (.sl zC) (.pair (.arr 4 (.int .u64)) (.pair (.arr 4 (.int .u64)) .unit)))))))))) .nil)) 82 zn (.node (.node .nil 83 (.fn (.pair (.sl qg) .unit) (.pair (.sl qg) .unit)) .nil) 84 (.st (.pair .bool (.pair .str .unit))) (.node .nil 85 qg .nil)))))) 86 (.fn (.pair (.sl zW) .unit) (.pair (.sl zW) .unit)) (.node (.node (.node (.node (.node (.node (.node .nil 87 (.st (.pair (.int .i64) (.pair (.int .i64) .unit))) .nil) 88 zC .nil) 89 (.st (.pair .bool (.pair zC (.pair zC (.pair (.int .i64) .unit))))) (.node .nil 90 zW .nil)) 91 (.fn (.pair (.sl zl) .unit) (.pair (.sl zl) .unit)) (.node (.node (.node .nil 92 (.st (.pair .bool (.pair .str (.pair (.int .i64) (.pair (.int .i64) (.pair zC .unit)))))) .nil) 93 zl .nil) 94 (.fn (.pair (.sl z3) .unit) (.pair (.sl z3) .unit)) (.node .nil 95 (.st (.pair .bool (.pair (.int .i64) (.pair (.int .i64) (.pair (.int .i64) (.pair .str .unit)))))) .nil))) 96 z3 (.node (.node (.node (.node .nil 97 (.fn (.pair (.sl zx) .unit) (.pair (.sl zx) .unit)) .nil) 98 (.st (.pair (.int .i64) (.pair (.int .u64) (.pair (.int .i64) .unit)))) .nil) 99 zdi (.node .nil 100 (.st (.pair .bool (.pair (.int .i64) (.pair (.int .i64) (.pair zdi (.pair zdi .unit)))))) .nil)) 101 zx (.node (.node .nil 102 (.fn (.pair (.sl (.arr 4 (.int .u64))) .unit) (.pair (.sl (.arr 4 (.int .u64))) .unit)) .nil) 103 (.fn (.pair (.sl zC) .unit) (.pair (.sl zC) .unit)) (.node .nil 104 (.fn (.pair zy (.pair zq (.pair tMe (.pair .str .unit)))) (.pair zq (.pair (.int .i64) (.pair (.int .i64) .unit)))) .nil)))) 106 (.fn (.pair zy (.pair zq (.pair tMe (.pair (.int .i64) .unit)))) (.pair zq (.pair (.int .i64) .unit))) (.node (.node (.node (.node (.node .nil 107 (.fn (.pair zy (.pair zq (.pair tMe (.pair (.int .i64) (.pair (.int .i64) .unit))))) (.pair zq (.pair (.int .i64) .unit))) .nil) 109 (.fn (.pair (.sl zl) (.pair .str (.pair (.int .i64) .unit))) (.pair (.sl zl) (.pair (.int .i64) (.pair (.int .i64) .unit)))) .nil) 111 (.fn (.pair (.sl zl) (.pair (.int .i64) (.pair (.int .i64) .unit))) (.pair (.sl zl) (.pair (.int .i64) .unit))) (.node .nil 112 (.fn (.pair (.sl zl) (.pair (.int .i64) (.pair (.int .i64) (.pair zC .unit)))) (.pair (.sl zl) (.pair (.int .i64) .unit))) .nil)) 113 (.fn (.pair zq (.pair tMe .unit)) (.pair zC .unit)) (.node (.node (.node .nil 114 (.fn (.pair (.sl zl) (.pair (.int .i64) (.pair (.int .i64) .unit))) (.pair .bool .unit)) .nil) 115 (.fn (.pair (.sl zl) (.pair (.int .i64) (.pair (.int .i64) (.pair (.int .i64) (.pair (.int .i64) .unit))))) (.pair (.sl zl) (.pair (.int .i64) .unit))) .nil) 116 (.fn (.pair zq (.pair (.int .i64) (.pair zn .unit))) (.pair zq .unit)) (.node .nil 117 (.fn (.pair (.sl zl) (.pair (.int .i64) .unit)) (.pair (.sl (.int .i64)) .unit)) .nil))) 118 (.fn (.pair zq (.pair tMe .unit)) (.pair (.sl zl) .unit)) (.node (.node (.node (.node .nil 119 (.fn (.pair zy (.pair (.int .i64) (.pair (.int .i64) .unit))) (.pair .bool .unit)) .nil) 120 (.fn (.pair (.sl zl) (.pair zC .unit)) (.pair (.sl (.int .i64)) .unit)) .nil) 121 (.fn .unit (.pair zy .unit)) (.node .nil 122 (.fn (.pair zy .unit) (.pair zq (.pair (.int .i64) .unit))) .nil)) 123 (.fn (.pair (.sl (.sl (.int .i64))) (.pair (.sl (.sl (.int .i64))) .unit)) (.pair .bool .unit)) (.node (.node .nil 124 (.fn (.pair (.sl zo) (.pair (.sl zo) .unit)) (.pair .bool .unit)) .nil) 125 (.fn (.pair (.sl zv) (.pair (.sl zv) .unit)) (.pair .bool .unit)) (.node .nil 126 (.fn (.pair zn (.pair zn .unit)) (.pair .bool .unit)) .nil))))) 127 (.st (.pair zy (.pair zq .unit))) (.node (.node (.node (.node (.node (.node .nil 128 qa .nil) 129 (.sl (.fn .unit (.pair .bool .unit))) .nil) 130 (.fn (.pair zy (.pair zq (.pair zB .unit))) (.pair zq (.pair (.int .i64) .unit))) (.node .nil 131 (.fn (.pair zy (.pair zq (.pair tMe (.pair (.fn (.pair (.sl zl) .unit) (.pair (.sl zl) (.pair (.int .i64) .unit))) .unit)))) (.pair zq (.pair (.int .i64) .unit))) .nil)) 132 (.fn (.pair (.sl zl) .unit) (.pair (.sl zl) (.pair (.int .i64) .unit))) (.node (.node (.node .nil 133 (.fn (.pair (.sl zl) (.pair (.int .i64) (.pair (.int .i64) (.pair (.int .i64) .unit)))) (.pair (.sl zl) (.pair (.int .i64) .unit))) .nil) 134 (.fn (.pair zy (.pair tMe .unit)) (.pair .bool .unit)) .nil) 135 (.fn (.pair (.sl zl) .unit) (.pair .bool .unit)) (.node .nil 136 (.fn (.pair (.int .i64) .unit) (.pair .bool .unit)) .nil))) 137 (.fn (.pair .str .unit) (.pair .bool .unit)) (.node (.node (.node (.node .nil 138 (.fn (.pair (.sl zl) (.pair (.int .i64) (.pair zl .unit))) (.pair (.sl zl) .unit)) .nil) 139 (.fn (.pair zC .unit) (.pair .bool .unit)) .nil) 140 (.fn (.pair (.sl zl) (.pair qi .unit)) (.pair (.sl (.int .i64)) .unit)) (.node .nil 141 (.st (.pair (.int .i64) (.pair (.int .i64) (.pair zC .unit)))) .nil)) 142 qi (.node (.node .nil 143 (.fn (.pair (.int .i64) .unit) (.pair qi .unit)) .nil) 144 (.fn (.pair zy (.pair (.int .i64) .unit)) (.pair .bool .unit)) (.node .nil 145 (.fn (.pair zC .unit) (.pair qi .unit)) .nil)))) 146 (.st (.pair (.int .i64) (.pair (.int .i64) (.pair (.int .i64) (.pair (.int .i64) (.pair (.int .i64) (.pair (.int .u64) .unit))))))) (.node (.node (.node (.node (.node .nil 147 zcI .nil) 148 (.st (.pair .str (.pair .str (.pair (.int .i64) (.pair .bool .unit))))) .nil) 149 qK (.node .nil 150 (.st (.pair (.int .i64) (.pair (.int .i64) .unit))) .nil)) 151 yK (.node (.node .nil 152 (.fn (.pair zy .unit) (.pair .bool .unit)) .nil) 153 (.fn (.pair zy .unit) (.pair (.sl (.sl (.int .i64))) .unit)) (.node .nil 154 (.fn (.pair zy (.pair zcI .unit)) (.pair zn .unit)) .nil))) 155 (.fn (.pair (.sl qg) (.pair (.sl qg) .unit)) (.pair .bool .unit)) (.node (.node (.node (.node .nil 156 (.fn (.pair (.sl zW) (.pair (.sl zW) .unit)) (.pair .bool .unit)) .nil) 157 (.fn (.pair (.sl zl) (.pair (.sl zl) .unit)) (.pair .bool .unit)) .nil) 158 (.fn (.pair (.sl z3) (.pair (.sl z3) .unit)) (.pair .bool .unit)) (.node .nil 159 (.fn (.pair (.sl zx) (.pair (.sl zx) .unit)) (.pair .bool .unit)) .nil)) 160 (.fn (.pair (.sl zn) (.pair (.fn (.pair zn .unit) (.pair .bool .unit)) .unit)) (.pair .bool .unit)) (.node (.node .nil 161 (.fn (.pair (.sl qg) .unit) (.pair .bool .unit)) .nil) 162 (.fn (.pair (.sl zW) .unit) (.pair .bool .unit)) (.node .nil 163 (.fn (.pair (.sl z3) .unit) (.pair .bool .unit)) .nil))))))) 164 (.fn (.pair (.sl zx) .unit) (.pair .bool .unit)) (.node (.node (.node (.node (.node (.node (.node (.node .nil 165 (.fn (.pair zn .unit) (.pair .bool .unit)) .nil) 166 (.fn (.pair zy (.pair (.sl (.sl (.int .i64))) .unit)) (.pair .bool .unit)) .nil) 167 (.fn (.pair (.sl zo) .unit) (.pair .bool .unit)) (.node .nil 168 (.fn (.pair (.sl zv) .unit) (.pair .bool .unit)) .nil)) 169 (.fn (.pair zq (.pair zC .unit)) (.pair .bool .unit)) (.node (.node (.node .nil 170 (.fn (.pair (.sl zo) (.pair (.fn (.pair zo .unit) (.pair .bool .unit)) .unit)) (.pair .bool .unit)) .nil) 171 (.fn (.pair zo .unit) (.pair .bool .unit)) .nil) 172 (.fn (.pair (.sl zv) (.pair (.fn (.pair zv .unit) (.pair .bool .unit)) .unit)) (.pair .bool .unit)) (.node .nil 173 (.fn (.pair zv .unit) (.pair .bool .unit)) .nil))) 174 (.fn (.pair (.sl (.int .i64)) (.pair (.fn (.pair (.int .i64) .unit) (.pair .bool .unit)) .unit)) (.pair .bool .unit)) (.node (.node (.node (.node .nil 175 (.fn (.pair (.int .i64) .unit) (.pair (.fn (.pair zC .unit) (.pair .bool .unit)) .unit)) .nil) 176 (.fn (.pair (.sl zW) (.pair (.fn (.pair zW .unit) (.pair .bool .unit)) .unit)) (.pair .bool .unit)) .nil) 177 (.fn (.pair zW .unit) (.pair .bool .unit)) (.node .nil 178 (.fn (.pair (.sl zl) (.pair (.fn (.pair zl .unit) (.pair .bool .unit)) .unit)) (.pair .bool .unit)) .nil)) 179 (.fn (.pair zl .unit) (.pair .bool .unit)) (.node (.node .nil 180 (.fn (.pair (.sl zC) (.pair (.fn (.pair zC .unit) (.pair .bool .unit)) .unit)) (.pair .bool .unit)) .nil) 181 (.fn (.pair (.sl z3) (.pair (.fn (.pair z3 .unit) (.pair .bool .unit)) .unit)) (.pair .bool .unit)) (.node .nil 182 (.fn (.pair (.int .i64) (.pair (.int .i64) .unit)) (.pair .bool .unit)) .nil)))) 183 (.fn (.pair z3 .unit) (.pair .bool .unit)) (.node (.node (.node (.node (.node .nil 184 (.fn (.pair (.sl zx) (.pair (.fn (.pair zx .unit) (.pair .bool .unit)) .unit)) (.pair .bool .unit)) .nil) 185 (.fn (.pair zx .unit) (.pair .bool .unit)) .nil) 186 (.ptr vD) (.node .nil 187 (.fn (.pair (.sl zx) (.pair (.fn (.pair zx .unit) (.pair .bool .unit)) .unit)) (.pair (.ptr vD) .unit)) .nil)) 188 (.fn .unit (.pair (.sl (.int .i64)) .unit)) (.node (.node (.node .nil 190 (.fn (.pair zq (.pair (.int .i64) .unit)) (.pair (.int .u64) (.pair (.int .i64) .unit))) .nil) 192 (.fn (.pair (.int .i64) .unit) (.pair zB (.pair (.int .i64) .unit))) .nil) 193 (.fn (.pair (.sl zn) (.pair (.sl zn) (.pair (.fn (.pair (.int .i64) .unit) (.pair .bool .unit)) .unit))) (.pair (.sl zn) .unit)) (.node .nil 194 (.fn (.pair (.sl (.sl (.int .i64))) (.pair (.sl (.sl (.int .i64))) (.pair (.fn (.pair (.int .i64) .unit) (.pair .bool .unit)) .unit))) (.pair (.sl (.sl (.int .i64))) .unit)) .nil))) 195 (.fn (.pair (.sl (.int .i64)) (.pair (.sl (.int .i64)) (.pair (.fn (.pair (.int .i64) .unit) (.pair .bool .unit)) .unit))) (.pair (.sl (.int .i64)) .unit)) (.node (.node (.node (.node .nil 196 (.fn (.pair (.sl zn) (.pair (.sl zn) (.pair (.fn (.pair zn (.pair zn .unit)) (.pair .bool .unit)) .unit))) (.pair .bool .unit)) .nil) 197 (.fn (.pair (.sl (.sl (.int .i64))) (.pair (.sl (.sl (.int .i64))) (.pair (.fn (.pair (.sl (.int .i64)) (.pair (.sl (.int .i64)) .unit)) (.pair .bool .unit)) .unit))) (.pair .bool .unit)) .nil) 198 (.ptr vW) (.node .nil 199 (.fn (.pair (.sl zl) .unit) (.pair (.ptr vW) .unit)) .nil)) 200 (.fn (.pair zl .unit) (.pair (.sl zl) (.pair (.int .i64) (.pair (.int .i64) .unit)))) (.node (.node .nil 201 (.fn (.pair zl (.pair qi .unit)) (.pair zl .unit)) .nil) 202 (.fn (.pair (.sl zl) (.pair (.int .i64) (.pair qi (.pair qi .unit)))) (.pair (.sl zl) (.pair (.int .i64) .unit))) (.node .nil 203 (.fn (.pair (.int .i64) (.pair zl .unit)) (.pair (.sl zl) (.pair (.int .i64) .unit))) .nil))))) 204 (.fn (.pair zy (.pair zq (.pair (.int .i64) .unit))) (.pair .bool .unit)) (.node (.node (.node (.node (.node (.node .nil 205 (.fn (.pair zl .unit) (.pair qi .unit)) .nil) 206 (.fn (.pair (.int .i64) (.pair (.int .i64) (.pair (.int .i64) .unit))) (.pair .bool .unit)) .nil) 207 (.fn (.pair zB (.pair (.int .i64) .unit)) (.pair .bool .unit)) (.node .nil 208 (.sl (.fn (.pair zy .unit) (.pair .bool .unit))) .nil)) 209 (.fn (.pair (.sl qg) (.pair (.fn (.pair qg .unit) (.pair .bool .unit)) .unit)) (.pair .bool .unit)) (.node (.node (.node .nil 210 (.fn (.pair qg .unit) (.pair .bool .unit)) .nil) 211 (.fn (.pair (.sl zW) (.pair zC (.pair (.int .i64) .unit))) (.pair (.int .i64) .unit)) .nil) 212 (.pair (.int .i64) (.int .i64)) (.node .nil 213 (.fn (.pair zv (.pair zv .unit)) (.pair (.int .i64) .unit)) .nil))) 214 (.st (.pair (.sl zx) (.pair (.fn (.pair zx .unit) (.pair .bool .unit)) .unit))) (.node (.node (.node (.node .nil 215 vD .nil) 216 (.fn (.pair (.sl zo) (.pair (.int .i64) .unit)) (.pair (.int .u64) (.pair (.int .i64) .unit))) .nil) 217 (.sl (.int .u64)) (.node .nil 218 (.fn (.pair (.sl zx) (.pair (.int .i64) .unit)) (.pair (.int .u64) (.pair (.int .i64) .unit))) .nil)) 219 (.fn (.pair (.sl (.int .u64)) .unit) (.pair (.int .u64) (.pair (.int .i64) .unit))) (.node (.node .nil 220 (.fn (.pair zq (.pair (.int .i64) (.pair (.fn (.pair zn .unit) (.pair (.arr 4 (.int .u64)) .unit)) .unit))) (.pair (.int .u64) (.pair (.int .i64) .unit))) .nil) 221 (.fn (.pair zn .unit) (.pair (.arr 4 (.int .u64)) .unit)) (.node .nil 222 (.fn (.pair (.int .u64) (.pair (.int .u64) .unit)) (.pair (.int .u64) (.pair (.int .i64) .unit))) .nil)))) 223 (.fn (.pair (.sl (.arr 4 (.int .u64))) (.pair (.sl (.arr 4 (.int .u64))) .unit)) (.pair .bool .unit)) (.node (.node (.node (.node (.node .nil 224 (.fn (.pair (.int .u8) .unit) (.pair .bool .unit)) .nil) 225 (.fn (.pair .str (.pair (.fn (.pair (.int .u8) .unit) (.pair .bool .unit)) .unit)) (.pair .bool .unit)) .nil) 226 (.fn (.pair (.sl zl) (.pair (.fn (.pair zl .unit) (.pair .bool .unit)) .unit)) (.pair (.ptr vW) .unit)) (.node .nil 228 (.fn .unit (.pair (.int .i64) (.pair (.int .i64) .unit))) .nil)) 229 (.st (.pair (.sl zl) (.pair (.fn (.pair zl .unit) (.pair .bool .unit)) .unit))) (.node (.node .nil 230 vW .nil) 231 (.fn (.pair (.sl zB) .unit) (.pair .bool .unit)) (.node .nil 232 (.fn (.pair (.sl qK) .unit) (.pair .bool .unit)) .nil))) 233 (.fn (.pair (.sl yK) (.pair (.sl zB) (.pair (.int .i64) .unit))) (.pair .bool .unit)) (.node (.node (.node (.node .nil 234 (.fn (.pair (.sl zcI) .unit) (.pair .bool .unit)) .nil) 235 (.fn (.pair zy (.pair zq (.pair zC (.pair (.int .i64) .unit)))) (.pair .bool .unit)) .nil) 236 (.fn (.pair zy (.pair zq (.pair (.int .i64) (.pair (.int .i64) .unit)))) (.pair .bool .unit)) (.node .nil 237 (.fn (.pair zy (.pair zn (.pair (.int .i64) .unit))) (.pair .bool .unit)) .nil)) 238 (.int .u64) (.node (.node .nil 239 (.fn (.pair (.sl zB) (.pair (.fn (.pair zB .unit) (.pair .bool .unit)) .unit)) (.pair .bool .unit)) .nil) 240 (.fn (.pair zB (.pair zB .unit)) (.pair (.int .i64) .unit)) (.node .nil 241 (.fn (.pair qK .unit) (.pair .bool .unit)) .nil)))))) 242 (.fn (.pair (.sl qK) (.pair (.fn (.pair qK .unit) (.pair .bool .unit)) .unit)) (.pair .bool .unit)) (.node (.node (.node (.node (.node (.node (.node .nil 243 (.fn (.pair (.sl .str) .unit) (.pair .bool .unit)) .nil) 244 (.sl .str) .nil) 245 (.fn (.pair zy .unit) (.pair (.sl .str) .unit)) (.node .nil 246 (.fn (.pair (.sl zB) (.pair zB .unit)) (.pair .bool .unit)) .nil)) 247 (.fn (.pair zcI .unit) (.pair (.sl (.int .i64)) .unit)) (.node (.node (.node .nil 248 (.fn (.pair (.sl zn) (.pair (.fn (.pair zn .unit) (.pair .bool .unit)) .unit)) (.pair (.int .i64) .unit)) .nil) 249 (.fn (.pair (.sl qg) (.pair (.fn (.pair qg .unit) (.pair .bool .unit)) .unit)) (.pair (.int .i64) .unit)) .nil) 250 (.fn (.pair (.sl zW) (.pair (.fn (.pair zW .unit) (.pair .bool .unit)) .unit)) (.pair (.int .i64) .unit)) (.node .nil 251 (.fn (.pair (.sl zl) (.pair (.fn (.pair zl .unit) (.pair .bool .unit)) .unit)) (.pair (.int .i64) .unit)) .nil))) 252 (.fn (.pair (.sl z3) (.pair (.fn (.pair z3 .unit) (.pair .bool .unit)) .unit)) (.pair (.int .i64) .unit)) (.node (.node (.node (.node .nil 253 (.fn (.pair (.sl zx) (.pair (.fn (.pair zx .unit) (.pair .bool .unit)) .unit)) (.pair (.int .i64) .unit)) .nil) 254 (.fn (.pair zdi .unit) (.pair .bool .unit)) .nil) 255 (.fn (.pair (.sl (.int .i64)) (.pair (.fn (.pair (.int .i64) .unit) (.pair .bool .unit)) .unit)) (.pair (.int .i64) .unit)) (.node .nil 256 (.fn (.pair (.int .i64) (.pair (.int .u64) (.pair (.int .u64) .unit))) (.pair (.int .u64) (.pair (.int .i64) .unit))) .nil)) 257 (.fn (.pair (.sl (.int .i64)) .unit) (.pair (.int .i64) .unit)) (.node (.node .nil 258 (.fn (.pair (.int .u64) (.pair (.int .u64) .unit)) (.pair (.int .i64) .unit)) .nil) 259 (.fn (.pair (.int .i64) (.pair (.int .i64) .unit)) (.pair (.int .i64) .unit)) (.node .nil 260 (.fn (.pair (.sl zo) (.pair (.fn (.pair zo .unit) (.pair .bool .unit)) .unit)) (.pair (.int .i64) .unit)) .nil)))) 261 (.fn (.pair (.sl zv) (.pair (.fn (.pair zv .unit) (.pair .bool .unit)) .unit)) (.pair (.int .i64) .unit)) (.node (.node (.node (.node (.node .nil 262 (.fn (.pair (.sl zC) (.pair (.fn (.pair zC .unit) (.pair .bool .unit)) .unit)) (.pair (.int .i64) .unit)) .nil) 263 (.fn (.pair (.sl zo) .unit) (.pair (.sl (.int .i64)) .unit)) .nil) 264 (.fn (.pair zo .unit) (.pair (.int .i64) .unit)) (.node .nil 265 (.fn (.pair (.sl zx) .unit) (.pair (.ptr vD) .unit)) .nil)) 267 (.fn (.pair (.int .u64) (.pair (.int .u64) (.pair (.int .u64) .unit))) (.pair (.int .u64) (.pair (.int .u64) .unit))) (.node (.node .nil 268 (.fn (.pair (.sl (.int .u8)) (.pair (.fn (.pair (.int .u8) .unit) (.pair .bool .unit)) .unit)) (.pair .bool .unit)) .nil) 269 (.sl (.int .u8)) (.node .nil 270 (.fn (.pair (.sl zB) (.pair zB .unit)) (.pair (.int .i64) .unit)) .nil))) 271 (.fn (.pair (.int .i64) .unit) (.pair zB .unit)) (.node (.node (.node (.node .nil 272 (.fn (.pair (.sl yK) (.pair (.int .i64) .unit)) (.pair .bool .unit)) .nil) 273 (.fn (.pair (.sl zo) (.pair (.int .i64) (.pair (.int .i64) .unit))) (.pair .bool .unit)) .nil) 274 (.fn (.pair zv (.pair zv .unit)) (.pair .bool .unit)) (.node .nil 275 (.fn (.pair zo (.pair (.int .i64) .unit)) (.pair (.int .u64) .unit)) .nil)) 276 (.fn (.pair (.sl zB) (.pair (.fn (.pair zB .unit) (.pair .bool .unit)) .unit)) (.pair (.int .i64) .unit)) (.node (.node .nil 277 (.fn (.pair (.sl qK) (.pair (.fn (.pair qK .unit) (.pair .bool .unit)) .unit)) (.pair (.int .i64) .unit)) .nil) 278 (.pair .str (.int .i64)) (.node .nil 279 (.fn (.pair .str (.pair .str .unit)) (.pair .str .unit)) .nil))))) 280 (.fn (.pair (.int .u64) .unit) (.pair .bool .unit)) (.node (.node (.node (.node (.node (.node .nil 281 (.ptr yD) .nil) 282 (.fn (.pair (.sl zo) .unit) (.pair (.ptr yD) .unit)) .nil) 283 (.fn (.pair (.sl (.int .u8)) (.pair (.fn (.pair (.int .u8) .unit) (.pair .bool .unit)) .unit)) (.pair (.int .i64) .unit)) (.node .nil 284 (.fn (.pair .str (.pair (.int .u8) .unit)) (.pair .str .unit)) .nil)) 285 (.arr 256 .bool) (.node (.node (.node .nil 286 (.arr 256 .bool) .nil) 288 (.fn (.pair .str .unit) (.pair (.arr 256 .bool) (.pair .bool .unit))) .nil) 289 (.fn (.pair .str (.pair (.ptr (.arr 256 .bool)) .unit)) (.pair .str .unit)) (.node .nil 290 (.ptr (.arr 256 .bool)) .nil))) 291 (.fn (.pair (.int .u64) (.pair (.int .u64) .unit)) (.pair (.int .u64) (.pair (.int .u64) .unit))) (.node (.node (.node (.node .nil 292 (.fn (.pair (.sl zo) (.pair (.fn (.pair zo .unit) (.pair .bool .unit)) .unit)) (.pair (.ptr yD) .unit)) .nil) 293 (.st (.pair (.sl zo) (.pair (.fn (.pair zo .unit) (.pair .bool .unit)) .unit))) .nil) 294 yD (.node .nil 296 (.fn (.pair .str .unit) (.pair (.int .i32) (.pair (.int .i64) .unit))) .nil)) 297 (.fn (.pair .str (.pair (.int .i32) .unit)) (.pair .bool .unit)) (.node (.node .nil 298 (.fn (.pair .str (.pair (.int .i32) .unit)) (.pair (.int .i64) .unit)) .nil) 299 (.arr 256 (.int .u8)) (.node .nil 300 (.st (.pair (.int .u8) (.pair (.int .u8) .unit))) .nil)))) 301 zj8 (.node (.node (.node (.node (.node .nil 302 (.arr 16 zj8) .nil) 303 (.fn (.pair .str (.pair (.int .u8) .unit)) (.pair (.int .i64) .unit)) .nil) 304 (.fn (.pair (.int .i32) .unit) (.pair .bool .unit)) (.node .nil 305 (.fn (.pair (.int .i64) .unit) (.pair (.int .i64) .unit)) .nil)) 306 (.fn (.pair .str (.pair .str .unit)) (.pair (.int .i64) .unit)) (.node (.node .nil 307 (.fn .unit (.pair .str .unit)) .nil) 313 (.fn .unit (.pair (.int .i64) .unit)) (.node .nil 314 (.int .u32) .nil))) 315 (.int .u8) (.node (.node (.node (.node .nil 316 (.int .u8) .nil) 318 (.ptr (.int .u8)) .nil) 319 (.int .i32) (.node .nil 320 (.int .i32) .nil)) 323 (.fn (.pair zx .unit) (.pair (.sl zx) (.pair (.int .i64) (.pair (.int .i64) .unit)))) (.node (.node .nil 324 (.fn (.pair (.int .i64) (.pair zx .unit)) (.pair (.sl zx) (.pair (.int .i64) .unit))) .nil) 325 (.fn (.pair zo .unit) (.pair (.sl zo) (.pair (.int .i64) (.pair (.int .i64) .unit)))) (.node .nil 326 (.fn (.pair (.int .i64) (.pair zo .unit)) (.pair (.sl zo) (.pair (.int .i64) .unit))) .nil))))))))
def glob:List (Nat × AV):=[]
abbrev zru:Ty:=(.pair zy (.pair zq (.pair tMe (.pair jh (.pair zB .unit)))))
def ext:List (Nat × Bool):=[(292,false),(322,true)]
def E0:Env:=⟨types,[],glob,0,false,ext,[],fun _=>none,false,false⟩
theorem zFi:Tryz.prog.follows .mixedOrders = true:=by kernel_rfl
theorem mkS {l:List Fun} {d:Bool} {F:Fun} {f:Go.Func} {K:Nat} (hl:Sds Tryz.prog E0 l) (hf:Tryz.prog.funcs[F.id]? = some f) (ho:qX f = true) (h:evF (En E0 d l) K f F.md F.a F.r = F.spec):Sd Tryz.prog E0 F:=Sd.mk zFi hl hf ho h
theorem zJw {l:List Fun} {d:Bool} {js:List Nat} {F:Fun} {f:Go.Func} {K:Nat} (hl:Sds Tryz.prog E0 l) (hf:Tryz.prog.funcs[F.id]? = some f) (ho:qX f = true) (h:evF (Ej E0 d js l) K f F.md F.a F.r = F.spec):Sd Tryz.prog E0 F:=Sd.mkJ zFi hl hf ho h
end Go.Proofs.YtejbgeokcpillaaGreatDoor
end
section
namespace Go.Proofs.YtejbgeokcpillaaGreatDoor
open Go.Ev
noncomputable section
abbrev Sq (F:Fun):Prop:=Sd Tryz.prog E0 F
def L0:List Fun:=[]
theorem h0:Sds Tryz.prog E0 L0:=trivial
theorem ms0 {d:Bool} {F:Fun} {f:Go.Func} {K:Nat} (hf:Tryz.prog.funcs[F.id]? = some f) (ho:qX f = true) (h:evF (En E0 d L0) K f F.md F.a F.r = F.spec):Sd Tryz.prog E0 F:=mkS h0 hf ho h
theorem ml0 {d:Bool} {F:Fun} {f:Go.Func} {S:Nat→F.a.I→Option F.r.I} (hf:Tryz.prog.funcs[F.id]? = some f) (ho:qX f = true) (h:∀ K,evF (En E0 d L0) K f F.md F.a F.r = S K) (e:S K0 = F.spec):Sd Tryz.prog E0 F:=mkS h0 hf ho ((h K0).trans e)
abbrev Es0:Env:=En E0 false L0
def jG:(zD × Unit)→Option (Bool × Unit):=fun (x0,()) =>
  bif decide (x0.1 ≥ 0) then bif decide (x0.1 < 4) then some (true,()) else some (false,()) else some (false,())
abbrev zpY:Fun:=⟨21,(ch [zB]),(ch [.bool]),0,jG⟩
theorem zzz:Sq zpY:=ms0 (d:=false) (K:=0) Tryz.func21 (by kernel_rfl) (funext fun (x0,())=>by kernel_rfl)
def qj:(Int × (Int × (Int × Unit)))→Option (Bool × Unit):=fun (x0,x1,x2,()) =>
  bif decide (x0 ≥ x1) then bif decide (x0 ≤ x2) then some (true,()) else some (false,()) else some (false,())
abbrev znS:Fun:=⟨168,(ch [tI,tI,tI]),(ch [.bool]),0,qj⟩
theorem zxT:Sq znS:=ms0 (d:=false) (K:=0) Tryz.func168 (by kernel_rfl) (funext fun (x0,x1,x2,())=>by kernel_rfl)
abbrev jV:Type:=(List zD) × (Option ((zD × Unit)→Option (Bool × Unit))) × Int × Int
abbrev znn:jV→St:=fun (v0,v1,v7,v8)=>St.mk [(0,.dat (.sl zB) v0),(1,.dat (.fn (.pair zB .unit) (.pair .bool .unit)) v1),(7,.dat tI v7),(8,.dat tI v8)] []
def zch (k0:jV→Option (Int × Unit)):jV→Option (Int × Unit):=fun (v0,v1,v7,v8) =>
  bif decide (v8 < v7) then inR v8 ((List.length v0):Int) (Option.bind v1 fun q0=>Option.bind (q0 (ix qN v0 v8,())) fun q1=>bif q1.1 then some (v8,()) else k0 (v0,v1,v7,wI (v8 + 1))) else some ((-1),())
abbrev zfD (K:Nat):jV→Option (Int × Unit):=zm zch K
theorem zno (K:Nat):∀ n,evV Es0 K Tryz.f310 0 (ch [tI]) [1,0,1,0] [] znn n = zm zch n:=zw fun n0 (v0,v1,v7,v8)=>by kernel_rfl
def zdk (L0:jV→Option (Int × Unit)):((List zD) × ((Option ((zD × Unit)→Option (Bool × Unit))) × Unit))→Option (Int × Unit):=fun (x0,x1,()) =>
  L0 (x0,x1,((List.length x0):Int),0)
def zao:((List zD) × ((Option ((zD × Unit)→Option (Bool × Unit))) × Unit))→Option (Int × Unit):=zdk (zfD K0)
abbrev zg7:Fun:=⟨310,(ch [(.sl zB),(.fn (ch [zB]) (ch [.bool]))]),(ch [tI]),0,zao⟩
theorem zpi:Sq zg7:=ml0 (d:=false) (S:=fun K=>zdk (zfD K)) Tryz.func310 (by kernel_rfl) (fun K=>tr1 (T:=zdk) (zno K K) fun (x0,x1,())=>by kernel_rfl) rfl
def yW:(Int × Unit)→Option (Bool × Unit):=fun (x0,()) =>
  bif x0 != x0 then some (true,()) else some (false,())
abbrev zmu:Fun:=⟨318,(ch [tI]),(ch [.bool]),0,yW⟩
theorem zwe:Sq zmu:=ms0 (d:=false) (K:=0) Tryz.func318 (by kernel_rfl) (funext fun (x0,())=>by kernel_rfl)
def vh:(Int × Unit)→Option (Bool × Unit):=fun (x0,()) =>
  bif x0 != x0 then some (true,()) else some (false,())
abbrev zjp:Fun:=⟨317,(ch [tU]),(ch [.bool]),0,vh⟩
theorem zrv:Sq zjp:=ms0 (d:=false) (K:=0) Tryz.func317 (by kernel_rfl) (funext fun (x0,())=>by kernel_rfl)
abbrev zcJ:Type:=Int × (List Int) × Int × Int
abbrev zxU:zcJ→St:=fun (v3,v6,v7,v8)=>St.mk [(3,.dat tI v3),(6,.dat (.sl tI) v6),(7,.dat tI v7),(8,.dat tI v8)] []
def qR (k0:zcJ→Option (Int × Unit)):zcJ→Option (Int × Unit):=fun (v3,v6,v7,v8) =>
  bif decide (v8 < v7) then inR v8 ((List.length v6):Int) (bif ix (0:Int) v6 v8 != v3 then some (ix (0:Int) v6 v8,()) else k0 (v3,v6,v7,wI (v8 + 1))) else some (v3,())
abbrev znT (K:Nat):zcJ→Option (Int × Unit):=zm qR K
theorem zxV (K:Nat):∀ n,evV Es0 K Tryz.f282 0 (ch [tI]) [1,1,0,1,0] [] zxU n = zm qR n:=zw fun n0 (v3,v6,v7,v8)=>by kernel_rfl
def zk4 (L0:zcJ→Option (Int × Unit)):((List Int) × Unit)→Option (Int × Unit):=fun (x0,()) =>
  L0 (0,x0,((List.length x0):Int),0)
def zcK:((List Int) × Unit)→Option (Int × Unit):=zk4 (znT K0)
abbrev zrw:Fun:=⟨282,(ch [(.sl tI)]),(ch [tI]),0,zcK⟩
theorem zBw:Sq zrw:=ml0 (d:=false) (S:=fun K=>zk4 (znT K)) Tryz.func282 (by kernel_rfl) (fun K=>tr1 (T:=zk4) (zxV K K) fun (x0,())=>by kernel_rfl) rfl
abbrev vE:Type:=(List Int) × (Option ((Int × Unit)→Option (Bool × Unit))) × Int × Int
abbrev zpj:vE→St:=fun (v0,v1,v7,v8)=>St.mk [(0,.dat (.sl tI) v0),(1,.dat (.fn (.pair tI .unit) (.pair .bool .unit)) v1),(7,.dat tI v7),(8,.dat tI v8)] []
def zdl (k0:vE→Option (Int × Unit)):vE→Option (Int × Unit):=fun (v0,v1,v7,v8) =>
  bif decide (v8 < v7) then inR v8 ((List.length v0):Int) (Option.bind v1 fun q0=>Option.bind (q0 (ix (0:Int) v0 v8,())) fun q1=>bif q1.1 then some (v8,()) else k0 (v0,v1,v7,wI (v8 + 1))) else some ((-1),())
abbrev zg8 (K:Nat):vE→Option (Int × Unit):=zm zdl K
theorem zpk (K:Nat):∀ n,evV Es0 K Tryz.f278 0 (ch [tI]) [1,0,1,0] [] zpj n = zm zdl n:=zw fun n0 (v0,v1,v7,v8)=>by kernel_rfl
def zen (L0:vE→Option (Int × Unit)):((List Int) × ((Option ((Int × Unit)→Option (Bool × Unit))) × Unit))→Option (Int × Unit):=fun (x0,x1,()) =>
  L0 (x0,x1,((List.length x0):Int),0)
def zbD:((List Int) × ((Option ((Int × Unit)→Option (Bool × Unit))) × Unit))→Option (Int × Unit):=zen (zg8 K0)
abbrev zjq:Fun:=⟨278,(ch [(.sl tI),(.fn (ch [tI]) (ch [.bool]))]),(ch [tI]),0,zbD⟩
theorem zrx:Sq zjq:=ml0 (d:=false) (S:=fun K=>zen (zg8 K)) Tryz.func278 (by kernel_rfl) (fun K=>tr1 (T:=zen) (zpk K K) fun (x0,x1,())=>by kernel_rfl) rfl
def zeo:(Int × Unit)→Option (Bool × Unit):=fun (x0,()) =>
  bif decide (x0 ≥ 97) then bif decide (x0 ≤ 122) then some (true,()) else some (false,()) else some (false,())
abbrev zry:Fun:=⟨224,(ch [(.int .u8)]),(ch [.bool]),0,zeo⟩
theorem zBx:Sq zry:=ms0 (d:=false) (K:=0) Tryz.func224 (by kernel_rfl) (funext fun (x0,())=>by kernel_rfl)
def zg9:(Int × ((Option (Option ((Int × Unit)→Option (Bool × Unit)))) × Unit))→Option (Bool × Unit):=fun (x0,x1,()) =>
  Option.bind x1 fun q0=>Option.bind q0 fun q1=>Option.bind (q1 (x0,())) fun q2=>bif q2.1 then some (false,()) else some (true,())
abbrev zrz:Fun:=⟨293,(ch [(.int .u8),(.ptr (.fn (ch [(.int .u8)]) (ch [.bool])))]),(ch [.bool]),0,zg9⟩
theorem zBy:Sq zrz:=ms0 (d:=false) (K:=0) Tryz.func293 (by kernel_rfl) (funext fun (x0,x1,())=>by kernel_rfl)
abbrev vi:Type:=(List Int) × (Option ((Int × Unit)→Option (Bool × Unit))) × Int × Int
abbrev znU:vi→St:=fun (v0,v1,v7,v8)=>St.mk [(0,.dat (.sl (.int IntKind.u8)) v0),(1,.dat (.fn (.pair (.int IntKind.u8) .unit) (.pair .bool .unit)) v1),(7,.dat tI v7),(8,.dat tI v8)] []
def zcL (k0:vi→Option (Int × Unit)):vi→Option (Int × Unit):=fun (v0,v1,v7,v8) =>
  bif decide (v8 < v7) then inR v8 ((List.length v0):Int) (Option.bind v1 fun q0=>Option.bind (q0 (ix (zd (.int IntKind.u8)) v0 v8,())) fun q1=>bif q1.1 then some (v8,()) else k0 (v0,v1,v7,wI (v8 + 1))) else some ((-1),())
abbrev zgK (K:Nat):vi→Option (Int × Unit):=zm zcL K
theorem znV (K:Nat):∀ n,evV Es0 K Tryz.f323 0 (ch [tI]) [1,0,1,0] [] znU n = zm zcL n:=zw fun n0 (v0,v1,v7,v8)=>by kernel_rfl
def zdX (L0:vi→Option (Int × Unit)):((List Int) × ((Option ((Int × Unit)→Option (Bool × Unit))) × Unit))→Option (Int × Unit):=fun (x0,x1,()) =>
  L0 (x0,x1,((List.length x0):Int),0)
def za7:((List Int) × ((Option ((Int × Unit)→Option (Bool × Unit))) × Unit))→Option (Int × Unit):=zdX (zgK K0)
abbrev zib:Fun:=⟨323,(ch [(.sl (.int .u8)),(.fn (ch [(.int .u8)]) (ch [.bool]))]),(ch [tI]),0,za7⟩
theorem zqK:Sq zib:=ml0 (d:=false) (S:=fun K=>zdX (zgK K)) Tryz.func323 (by kernel_rfl) (fun K=>tr1 (T:=zdX) (znV K K) fun (x0,x1,())=>by kernel_rfl) rfl
def zha:(Int × Unit)→Option (Bool × Unit):=fun (x0,()) =>
  bif decide (x0 ≥ 48) then bif decide (x0 ≤ 57) then some (true,()) else some (false,()) else some (false,())
abbrev zrA:Fun:=⟨227,(ch [(.int .u8)]),(ch [.bool]),0,zha⟩
theorem zBz:Sq zrA:=ms0 (d:=false) (K:=0) Tryz.func227 (by kernel_rfl) (funext fun (x0,())=>by kernel_rfl)
abbrev jB:Type:=(List qL) × (Option ((qL × Unit)→Option (Bool × Unit))) × Int × Int
abbrev zk5:jB→St:=fun (v0,v1,v7,v8)=>St.mk [(0,.dat (.sl qK) v0),(1,.dat (.fn (.pair qK .unit) (.pair .bool .unit)) v1),(7,.dat tI v7),(8,.dat tI v8)] []
def zaP (k0:jB→Option (Int × Unit)):jB→Option (Int × Unit):=fun (v0,v1,v7,v8) =>
  bif decide (v8 < v7) then inR v8 ((List.length v0):Int) (Option.bind v1 fun q0=>Option.bind (q0 (ix zph v0 v8,())) fun q1=>bif q1.1 then some (v8,()) else k0 (v0,v1,v7,wI (v8 + 1))) else some ((-1),())
abbrev zep (K:Nat):jB→Option (Int × Unit):=zm zaP K
theorem zk6 (K:Nat):∀ n,evV Es0 K Tryz.f311 0 (ch [tI]) [1,0,1,0] [] zk5 n = zm zaP n:=zw fun n0 (v0,v1,v7,v8)=>by kernel_rfl
def zci (L0:jB→Option (Int × Unit)):((List qL) × ((Option ((qL × Unit)→Option (Bool × Unit))) × Unit))→Option (Int × Unit):=fun (x0,x1,()) =>
  L0 (x0,x1,((List.length x0):Int),0)
def yE:((List qL) × ((Option ((qL × Unit)→Option (Bool × Unit))) × Unit))→Option (Int × Unit):=zci (zep K0)
abbrev zfE:Fun:=⟨311,(ch [(.sl qK),(.fn (ch [qK]) (ch [.bool]))]),(ch [tI]),0,yE⟩
theorem znp:Sq zfE:=ml0 (d:=false) (S:=fun K=>zci (zep K)) Tryz.func311 (by kernel_rfl) (fun K=>tr1 (T:=zci) (zk6 K K) fun (x0,x1,())=>by kernel_rfl) rfl
abbrev yf:Type:=(List qL) × Int × Int × List ByteArray
abbrev zqL:yf→St:=fun (v7,v8,v9,o0)=>St.mk [(3,.ow 0),(7,.dat (.sl qK) v7),(8,.dat tI v8),(9,.dat tI v9)] [.row .str o0 false]
def yg (k0:yf→Option ((List ByteArray) × Unit)):yf→Option ((List ByteArray) × Unit):=fun (v7,v8,v9,o0) =>
  bif decide (v9 < v8) then inR v9 ((List.length v7):Int) (bif decide (List.length o0 + List.length (zi (List.replicate 1 (zd .str)) 0 (ix zph v7 v9).1) ≤ lim) then k0 (v7,v8,wI (v9 + 1),o0 ++ zi (List.replicate 1 (zd .str)) 0 (ix zph v7 v9).1) else none) else some (o0,())
abbrev zic (K:Nat):yf→Option ((List ByteArray) × Unit):=zm yg K
theorem zqM (K:Nat):∀ n,evV Es0 K Tryz.f259 0 (ch [(.sl .str)]) [1,1,0,1,0] [] zqL n = zm yg n:=zw fun n0 (v7,v8,v9,o0)=>by kernel_rfl
def zfl (L0:yf→Option ((List ByteArray) × Unit)):(ze × Unit)→Option ((List ByteArray) × Unit):=fun (x0,()) =>
  L0 (x0.2.2.1,((List.length x0.2.2.1):Int),0,[])
def zfm:(ze × Unit)→Option ((List ByteArray) × Unit):=zfl (zic K0)
abbrev zj9:Fun:=⟨259,(ch [zy]),(ch [(.sl .str)]),0,zfm⟩
theorem zs9:Sq zj9:=ml0 (d:=false) (S:=fun K=>zfl (zic K)) Tryz.func259 (by kernel_rfl) (fun K=>tr1 (T:=zfl) (zqM K K) fun (x0,())=>by kernel_rfl) rfl
abbrev zcM:Type:=(List ByteArray) × (List ByteArray) × Int × Int × List (ByteArray × Int)
abbrev zxW:zcM→St:=fun (v0,v7,v8,v9,o0)=>St.mk [(0,.dat (.sl .str) v0),(3,.om 0),(7,.dat (.sl .str) v7),(8,.dat tI v8),(9,.dat tI v9)] [.mp .str tI o0]
def zcN (k0:zcM→Option (Bool × Unit)):zcM→Option (Bool × Unit):=fun (v0,v7,v8,v9,o0) =>
  bif decide (v9 < v8) then inR v9 ((List.length v7):Int) (k0 (v0,v7,v8,wI (v9 + 1),yp .str o0 (List.getD v7 (Int.toNat v9) (zd .str)) (wI (zcd .str (0:Int) o0 (List.getD v7 (Int.toNat v9) (zd .str)) + 1)))) else bif ((List.length o0):Int) == ((List.length v0):Int) then some (true,()) else some (false,())
abbrev znW (K:Nat):zcM→Option (Bool × Unit):=zm zcN K
theorem zxX (K:Nat):∀ n,evV Es0 K Tryz.f258 0 (ch [.bool]) [1,1,0,1,0] [] zxW n = zm zcN n:=zw fun n0 (v0,v7,v8,v9,o0)=>by kernel_rfl
def zk7 (L0:zcM→Option (Bool × Unit)):((List ByteArray) × Unit)→Option (Bool × Unit):=fun (x0,()) =>
  L0 (x0,x0,((List.length x0):Int),0,[])
def zk8:((List ByteArray) × Unit)→Option (Bool × Unit):=zk7 (znW K0)
abbrev zrB:Fun:=⟨258,(ch [(.sl .str)]),(ch [.bool]),0,zk8⟩
theorem zBA:Sq zrB:=ml0 (d:=false) (S:=fun K=>zk7 (znW K)) Tryz.func258 (by kernel_rfl) (fun K=>tr1 (T:=zk7) (zxX K K) fun (x0,())=>by kernel_rfl) rfl
def zeq:(Int × Unit)→Option (zD × (Int × Unit)):=fun (x0,()) =>
  bif decide (x0 < 0) then some ((0,0,()),1,()) else bif decide (x0 ≥ 64) then some ((0,0,()),1,()) else bif decide (x0 < 0) then none else some ((0,wU (1 * 2 ^ min (Int.toNat x0) (IntKind.bits IntKind.u64)),()),0,())
abbrev zrC:Fun:=⟨142,(ch [tI]),(ch [zB,tI]),0,zeq⟩
theorem zBB:Sq zrC:=ms0 (d:=false) (K:=0) Tryz.func142 (by kernel_rfl) (funext fun (x0,())=>by kernel_rfl)
abbrev yL:Type:=(List zD) × Int × Int × zD
abbrev zrD:yL→St:=fun (v0,v7,v8,o0)=>St.mk [(0,.dat (.sl zB) v0),(3,.bp 0 []),(7,.dat tI v7),(8,.dat tI v8)] [.bx (.dat zB o0) false]
def yM (k0:yL→Option (Int × Unit)):yL→Option (Int × Unit):=fun (v0,v7,v8,o0) =>
  bif decide (v8 < v7) then inR v8 ((List.length v0):Int) (bif eqI zB o0 (ix qN v0 v8) then some (v8,()) else k0 (v0,v7,wI (v8 + 1),o0)) else some ((-1),())
abbrev zjr (K:Nat):yL→Option (Int × Unit):=zm yM K
theorem zrE (K:Nat):∀ n,evV Es0 K Tryz.f312 0 (ch [tI]) [1,0,1,0] [] zrD n = zm yM n:=zw fun n0 (v0,v7,v8,o0)=>by kernel_rfl
def zgj (L0:yL→Option (Int × Unit)):((List zD) × (zD × Unit))→Option (Int × Unit):=fun (x0,x1,()) =>
  L0 (x0,((List.length x0):Int),0,x1)
def zgk:((List zD) × zD × Unit)→Option (Int × Unit):=zgj (zjr K0)
abbrev zk9:Fun:=⟨312,(ch [(.sl zB),zB]),(ch [tI]),0,zgk⟩
theorem zux:Sq zk9:=ml0 (d:=false) (S:=fun K=>zgj (zjr K)) Tryz.func312 (by kernel_rfl) (fun K=>tr1 (T:=zgj) (zrE K K) fun (x0,x1,())=>by kernel_rfl) rfl
def zgl:(zD × ((Option Int) × Unit))→Option (Bool × Unit):=fun (x0,x1,()) =>
  Option.bind x1 fun q0=>bif wU (↑(BitVec.toNat (BitVec.ofInt (IntKind.bits IntKind.u64) x0.2.1 &&& ~~~BitVec.ofInt (IntKind.bits IntKind.u64) q0)):Int) != 0 then some (true,()) else some (false,())
abbrev zla:Fun:=⟨261,(ch [zB,(.ptr tU)]),(ch [.bool]),0,zgl⟩
theorem zuy:Sq zla:=ms0 (d:=false) (K:=0) Tryz.func261 (by kernel_rfl) (funext fun (x0,x1,())=>by kernel_rfl)
def zhb:(zbA × Unit)→Option ((List Int) × Unit):=fun (x0,()) =>
  some ([x0.1,x0.2.1,x0.2.2.1,x0.2.2.2.1,x0.2.2.2.2.1],())
abbrev zmv:Fun:=⟨263,(ch [zcI]),(ch [(.sl tI)]),0,zhb⟩
theorem zwf:Sq zmv:=ms0 (d:=false) (K:=0) Tryz.func263 (by kernel_rfl) (funext fun (x0,())=>by kernel_rfl)
def za8:(zg × ((Option (Option ((zg × Unit)→Option (Bool × Unit)))) × Unit))→Option (Bool × Unit):=fun (x0,x1,()) =>
  Option.bind x1 fun q0=>Option.bind q0 fun q1=>Option.bind (q1 (x0,())) fun q2=>bif q2.1 then some (false,()) else some (true,())
abbrev zid:Fun:=⟨177,(ch [zn,(.ptr (.fn (ch [zn]) (ch [.bool])))]),(ch [.bool]),0,za8⟩
theorem zqN:Sq zid:=ms0 (d:=false) (K:=0) Tryz.func177 (by kernel_rfl) (funext fun (x0,x1,())=>by kernel_rfl)
abbrev jW:Type:=(List zg) × (Option ((zg × Unit)→Option (Bool × Unit))) × Int × Int
abbrev znq:jW→St:=fun (v0,v1,v7,v8)=>St.mk [(0,.dat (.sl zn) v0),(1,.dat (.fn (.pair zn .unit) (.pair .bool .unit)) v1),(7,.dat tI v7),(8,.dat tI v8)] []
def zcj (k0:jW→Option (Int × Unit)):jW→Option (Int × Unit):=fun (v0,v1,v7,v8) =>
  bif decide (v8 < v7) then inR v8 ((List.length v0):Int) (Option.bind v1 fun q0=>Option.bind (q0 (ix zf v0 v8,())) fun q1=>bif q1.1 then some (v8,()) else k0 (v0,v1,v7,wI (v8 + 1))) else some ((-1),())
abbrev zfF (K:Nat):jW→Option (Int × Unit):=zm zcj K
theorem znr (K:Nat):∀ n,evV Es0 K Tryz.f264 0 (ch [tI]) [1,0,1,0] [] znq n = zm zcj n:=zw fun n0 (v0,v1,v7,v8)=>by kernel_rfl
def zdm (L0:jW→Option (Int × Unit)):((List zg) × ((Option ((zg × Unit)→Option (Bool × Unit))) × Unit))→Option (Int × Unit):=fun (x0,x1,()) =>
  L0 (x0,x1,((List.length x0):Int),0)
def zap:((List zg) × ((Option ((zg × Unit)→Option (Bool × Unit))) × Unit))→Option (Int × Unit):=zdm (zfF K0)
abbrev zhc:Fun:=⟨264,(ch [(.sl zn),(.fn (ch [zn]) (ch [.bool]))]),(ch [tI]),0,zap⟩
theorem zpl:Sq zhc:=ml0 (d:=false) (S:=fun K=>zdm (zfF K)) Tryz.func264 (by kernel_rfl) (fun K=>tr1 (T:=zdm) (znr K K) fun (x0,x1,())=>by kernel_rfl) rfl
abbrev vj:Type:=(List qY) × (Option ((qY × Unit)→Option (Bool × Unit))) × Int × Int
abbrev znX:vj→St:=fun (v0,v1,v7,v8)=>St.mk [(0,.dat (.sl qg) v0),(1,.dat (.fn (.pair qg .unit) (.pair .bool .unit)) v1),(7,.dat tI v7),(8,.dat tI v8)] []
def zcO (k0:vj→Option (Int × Unit)):vj→Option (Int × Unit):=fun (v0,v1,v7,v8) =>
  bif decide (v8 < v7) then inR v8 ((List.length v0):Int) (Option.bind v1 fun q0=>Option.bind (q0 (ix zsT v0 v8,())) fun q1=>bif q1.1 then some (v8,()) else k0 (v0,v1,v7,wI (v8 + 1))) else some ((-1),())
abbrev zgL (K:Nat):vj→Option (Int × Unit):=zm zcO K
theorem znY (K:Nat):∀ n,evV Es0 K Tryz.f265 0 (ch [tI]) [1,0,1,0] [] znX n = zm zcO n:=zw fun n0 (v0,v1,v7,v8)=>by kernel_rfl
def zdY (L0:vj→Option (Int × Unit)):((List qY) × ((Option ((qY × Unit)→Option (Bool × Unit))) × Unit))→Option (Int × Unit):=fun (x0,x1,()) =>
  L0 (x0,x1,((List.length x0):Int),0)
def za9:((List qY) × ((Option ((qY × Unit)→Option (Bool × Unit))) × Unit))→Option (Int × Unit):=zdY (zgL K0)
abbrev zie:Fun:=⟨265,(ch [(.sl qg),(.fn (ch [qg]) (ch [.bool]))]),(ch [tI]),0,za9⟩
theorem zqO:Sq zie:=ml0 (d:=false) (S:=fun K=>zdY (zgL K)) Tryz.func265 (by kernel_rfl) (fun K=>tr1 (T:=zdY) (znY K K) fun (x0,x1,())=>by kernel_rfl) rfl
def zer:(zL × Unit)→Option (Bool × Unit):=fun (x0,()) =>
  bif decide (x0.1 ≥ 0) then bif decide (x0.1 ≤ 127) then bif decide (x0.2.1 ≥ 0) then bif decide (x0.2.1 ≤ 127) then some (true,()) else some (false,()) else some (false,()) else some (false,()) else some (false,())
abbrev zrF:Fun:=⟨266,(ch [zC]),(ch [.bool]),0,zer⟩
theorem zBC:Sq zrF:=ms0 (d:=false) (K:=0) Tryz.func266 (by kernel_rfl) (funext fun (x0,())=>by kernel_rfl)
def zhd:(Int × Unit)→Option (Bool × Unit):=fun (x0,()) =>
  bif decide (x0 ≥ 0) then bif decide (x0 < 6) then some (true,()) else some (false,()) else some (false,())
abbrev zrG:Fun:=⟨267,(ch [tI]),(ch [.bool]),0,zhd⟩
theorem zBD:Sq zrG:=ms0 (d:=false) (K:=0) Tryz.func267 (by kernel_rfl) (funext fun (x0,())=>by kernel_rfl)
def zeT:(z7 × ((Option zL) × ((Option Int) × Unit)))→Option (Bool × Unit):=fun (x0,x1,x2,()) =>
  bif x0.1 then Option.bind x1 fun q0=>bif eqI zC x0.2.1 q0 then Option.bind x2 fun q1=>bif x0.2.2.2.1 == q1 then some (true,()) else some (false,()) else some (false,()) else some (false,())
abbrev znZ:Fun:=⟨269,(ch [zW,(.ptr zC),(.ptr tI)]),(ch [.bool]),0,zeT⟩
theorem zxY:Sq znZ:=ms0 (d:=false) (K:=0) Tryz.func269 (by kernel_rfl) (funext fun (x0,x1,x2,())=>by kernel_rfl)
abbrev vk:Type:=(List z7) × (Option ((z7 × Unit)→Option (Bool × Unit))) × Int × Int
abbrev zn0:vk→St:=fun (v0,v1,v7,v8)=>St.mk [(0,.dat (.sl zW) v0),(1,.dat (.fn (.pair zW .unit) (.pair .bool .unit)) v1),(7,.dat tI v7),(8,.dat tI v8)] []
def zcP (k0:vk→Option (Int × Unit)):vk→Option (Int × Unit):=fun (v0,v1,v7,v8) =>
  bif decide (v8 < v7) then inR v8 ((List.length v0):Int) (Option.bind v1 fun q0=>Option.bind (q0 (ix vC v0 v8,())) fun q1=>bif q1.1 then some (v8,()) else k0 (v0,v1,v7,wI (v8 + 1))) else some ((-1),())
abbrev zgM (K:Nat):vk→Option (Int × Unit):=zm zcP K
theorem zn1 (K:Nat):∀ n,evV Es0 K Tryz.f268 0 (ch [tI]) [1,0,1,0] [] zn0 n = zm zcP n:=zw fun n0 (v0,v1,v7,v8)=>by kernel_rfl
def zdZ (L0:vk→Option (Int × Unit)):((List z7) × ((Option ((z7 × Unit)→Option (Bool × Unit))) × Unit))→Option (Int × Unit):=fun (x0,x1,()) =>
  L0 (x0,x1,((List.length x0):Int),0)
def yh:((List z7) × ((Option ((z7 × Unit)→Option (Bool × Unit))) × Unit))→Option (Int × Unit):=zdZ (zgM K0)
abbrev zif:Fun:=⟨268,(ch [(.sl zW),(.fn (ch [zW]) (ch [.bool]))]),(ch [tI]),0,yh⟩
theorem zqP:Sq zif:=ml0 (d:=false) (S:=fun K=>zdZ (zgM K)) Tryz.func268 (by kernel_rfl) (fun K=>tr1 (T:=zdZ) (zn1 K K) fun (x0,x1,())=>by kernel_rfl) rfl
abbrev vl:Type:=(List zj) × (Option ((zj × Unit)→Option (Bool × Unit))) × Int × Int
abbrev zn2:vl→St:=fun (v0,v1,v7,v8)=>St.mk [(0,.dat (.sl zl) v0),(1,.dat (.fn (.pair zl .unit) (.pair .bool .unit)) v1),(7,.dat tI v7),(8,.dat tI v8)] []
def zcQ (k0:vl→Option (Int × Unit)):vl→Option (Int × Unit):=fun (v0,v1,v7,v8) =>
  bif decide (v8 < v7) then inR v8 ((List.length v0):Int) (Option.bind v1 fun q0=>Option.bind (q0 (ix zO v0 v8,())) fun q1=>bif q1.1 then some (v8,()) else k0 (v0,v1,v7,wI (v8 + 1))) else some ((-1),())
abbrev zgN (K:Nat):vl→Option (Int × Unit):=zm zcQ K
theorem zn3 (K:Nat):∀ n,evV Es0 K Tryz.f270 0 (ch [tI]) [1,0,1,0] [] zn2 n = zm zcQ n:=zw fun n0 (v0,v1,v7,v8)=>by kernel_rfl
def zd0 (L0:vl→Option (Int × Unit)):((List zj) × ((Option ((zj × Unit)→Option (Bool × Unit))) × Unit))→Option (Int × Unit):=fun (x0,x1,()) =>
  L0 (x0,x1,((List.length x0):Int),0)
def yi:((List zj) × ((Option ((zj × Unit)→Option (Bool × Unit))) × Unit))→Option (Int × Unit):=zd0 (zgN K0)
abbrev zig:Fun:=⟨270,(ch [(.sl zl),(.fn (ch [zl]) (ch [.bool]))]),(ch [tI]),0,yi⟩
theorem zqQ:Sq zig:=ml0 (d:=false) (S:=fun K=>zd0 (zgN K)) Tryz.func270 (by kernel_rfl) (fun K=>tr1 (T:=zd0) (zn3 K K) fun (x0,x1,())=>by kernel_rfl) rfl
def zeU:(zj × Unit)→Option (qF × Unit):=fun (x0,()) =>
  some (x0.2.2,())
abbrev zwg:Fun:=⟨167,(ch [zl]),(ch [qi]),0,zeU⟩
theorem zFj:Sq zwg:=ms0 (d:=false) (K:=0) Tryz.func167 (by kernel_rfl) (funext fun (x0,())=>by kernel_rfl)
def zdn:(Int × Unit)→Option (Bool × Unit):=fun (x0,()) =>
  bif decide (x0 ≥ 0) then bif decide (x0 ≤ 127) then some (true,()) else some (false,()) else some (false,())
abbrev zwh:Fun:=⟨223,(ch [tI]),(ch [.bool]),0,zdn⟩
theorem zFk:Sq zwh:=ms0 (d:=false) (K:=0) Tryz.func223 (by kernel_rfl) (funext fun (x0,())=>by kernel_rfl)
abbrev vm:Type:=(List qn) × (Option ((qn × Unit)→Option (Bool × Unit))) × Int × Int
abbrev zn4:vm→St:=fun (v0,v1,v7,v8)=>St.mk [(0,.dat (.sl z3) v0),(1,.dat (.fn (.pair z3 .unit) (.pair .bool .unit)) v1),(7,.dat tI v7),(8,.dat tI v8)] []
def zcR (k0:vm→Option (Int × Unit)):vm→Option (Int × Unit):=fun (v0,v1,v7,v8) =>
  bif decide (v8 < v7) then inR v8 ((List.length v0):Int) (Option.bind v1 fun q0=>Option.bind (q0 (ix zAG v0 v8,())) fun q1=>bif q1.1 then some (v8,()) else k0 (v0,v1,v7,wI (v8 + 1))) else some ((-1),())
abbrev zgO (K:Nat):vm→Option (Int × Unit):=zm zcR K
theorem zn5 (K:Nat):∀ n,evV Es0 K Tryz.f271 0 (ch [tI]) [1,0,1,0] [] zn4 n = zm zcR n:=zw fun n0 (v0,v1,v7,v8)=>by kernel_rfl
def zd1 (L0:vm→Option (Int × Unit)):((List qn) × ((Option ((qn × Unit)→Option (Bool × Unit))) × Unit))→Option (Int × Unit):=fun (x0,x1,()) =>
  L0 (x0,x1,((List.length x0):Int),0)
def zba:((List qn) × ((Option ((qn × Unit)→Option (Bool × Unit))) × Unit))→Option (Int × Unit):=zd1 (zgO K0)
abbrev zih:Fun:=⟨271,(ch [(.sl z3),(.fn (ch [z3]) (ch [.bool]))]),(ch [tI]),0,zba⟩
theorem zqR:Sq zih:=ml0 (d:=false) (S:=fun K=>zd1 (zgO K)) Tryz.func271 (by kernel_rfl) (fun K=>tr1 (T:=zd1) (zn5 K K) fun (x0,x1,())=>by kernel_rfl) rfl
def zgP:(Int × Unit)→Option (Bool × Unit):=fun (x0,()) =>
  bif decide (x0 ≥ 0) then bif decide (x0 ≤ 127) then some (true,()) else some (false,()) else some (false,())
abbrev zzj:Fun:=⟨313,(ch [tI]),(ch [.bool]),0,zgP⟩
theorem zGS:Sq zzj:=ms0 (d:=false) (K:=0) Tryz.func313 (by kernel_rfl) (funext fun (x0,())=>by kernel_rfl)
def zhe:(Int × Unit)→Option (Bool × Unit):=fun (x0,()) =>
  bif decide (x0 ≥ 32) then bif decide (x0 ≤ 126) then some (true,()) else some (false,()) else some (false,())
abbrev zrH:Fun:=⟨314,(ch [(.int .u8)]),(ch [.bool]),0,zhe⟩
theorem zBE:Sq zrH:=ms0 (d:=false) (K:=0) Tryz.func314 (by kernel_rfl) (funext fun (x0,())=>by kernel_rfl)
abbrev jq:Type:=ByteArray × Int
abbrev zkv:jq→St:=fun (v0,v1)=>St.mk [(0,.dat .str v0),(1,.dat (.int IntKind.u8) v1)] []
def zK (k0:jq→Option (ByteArray × Unit)):jq→Option (ByteArray × Unit):=fun (v0,v1) =>
  bif decide ((↑(ByteArray.size v0):Int) > 0) then inR (wI ((↑(ByteArray.size v0):Int) - 1)) (↑(ByteArray.size v0):Int) (bif (↑(UInt8.toNat (List.getD (Array.toList (ByteArray.data v0)) (Int.toNat (wI ((↑(ByteArray.size v0):Int) - 1))) 0)):Int) == v1 then bif decide (0 ≤ wI ((↑(ByteArray.size v0):Int) - 1)) then bif decide (wI ((↑(ByteArray.size v0):Int) - 1) ≤ (↑(ByteArray.size v0):Int)) then k0 (ByteArray.extract v0 0 (Int.toNat (wI ((↑(ByteArray.size v0):Int) - 1))),v1) else none else none else some (v0,())) else some (v0,())
abbrev zd7 (K:Nat):jq→Option (ByteArray × Unit):=zm zK K
theorem zkw (K:Nat):∀ n,evV Es0 K Tryz.f331 0 (ch [.str]) [1,0,0] [] zkv n = zm zK n:=zw fun n0 (v0,v1)=>by kernel_rfl
def zbg (L0:jq→Option (ByteArray × Unit)):(ByteArray × (Int × Unit))→Option (ByteArray × Unit):=fun (x0,x1,()) =>
  L0 (x0,x1)
def zbh:(ByteArray × Int × Unit)→Option (ByteArray × Unit):=zbg (zd7 K0)
abbrev zff:Fun:=⟨331,(ch [.str,(.int .u8)]),(ch [.str]),0,zbh⟩
theorem zl5:Sq zff:=ml0 (d:=false) (S:=fun K=>zbg (zd7 K)) Tryz.func331 (by kernel_rfl) (fun K=>tr1 (T:=zbg) (zkw K K) fun (x0,x1,())=>by kernel_rfl) rfl
abbrev jC:Type:=ByteArray × Int
abbrev zlb:jC→St:=fun (v0,v1)=>St.mk [(0,.dat .str v0),(1,.dat (.int IntKind.u8) v1)] []
def zP (k0:jC→Option (ByteArray × Unit)):jC→Option (ByteArray × Unit):=fun (v0,v1) =>
  bif decide ((↑(ByteArray.size v0):Int) > 0) then bif decide (0 < (↑(ByteArray.size v0):Int)) then bif (↑(UInt8.toNat (List.getD (Array.toList (ByteArray.data v0)) (Int.toNat 0) 0)):Int) == v1 then bif decide (1 ≤ (↑(ByteArray.size v0):Int)) then k0 (ByteArray.extract v0 (Int.toNat 1) (ByteArray.size v0),v1) else none else some (v0,()) else none else some (v0,())
abbrev zes (K:Nat):jC→Option (ByteArray × Unit):=zm zP K
theorem zlc (K:Nat):∀ n,evV Es0 K Tryz.f330 0 (ch [.str]) [1,0,0] [] zlb n = zm zP n:=zw fun n0 (v0,v1)=>by kernel_rfl
def zck (L0:jC→Option (ByteArray × Unit)):(ByteArray × (Int × Unit))→Option (ByteArray × Unit):=fun (x0,x1,()) =>
  L0 (x0,x1)
def zcl:(ByteArray × Int × Unit)→Option (ByteArray × Unit):=zck (zes K0)
abbrev zfG:Fun:=⟨330,(ch [.str,(.int .u8)]),(ch [.str]),0,zcl⟩
theorem zns:Sq zfG:=ml0 (d:=false) (S:=fun K=>zck (zes K)) Tryz.func330 (by kernel_rfl) (fun K=>tr1 (T:=zck) (zlc K K) fun (x0,x1,())=>by kernel_rfl) rfl
abbrev jX:Type:=(List zt) × (Option ((zt × Unit)→Option (Bool × Unit))) × Int × Int
abbrev znt:jX→St:=fun (v0,v1,v7,v8)=>St.mk [(0,.dat (.sl zx) v0),(1,.dat (.fn (.pair zx .unit) (.pair .bool .unit)) v1),(7,.dat tI v7),(8,.dat tI v8)] []
def zcm (k0:jX→Option (Int × Unit)):jX→Option (Int × Unit):=fun (v0,v1,v7,v8) =>
  bif decide (v8 < v7) then inR v8 ((List.length v0):Int) (Option.bind v1 fun q0=>Option.bind (q0 (ix qB v0 v8,())) fun q1=>bif q1.1 then some (v8,()) else k0 (v0,v1,v7,wI (v8 + 1))) else some ((-1),())
abbrev zfH (K:Nat):jX→Option (Int × Unit):=zm zcm K
theorem znu (K:Nat):∀ n,evV Es0 K Tryz.f274 0 (ch [tI]) [1,0,1,0] [] znt n = zm zcm n:=zw fun n0 (v0,v1,v7,v8)=>by kernel_rfl
def zdo (L0:jX→Option (Int × Unit)):((List zt) × ((Option ((zt × Unit)→Option (Bool × Unit))) × Unit))→Option (Int × Unit):=fun (x0,x1,()) =>
  L0 (x0,x1,((List.length x0):Int),0)
def zaq:((List zt) × ((Option ((zt × Unit)→Option (Bool × Unit))) × Unit))→Option (Int × Unit):=zdo (zfH K0)
abbrev zhf:Fun:=⟨274,(ch [(.sl zx),(.fn (ch [zx]) (ch [.bool]))]),(ch [tI]),0,zaq⟩
theorem zpm:Sq zhf:=ml0 (d:=false) (S:=fun K=>zdo (zfH K)) Tryz.func274 (by kernel_rfl) (fun K=>tr1 (T:=zdo) (znu K K) fun (x0,x1,())=>by kernel_rfl) rfl
def zeV:(Int × Unit)→Option (Bool × Unit):=fun (x0,()) =>
  bif decide (x0 ≥ 0) then bif decide (x0 ≤ 127) then some (true,()) else some (false,()) else some (false,())
abbrev zwi:Fun:=⟨275,(ch [tI]),(ch [.bool]),0,zeV⟩
theorem zFl:Sq zwi:=ms0 (d:=false) (K:=0) Tryz.func275 (by kernel_rfl) (funext fun (x0,())=>by kernel_rfl)
def jb:(Int × Unit)→Option (Bool × Unit):=fun (x0,()) =>
  bif decide (x0 ≥ 0) then bif decide (x0 < 4) then some (true,()) else some (false,()) else some (false,())
abbrev zrI:Fun:=⟨208,(ch [tI]),(ch [.bool]),0,jb⟩
theorem zBF:Sq zrI:=ms0 (d:=false) (K:=0) Tryz.func208 (by kernel_rfl) (funext fun (x0,())=>by kernel_rfl)
def zet:(zku × Unit)→Option (Bool × Unit):=fun (x0,()) =>
  bif eqI zdi x0 (x0.1,(zd zdi).2.1,-1,(zd zdi).2.2.2) then some (true,()) else some (false,())
abbrev zrJ:Fun:=⟨277,(ch [zdi]),(ch [.bool]),0,zet⟩
theorem zBG:Sq zrJ:=ms0 (d:=false) (K:=0) Tryz.func277 (by kernel_rfl) (funext fun (x0,())=>by kernel_rfl)
def zaD:(Int × Unit)→Option (Bool × Unit):=fun (x0,()) =>
  bif decide (x0 < 0) then some (true,()) else bif decide (x0 > 2) then some (true,()) else some (false,())
abbrev zn6:Fun:=⟨189,(ch [tI]),(ch [.bool]),0,zaD⟩
theorem zxZ:Sq zn6:=ms0 (d:=false) (K:=0) Tryz.func189 (by kernel_rfl) (funext fun (x0,())=>by kernel_rfl)
def zcx:(Int × (Int × Unit))→Option (Int × (Int × Unit)):=fun (x0,x1,()) =>
  some (wU (wU (wU (Int.fdiv x0 (2 ^ min (Int.toNat 32) (IntKind.bits IntKind.u64)) * Int.fdiv x1 (2 ^ min (Int.toNat 32) (IntKind.bits IntKind.u64))) + Int.fdiv (wU (wU (Int.fdiv x0 (2 ^ min (Int.toNat 32) (IntKind.bits IntKind.u64)) * wU (↑(BitVec.toNat (BitVec.ofInt (IntKind.bits IntKind.u64) x1 &&& BitVec.ofInt (IntKind.bits IntKind.u64) 4294967295)):Int)) + Int.fdiv (wU (wU (↑(BitVec.toNat (BitVec.ofInt (IntKind.bits IntKind.u64) x0 &&& BitVec.ofInt (IntKind.bits IntKind.u64) 4294967295)):Int) * wU (↑(BitVec.toNat (BitVec.ofInt (IntKind.bits IntKind.u64) x1 &&& BitVec.ofInt (IntKind.bits IntKind.u64) 4294967295)):Int))) (2 ^ min (Int.toNat 32) (IntKind.bits IntKind.u64)))) (2 ^ min (Int.toNat 32) (IntKind.bits IntKind.u64))) + Int.fdiv (wU (wU (↑(BitVec.toNat (BitVec.ofInt (IntKind.bits IntKind.u64) (wU (wU (Int.fdiv x0 (2 ^ min (Int.toNat 32) (IntKind.bits IntKind.u64)) * wU (↑(BitVec.toNat (BitVec.ofInt (IntKind.bits IntKind.u64) x1 &&& BitVec.ofInt (IntKind.bits IntKind.u64) 4294967295)):Int)) + Int.fdiv (wU (wU (↑(BitVec.toNat (BitVec.ofInt (IntKind.bits IntKind.u64) x0 &&& BitVec.ofInt (IntKind.bits IntKind.u64) 4294967295)):Int) * wU (↑(BitVec.toNat (BitVec.ofInt (IntKind.bits IntKind.u64) x1 &&& BitVec.ofInt (IntKind.bits IntKind.u64) 4294967295)):Int))) (2 ^ min (Int.toNat 32) (IntKind.bits IntKind.u64)))) &&& BitVec.ofInt (IntKind.bits IntKind.u64) 4294967295)):Int) + wU (wU (↑(BitVec.toNat (BitVec.ofInt (IntKind.bits IntKind.u64) x0 &&& BitVec.ofInt (IntKind.bits IntKind.u64) 4294967295)):Int) * Int.fdiv x1 (2 ^ min (Int.toNat 32) (IntKind.bits IntKind.u64))))) (2 ^ min (Int.toNat 32) (IntKind.bits IntKind.u64))),wU (x0 * x1),())
abbrev zka:Fun:=⟨337,(ch [tU,tU]),(ch [tU,tU]),0,zcx⟩
theorem zta:Sq zka:=ms0 (d:=false) (K:=0) Tryz.func337 (by kernel_rfl) (funext fun (x0,x1,())=>by kernel_rfl)
def zjs:(Int × Unit)→Option (Bool × Unit):=fun (x0,()) =>
  bif decide (x0 ≥ 0) then bif decide (x0 ≤ 127) then some (true,()) else some (false,()) else some (false,())
abbrev zzk:Fun:=⟨280,(ch [tI]),(ch [.bool]),0,zjs⟩
theorem zGT:Sq zzk:=ms0 (d:=false) (K:=0) Tryz.func280 (by kernel_rfl) (funext fun (x0,())=>by kernel_rfl)
def zdp:(Int × Unit)→Option (Bool × Unit):=fun (x0,()) =>
  bif decide (x0 ≥ 0) then bif decide (x0 ≤ 127) then some (true,()) else some (false,()) else some (false,())
abbrev zwj:Fun:=⟨281,(ch [tI]),(ch [.bool]),0,zdp⟩
theorem zFm:Sq zwj:=ms0 (d:=false) (K:=0) Tryz.func281 (by kernel_rfl) (funext fun (x0,())=>by kernel_rfl)
def zdH:(zb × (zL × Unit))→Option (Bool × Unit):=fun (x0,x1,()) =>
  bif decide (x1.1 ≥ 0) then bif decide (x1.1 < ((List.length x0.2.1):Int)) then bif decide (x1.2.1 ≥ 0) then inR x1.1 ((List.length x0.2.1):Int) (bif decide (x1.2.1 < ((List.length (ix zf x0.2.1 x1.1).1):Int)) then inR x1.1 ((List.length x0.2.1):Int) (inR x1.2.1 ((List.length (ix zf x0.2.1 x1.1).1):Int) (bif (List.getD (ix zf x0.2.1 x1.1).1 (Int.toNat x1.2.1) (zd qg)).1 then some (true,()) else some (false,()))) else some (false,())) else some (false,()) else some (false,()) else some (false,())
abbrev zpZ:Fun:=⟨112,(ch [zq,zC]),(ch [.bool]),0,zdH⟩
theorem zzA:Sq zpZ:=ms0 (d:=false) (K:=0) Tryz.func112 (by kernel_rfl) (funext fun (x0,x1,())=>by kernel_rfl)
def zbk:(qI × (Int × Unit))→Option (Bool × Unit):=fun (x0,x1,()) =>
  bif decide (x1 ≥ 0) then bif decide (x1 < ((List.length x0.1.1):Int)) then some (true,()) else some (false,()) else some (false,())
abbrev zp0:Fun:=⟨115,(ch [qa,tI]),(ch [.bool]),0,zbk⟩
theorem zzB:Sq zp0:=ms0 (d:=false) (K:=0) Tryz.func115 (by kernel_rfl) (funext fun (x0,x1,())=>by kernel_rfl)
def qJ:(qI × (Int × Unit))→Option (Bool × Unit):=fun (x0,x1,()) =>
  bif decide (x1 ≥ 0) then bif decide (x1 < ((List.length x0.1.2.2.1):Int)) then some (true,()) else some (false,()) else some (false,())
abbrev zmw:Fun:=⟨116,(ch [qa,tI]),(ch [.bool]),0,qJ⟩
theorem zwk:Sq zmw:=ms0 (d:=false) (K:=0) Tryz.func116 (by kernel_rfl) (funext fun (x0,x1,())=>by kernel_rfl)
def zbb:(zp × ((Option (Option ((zp × Unit)→Option (Bool × Unit)))) × Unit))→Option (Bool × Unit):=fun (x0,x1,()) =>
  Option.bind x1 fun q0=>Option.bind q0 fun q1=>Option.bind (q1 (x0,())) fun q2=>bif q2.1 then some (false,()) else some (true,())
abbrev zii:Fun:=⟨195,(ch [zo,(.ptr (.fn (ch [zo]) (ch [.bool])))]),(ch [.bool]),0,zbb⟩
theorem zqS:Sq zii:=ms0 (d:=false) (K:=0) Tryz.func195 (by kernel_rfl) (funext fun (x0,x1,())=>by kernel_rfl)
abbrev jY:Type:=(List zp) × (Option ((zp × Unit)→Option (Bool × Unit))) × Int × Int
abbrev znv:jY→St:=fun (v0,v1,v7,v8)=>St.mk [(0,.dat (.sl zo) v0),(1,.dat (.fn (.pair zo .unit) (.pair .bool .unit)) v1),(7,.dat tI v7),(8,.dat tI v8)] []
def zcn (k0:jY→Option (Int × Unit)):jY→Option (Int × Unit):=fun (v0,v1,v7,v8) =>
  bif decide (v8 < v7) then inR v8 ((List.length v0):Int) (Option.bind v1 fun q0=>Option.bind (q0 (ix qm v0 v8,())) fun q1=>bif q1.1 then some (v8,()) else k0 (v0,v1,v7,wI (v8 + 1))) else some ((-1),())
abbrev zfI (K:Nat):jY→Option (Int × Unit):=zm zcn K
theorem znw (K:Nat):∀ n,evV Es0 K Tryz.f285 0 (ch [tI]) [1,0,1,0] [] znv n = zm zcn n:=zw fun n0 (v0,v1,v7,v8)=>by kernel_rfl
def zdq (L0:jY→Option (Int × Unit)):((List zp) × ((Option ((zp × Unit)→Option (Bool × Unit))) × Unit))→Option (Int × Unit):=fun (x0,x1,()) =>
  L0 (x0,x1,((List.length x0):Int),0)
def zar:((List zp) × ((Option ((zp × Unit)→Option (Bool × Unit))) × Unit))→Option (Int × Unit):=zdq (zfI K0)
abbrev zhg:Fun:=⟨285,(ch [(.sl zo),(.fn (ch [zo]) (ch [.bool]))]),(ch [tI]),0,zar⟩
theorem zpn:Sq zhg:=ml0 (d:=false) (S:=fun K=>zdq (zfI K)) Tryz.func285 (by kernel_rfl) (fun K=>tr1 (T:=zdq) (znw K K) fun (x0,x1,())=>by kernel_rfl) rfl
def zbc:(zH × ((Option (Option ((zH × Unit)→Option (Bool × Unit)))) × Unit))→Option (Bool × Unit):=fun (x0,x1,()) =>
  Option.bind x1 fun q0=>Option.bind q0 fun q1=>Option.bind (q1 (x0,())) fun q2=>bif q2.1 then some (false,()) else some (true,())
abbrev zij:Fun:=⟨197,(ch [zv,(.ptr (.fn (ch [zv]) (ch [.bool])))]),(ch [.bool]),0,zbc⟩
theorem zqT:Sq zij:=ms0 (d:=false) (K:=0) Tryz.func197 (by kernel_rfl) (funext fun (x0,x1,())=>by kernel_rfl)
abbrev jZ:Type:=(List zH) × (Option ((zH × Unit)→Option (Bool × Unit))) × Int × Int
abbrev znx:jZ→St:=fun (v0,v1,v7,v8)=>St.mk [(0,.dat (.sl zv) v0),(1,.dat (.fn (.pair zv .unit) (.pair .bool .unit)) v1),(7,.dat tI v7),(8,.dat tI v8)] []
def zco (k0:jZ→Option (Int × Unit)):jZ→Option (Int × Unit):=fun (v0,v1,v7,v8) =>
  bif decide (v8 < v7) then inR v8 ((List.length v0):Int) (Option.bind v1 fun q0=>Option.bind (q0 (ix zg6 v0 v8,())) fun q1=>bif q1.1 then some (v8,()) else k0 (v0,v1,v7,wI (v8 + 1))) else some ((-1),())
abbrev zfJ (K:Nat):jZ→Option (Int × Unit):=zm zco K
theorem zny (K:Nat):∀ n,evV Es0 K Tryz.f286 0 (ch [tI]) [1,0,1,0] [] znx n = zm zco n:=zw fun n0 (v0,v1,v7,v8)=>by kernel_rfl
def zdr (L0:jZ→Option (Int × Unit)):((List zH) × ((Option ((zH × Unit)→Option (Bool × Unit))) × Unit))→Option (Int × Unit):=fun (x0,x1,()) =>
  L0 (x0,x1,((List.length x0):Int),0)
def zas:((List zH) × ((Option ((zH × Unit)→Option (Bool × Unit))) × Unit))→Option (Int × Unit):=zdr (zfJ K0)
abbrev zhh:Fun:=⟨286,(ch [(.sl zv),(.fn (ch [zv]) (ch [.bool]))]),(ch [tI]),0,zas⟩
theorem zpo:Sq zhh:=ml0 (d:=false) (S:=fun K=>zdr (zfJ K)) Tryz.func286 (by kernel_rfl) (fun K=>tr1 (T:=zdr) (zny K K) fun (x0,x1,())=>by kernel_rfl) rfl
def zcy:(Int × ((Option (Option ((Int × Unit)→Option (Bool × Unit)))) × Unit))→Option (Bool × Unit):=fun (x0,x1,()) =>
  Option.bind x1 fun q0=>Option.bind q0 fun q1=>Option.bind (q1 (x0,())) fun q2=>bif q2.1 then some (false,()) else some (true,())
abbrev zkb:Fun:=⟨198,(ch [tI,(.ptr (.fn (ch [tI]) (ch [.bool])))]),(ch [.bool]),0,zcy⟩
theorem ztb:Sq zkb:=ms0 (d:=false) (K:=0) Tryz.func198 (by kernel_rfl) (funext fun (x0,x1,())=>by kernel_rfl)
def jH:(zD × (zD × Unit))→Option (Bool × Unit):=fun (x0,x1,()) =>
  bif decide (x0.1 ≤ x1.1) then bif wU (↑(BitVec.toNat (BitVec.ofInt (IntKind.bits IntKind.u64) x0.2.1 &&& ~~~BitVec.ofInt (IntKind.bits IntKind.u64) x1.2.1)):Int) == 0 then some (true,()) else some (false,()) else some (false,())
abbrev ztK:Fun:=⟨20,(ch [zB,zB]),(ch [.bool]),0,jH⟩
theorem zDC:Sq ztK:=ms0 (d:=false) (K:=0) Tryz.func20 (by kernel_rfl) (funext fun (x0,x1,())=>by kernel_rfl)
def zd8:(z7 × ((Option (Option ((zL × Unit)→Option (Bool × Unit)))) × Unit))→Option (Bool × Unit):=fun (x0,x1,()) =>
  bif x0.1 then Option.bind x1 fun q0=>Option.bind q0 fun q1=>Option.bind (q1 (x0.2.1,())) fun q2=>bif q2.1 then Option.bind x1 fun q3=>Option.bind q3 fun q4=>Option.bind (q4 (x0.2.2.1,())) fun q5=>bif q5.1 then some (true,()) else some (false,()) else some (false,()) else some (true,())
abbrev zmx:Fun:=⟨123,(ch [zW,(.ptr (.fn (ch [zC]) (ch [.bool])))]),(ch [.bool]),0,zd8⟩
theorem zwl:Sq zmx:=ms0 (d:=false) (K:=0) Tryz.func123 (by kernel_rfl) (funext fun (x0,x1,())=>by kernel_rfl)
def zbE:(z7 × ((Option (Option ((z7 × Unit)→Option (Bool × Unit)))) × Unit))→Option (Bool × Unit):=fun (x0,x1,()) =>
  Option.bind x1 fun q0=>Option.bind q0 fun q1=>Option.bind (q1 (x0,())) fun q2=>bif q2.1 then some (false,()) else some (true,())
abbrev zjt:Fun:=⟨201,(ch [zW,(.ptr (.fn (ch [zW]) (ch [.bool])))]),(ch [.bool]),0,zbE⟩
theorem zrK:Sq zjt:=ms0 (d:=false) (K:=0) Tryz.func201 (by kernel_rfl) (funext fun (x0,x1,())=>by kernel_rfl)
def zbF:(zj × ((Option (Option ((zL × Unit)→Option (Bool × Unit)))) × Unit))→Option (Bool × Unit):=fun (x0,x1,()) =>
  bif x0.2.2.1 != 2 then some (true,()) else Option.bind x1 fun q0=>Option.bind q0 fun q1=>Option.bind (q1 (x0.2.2.2.2.1,())) fun q2=>bif q2.1 then some (true,()) else some (false,())
abbrev zmy:Fun:=⟨125,(ch [zl,(.ptr (.fn (ch [zC]) (ch [.bool])))]),(ch [.bool]),0,zbF⟩
theorem zwm:Sq zmy:=ms0 (d:=false) (K:=0) Tryz.func125 (by kernel_rfl) (funext fun (x0,x1,())=>by kernel_rfl)
def zbG:(zj × ((Option (Option ((zj × Unit)→Option (Bool × Unit)))) × Unit))→Option (Bool × Unit):=fun (x0,x1,()) =>
  Option.bind x1 fun q0=>Option.bind q0 fun q1=>Option.bind (q1 (x0,())) fun q2=>bif q2.1 then some (false,()) else some (true,())
abbrev zju:Fun:=⟨202,(ch [zl,(.ptr (.fn (ch [zl]) (ch [.bool])))]),(ch [.bool]),0,zbG⟩
theorem zrL:Sq zju:=ms0 (d:=false) (K:=0) Tryz.func202 (by kernel_rfl) (funext fun (x0,x1,())=>by kernel_rfl)
def zcz:(zL × ((Option (Option ((zL × Unit)→Option (Bool × Unit)))) × Unit))→Option (Bool × Unit):=fun (x0,x1,()) =>
  Option.bind x1 fun q0=>Option.bind q0 fun q1=>Option.bind (q1 (x0,())) fun q2=>bif q2.1 then some (false,()) else some (true,())
abbrev zkc:Fun:=⟨204,(ch [zC,(.ptr (.fn (ch [zC]) (ch [.bool])))]),(ch [.bool]),0,zcz⟩
theorem ztc:Sq zkc:=ms0 (d:=false) (K:=0) Tryz.func204 (by kernel_rfl) (funext fun (x0,x1,())=>by kernel_rfl)
abbrev vF:Type:=(List zL) × (Option ((zL × Unit)→Option (Bool × Unit))) × Int × Int
abbrev zpp:vF→St:=fun (v0,v1,v7,v8)=>St.mk [(0,.dat (.sl yK) v0),(1,.dat (.fn (.pair yK .unit) (.pair .bool .unit)) v1),(7,.dat tI v7),(8,.dat tI v8)] []
def zds (k0:vF→Option (Int × Unit)):vF→Option (Int × Unit):=fun (v0,v1,v7,v8) =>
  bif decide (v8 < v7) then inR v8 ((List.length v0):Int) (Option.bind v1 fun q0=>Option.bind (q0 (ix qO v0 v8,())) fun q1=>bif q1.1 then some (v8,()) else k0 (v0,v1,v7,wI (v8 + 1))) else some ((-1),())
abbrev zhi (K:Nat):vF→Option (Int × Unit):=zm zds K
theorem zpq (K:Nat):∀ n,evV Es0 K Tryz.f287 0 (ch [tI]) [1,0,1,0] [] zpp n = zm zds n:=zw fun n0 (v0,v1,v7,v8)=>by kernel_rfl
def zeu (L0:vF→Option (Int × Unit)):((List zL) × ((Option ((zL × Unit)→Option (Bool × Unit))) × Unit))→Option (Int × Unit):=fun (x0,x1,()) =>
  L0 (x0,x1,((List.length x0):Int),0)
def zbH:((List jm) × ((Option ((jm × Unit)→Option (Bool × Unit))) × Unit))→Option (Int × Unit):=zeu (zhi K0)
abbrev zjv:Fun:=⟨287,(ch [(.sl zC),(.fn (ch [zC]) (ch [.bool]))]),(ch [tI]),0,zbH⟩
theorem zrM:Sq zjv:=ml0 (d:=false) (S:=fun K=>zeu (zhi K)) Tryz.func287 (by kernel_rfl) (fun K=>tr1 (T:=zeu) (zpq K K) fun (x0,x1,())=>by kernel_rfl) rfl
def zbI:(qn × ((Option (Option ((qn × Unit)→Option (Bool × Unit)))) × Unit))→Option (Bool × Unit):=fun (x0,x1,()) =>
  Option.bind x1 fun q0=>Option.bind q0 fun q1=>Option.bind (q1 (x0,())) fun q2=>bif q2.1 then some (false,()) else some (true,())
abbrev zjw:Fun:=⟨205,(ch [z3,(.ptr (.fn (ch [z3]) (ch [.bool])))]),(ch [.bool]),0,zbI⟩
theorem zrN:Sq zjw:=ms0 (d:=false) (K:=0) Tryz.func205 (by kernel_rfl) (funext fun (x0,x1,())=>by kernel_rfl)
def zbd:(zt × ((Option (Option ((zt × Unit)→Option (Bool × Unit)))) × Unit))→Option (Bool × Unit):=fun (x0,x1,()) =>
  Option.bind x1 fun q0=>Option.bind q0 fun q1=>Option.bind (q1 (x0,())) fun q2=>bif q2.1 then some (false,()) else some (true,())
abbrev zik:Fun:=⟨206,(ch [zx,(.ptr (.fn (ch [zx]) (ch [.bool])))]),(ch [.bool]),0,zbd⟩
theorem zqU:Sq zik:=ms0 (d:=false) (K:=0) Tryz.func206 (by kernel_rfl) (funext fun (x0,x1,())=>by kernel_rfl)
def zdt:((List zt) × Unit)→Option ((List zt) × Unit):=fun (x0,()) =>
  bif List.isEmpty x0 then zdW (some ([],())) (bif decide (List.length (List.replicate 0 (zd zx)) + List.length x0 ≤ lim) then some (List.replicate 0 (zd zx) ++ x0,()) else none) else bif decide (List.length (List.replicate 0 (zd zx)) + List.length x0 ≤ lim) then some (List.replicate 0 (zd zx) ++ x0,()) else none
abbrev zld:Fun:=⟨32,(ch [(.sl zx)]),(ch [(.sl zx)]),1,zdt⟩
theorem zuz:Sq zld:=ms0 (d:=false) (K:=0) Tryz.func32 (by kernel_rfl) (funext fun (x0,())=>by kernel_rfl)
def vG:(zt × Unit)→Option (Bool × Unit):=fun (x0,()) =>
  bif x0.1 then some (true,()) else some (false,())
abbrev zmz:Fun:=⟨134,(ch [zx]),(ch [.bool]),0,vG⟩
theorem zwn:Sq zmz:=ms0 (d:=false) (K:=0) Tryz.func134 (by kernel_rfl) (funext fun (x0,())=>by kernel_rfl)
def zdu:((Option zbB) × Unit)→Option (Bool × Unit):=fun (x0,()) =>
  bif Option.isSome x0 then Option.bind x0 fun q0=>bif Option.isSome q0.2.1 then some (true,()) else some (false,()) else some (false,())
abbrev zle:Fun:=⟨207,(ch [(.ptr vD)]),(ch [.bool]),0,zdu⟩
theorem zuA:Sq zle:=ms0 (d:=false) (K:=0) Tryz.func207 (by kernel_rfl) (funext fun (x0,())=>by kernel_rfl)
def zdv:((List zp) × Unit)→Option ((List zp) × Unit):=fun (x0,()) =>
  bif List.isEmpty x0 then zdW (some ([],())) (bif decide (List.length (List.replicate 0 (zd zo)) + List.length x0 ≤ lim) then some (List.replicate 0 (zd zo) ++ x0,()) else none) else bif decide (List.length (List.replicate 0 (zd zo)) + List.length x0 ≤ lim) then some (List.replicate 0 (zd zo) ++ x0,()) else none
abbrev zlf:Fun:=⟨23,(ch [(.sl zo)]),(ch [(.sl zo)]),1,zdv⟩
theorem zuB:Sq zlf:=ms0 (d:=false) (K:=0) Tryz.func23 (by kernel_rfl) (funext fun (x0,())=>by kernel_rfl)
def zhj:(zp × Unit)→Option (Bool × Unit):=fun (x0,()) =>
  bif x0.1 then some (true,()) else some (false,())
abbrev zrO:Fun:=⟨339,(ch [zo]),(ch [.bool]),0,zhj⟩
theorem zBH:Sq zrO:=ms0 (d:=false) (K:=0) Tryz.func339 (by kernel_rfl) (funext fun (x0,())=>by kernel_rfl)
def zdw:((Option zdj) × Unit)→Option (Bool × Unit):=fun (x0,()) =>
  bif Option.isSome x0 then Option.bind x0 fun q0=>bif Option.isSome q0.2.1 then some (true,()) else some (false,()) else some (false,())
abbrev zlg:Fun:=⟨340,(ch [(.ptr yD)]),(ch [.bool]),0,zdw⟩
theorem zuC:Sq zlg:=ms0 (d:=false) (K:=0) Tryz.func340 (by kernel_rfl) (funext fun (x0,())=>by kernel_rfl)
def zf2:(zp × Unit)→Option (Int × Unit):=fun (x0,()) =>
  bif x0.2.2.2.1 == 2 then some (x0.2.2.2.2.1,()) else some (x0.2.2.2.2.2.1,())
abbrev zp1:Fun:=⟨289,(ch [zo]),(ch [tI]),0,zf2⟩
theorem zzC:Sq zp1:=ms0 (d:=false) (K:=0) Tryz.func289 (by kernel_rfl) (funext fun (x0,())=>by kernel_rfl)
end
end Go.Proofs.YtejbgeokcpillaaGreatDoor
end
section
namespace Go.Proofs.YtejbgeokcpillaaGreatDoor
open Go.Ev
noncomputable section
def zi4:(Int × (Int × Unit))→Option (Int × (Int × Unit)):=fun (x0,x1,()) =>
  bif decide (0 ≤ x0) then bif decide (0 ≤ x1) then bif decide (x1 < 18446744073709551616) then bif extB true x0 x1 != 0 then some (0,7,()) else bif decide (extA true x0 x1 > 4611686018427387904) then some (0,7,()) else some (extA true x0 x1,0,()) else none else none else none
abbrev ztL:Fun:=⟨291,(ch [tU,tU]),(ch [tU,tI]),0,zi4⟩
theorem zDD:Sq ztL:=ms0 (d:=false) (K:=0) Tryz.func291 (by kernel_rfl) (funext fun (x0,x1,())=>by kernel_rfl)
def zf3:(zt × Unit)→Option (Bool × Unit):=fun (x0,()) =>
  bif x0.1 then some (true,()) else some (false,())
abbrev zp2:Fun:=⟨321,(ch [zx]),(ch [.bool]),0,zf3⟩
theorem zzD:Sq zp2:=ms0 (d:=false) (K:=0) Tryz.func321 (by kernel_rfl) (funext fun (x0,())=>by kernel_rfl)
def ziC:(zg × Unit)→Option ((List Int) × Unit):=fun (x0,()) =>
  some (x0.2.2.2.2.2.2.2.1,())
abbrev zn7:Fun:=⟨213,(ch [zn]),(ch [(.arr 4 tU)]),0,ziC⟩
theorem zx0:Sq zn7:=ms0 (d:=false) (K:=0) Tryz.func213 (by kernel_rfl) (funext fun (x0,())=>by kernel_rfl)
def ziD:(zg × Unit)→Option ((List Int) × Unit):=fun (x0,()) =>
  some (x0.2.2.2.2.2.2.2.2.1,())
abbrev zn8:Fun:=⟨214,(ch [zn]),(ch [(.arr 4 tU)]),0,ziD⟩
theorem zx1:Sq zn8:=ms0 (d:=false) (K:=0) Tryz.func214 (by kernel_rfl) (funext fun (x0,())=>by kernel_rfl)
def zhk:(Int × (Int × Unit))→Option (Int × (Int × Unit)):=fun (x0,x1,()) =>
  bif decide (0 ≤ x0) then bif decide (0 ≤ x1) then bif decide (x1 < 18446744073709551616) then bif extB false x0 x1 != 0 then some (0,6,()) else some (extA false x0 x1,0,()) else none else none else none
abbrev zrP:Fun:=⟨215,(ch [tU,tU]),(ch [tU,tI]),0,zhk⟩
theorem zBI:Sq zrP:=ms0 (d:=false) (K:=0) Tryz.func215 (by kernel_rfl) (funext fun (x0,x1,())=>by kernel_rfl)
def zbl:(zb × (pMe × Unit))→Option ((List zj) × Unit):=fun (x0,x1,()) =>
  inR x1.2.1 ((List.length x0.2.1):Int) (some ((ix zf x0.2.1 x1.2.1).2.2.1,()))
abbrev zp3:Fun:=⟨50,(ch [zq,tMe]),(ch [(.sl zl)]),0,zbl⟩
theorem zzE:Sq zp3:=ms0 (d:=false) (K:=0) Tryz.func50 (by kernel_rfl) (funext fun (x0,x1,())=>by kernel_rfl)
def zgm:((List zH) × Unit)→Option ((List zH) × Unit):=fun (x0,()) =>
  bif List.isEmpty x0 then zdW (some ([],())) (bif decide (List.length (List.replicate 0 (zd zv)) + List.length x0 ≤ lim) then some (List.replicate 0 (zd zv) ++ x0,()) else none) else bif decide (List.length (List.replicate 0 (zd zv)) + List.length x0 ≤ lim) then some (List.replicate 0 (zd zv) ++ x0,()) else none
abbrev zlh:Fun:=⟨24,(ch [(.sl zv)]),(ch [(.sl zv)]),1,zgm⟩
theorem zuD:Sq zlh:=ms0 (d:=false) (K:=0) Tryz.func24 (by kernel_rfl) (funext fun (x0,())=>by kernel_rfl)
def zeW:((List Int) × Unit)→Option ((List Int) × Unit):=fun (x0,()) =>
  bif List.isEmpty x0 then zdW (some ([],())) (bif decide (List.length (List.replicate 0 (0:Int)) + List.length x0 ≤ lim) then some (List.replicate 0 (0:Int) ++ x0,()) else none) else bif decide (List.length (List.replicate 0 (0:Int)) + List.length x0 ≤ lim) then some (List.replicate 0 (0:Int) ++ x0,()) else none
abbrev zn9:Fun:=⟨25,(ch [(.sl tI)]),(ch [(.sl tI)]),1,zeW⟩
theorem zx2:Sq zn9:=ms0 (d:=false) (K:=0) Tryz.func25 (by kernel_rfl) (funext fun (x0,())=>by kernel_rfl)
def zhl:((List (List Int)) × Unit)→Option ((List (List Int)) × Unit):=fun (x0,()) =>
  bif List.isEmpty x0 then zdW (some ([],())) (bif decide (List.length (List.replicate 0 ([]:List Int)) + List.length x0 ≤ lim) then some (List.replicate 0 ([]:List Int) ++ x0,()) else none) else bif decide (List.length (List.replicate 0 ([]:List Int)) + List.length x0 ≤ lim) then some (List.replicate 0 ([]:List Int) ++ x0,()) else none
abbrev zmA:Fun:=⟨26,(ch [(.sl (.sl tI))]),(ch [(.sl (.sl tI))]),1,zhl⟩
theorem zwo:Sq zmA:=ms0 (d:=false) (K:=0) Tryz.func26 (by kernel_rfl) (funext fun (x0,())=>by kernel_rfl)
def zgn:((List zg) × Unit)→Option ((List zg) × Unit):=fun (x0,()) =>
  bif List.isEmpty x0 then zdW (some ([],())) (bif decide (List.length (List.replicate 0 (zd zn)) + List.length x0 ≤ lim) then some (List.replicate 0 (zd zn) ++ x0,()) else none) else bif decide (List.length (List.replicate 0 (zd zn)) + List.length x0 ≤ lim) then some (List.replicate 0 (zd zn) ++ x0,()) else none
abbrev zli:Fun:=⟨27,(ch [(.sl zn)]),(ch [(.sl zn)]),1,zgn⟩
theorem zuE:Sq zli:=ms0 (d:=false) (K:=0) Tryz.func27 (by kernel_rfl) (funext fun (x0,())=>by kernel_rfl)
def zhm:((List qY) × Unit)→Option ((List qY) × Unit):=fun (x0,()) =>
  bif List.isEmpty x0 then zdW (some ([],())) (bif decide (List.length (List.replicate 0 (zd qg)) + List.length x0 ≤ lim) then some (List.replicate 0 (zd qg) ++ x0,()) else none) else bif decide (List.length (List.replicate 0 (zd qg)) + List.length x0 ≤ lim) then some (List.replicate 0 (zd qg) ++ x0,()) else none
abbrev zmB:Fun:=⟨28,(ch [(.sl qg)]),(ch [(.sl qg)]),1,zhm⟩
theorem zwp:Sq zmB:=ms0 (d:=false) (K:=0) Tryz.func28 (by kernel_rfl) (funext fun (x0,())=>by kernel_rfl)
def zhn:((List z7) × Unit)→Option ((List z7) × Unit):=fun (x0,()) =>
  bif List.isEmpty x0 then zdW (some ([],())) (bif decide (List.length (List.replicate 0 (zd zW)) + List.length x0 ≤ lim) then some (List.replicate 0 (zd zW) ++ x0,()) else none) else bif decide (List.length (List.replicate 0 (zd zW)) + List.length x0 ≤ lim) then some (List.replicate 0 (zd zW) ++ x0,()) else none
abbrev zmC:Fun:=⟨29,(ch [(.sl zW)]),(ch [(.sl zW)]),1,zhn⟩
theorem zwq:Sq zmC:=ms0 (d:=false) (K:=0) Tryz.func29 (by kernel_rfl) (funext fun (x0,())=>by kernel_rfl)
def zbJ:((List zj) × Unit)→Option ((List zj) × Unit):=fun (x0,()) =>
  bif List.isEmpty x0 then zdW (some ([],())) (bif decide (List.length (List.replicate 0 (zd zl)) + List.length x0 ≤ lim) then some (List.replicate 0 (zd zl) ++ x0,()) else none) else bif decide (List.length (List.replicate 0 (zd zl)) + List.length x0 ≤ lim) then some (List.replicate 0 (zd zl) ++ x0,()) else none
abbrev zmD:Fun:=⟨30,(ch [(.sl zl)]),(ch [(.sl zl)]),1,zbJ⟩
theorem zwr:Sq zmD:=ms0 (d:=false) (K:=0) Tryz.func30 (by kernel_rfl) (funext fun (x0,())=>by kernel_rfl)
def zho:((List qn) × Unit)→Option ((List qn) × Unit):=fun (x0,()) =>
  bif List.isEmpty x0 then zdW (some ([],())) (bif decide (List.length (List.replicate 0 (zd z3)) + List.length x0 ≤ lim) then some (List.replicate 0 (zd z3) ++ x0,()) else none) else bif decide (List.length (List.replicate 0 (zd z3)) + List.length x0 ≤ lim) then some (List.replicate 0 (zd z3) ++ x0,()) else none
abbrev zmE:Fun:=⟨31,(ch [(.sl z3)]),(ch [(.sl z3)]),1,zho⟩
theorem zws:Sq zmE:=ms0 (d:=false) (K:=0) Tryz.func31 (by kernel_rfl) (funext fun (x0,())=>by kernel_rfl)
def zjP:((List (List Int)) × Unit)→Option ((List (List Int)) × Unit):=fun (x0,()) =>
  bif List.isEmpty x0 then zdW (some ([],())) (bif decide (List.length (List.replicate 0 (zd (.arr 4 tU))) + List.length x0 ≤ lim) then some (List.replicate 0 (zd (.arr 4 tU)) ++ x0,()) else none) else bif decide (List.length (List.replicate 0 (zd (.arr 4 tU))) + List.length x0 ≤ lim) then some (List.replicate 0 (zd (.arr 4 tU)) ++ x0,()) else none
abbrev zp4:Fun:=⟨33,(ch [(.sl (.arr 4 tU))]),(ch [(.sl (.arr 4 tU))]),1,zjP⟩
theorem zzF:Sq zp4:=ms0 (d:=false) (K:=0) Tryz.func33 (by kernel_rfl) (funext fun (x0,())=>by kernel_rfl)
def ziE:((List zL) × Unit)→Option ((List zL) × Unit):=fun (x0,()) =>
  bif List.isEmpty x0 then zdW (some ([],())) (bif decide (List.length (List.replicate 0 (zd zC)) + List.length x0 ≤ lim) then some (List.replicate 0 (zd zC) ++ x0,()) else none) else bif decide (List.length (List.replicate 0 (zd zC)) + List.length x0 ≤ lim) then some (List.replicate 0 (zd zC) ++ x0,()) else none
abbrev zoa:Fun:=⟨34,(ch [(.sl zC)]),(ch [(.sl zC)]),1,ziE⟩
theorem zx3:Sq zoa:=ms0 (d:=false) (K:=0) Tryz.func34 (by kernel_rfl) (funext fun (x0,())=>by kernel_rfl)
def qG:(zj × Unit)→Option (Bool × Unit):=fun (x0,()) =>
  bif x0.1 then some (true,()) else some (false,())
abbrev zp5:Fun:=⟨229,(ch [zl]),(ch [.bool]),0,qG⟩
theorem zzG:Sq zp5:=ms0 (d:=false) (K:=0) Tryz.func229 (by kernel_rfl) (funext fun (x0,())=>by kernel_rfl)
def zkx:(zj × (qF × Unit))→Option (zj × Unit):=fun (x0,x1,()) =>
  some ((x0.1,x0.2.1,x1.1,x1.2.1,x1.2.2.1,x0.2.2.2.2.2),())
abbrev zwt:Fun:=⟨157,(ch [zl,qi]),(ch [zl]),0,zkx⟩
theorem zFn:Sq zwt:=ms0 (d:=false) (K:=0) Tryz.func157 (by kernel_rfl) (funext fun (x0,x1,())=>by kernel_rfl)
def zbK:((Option zbC) × Unit)→Option (Bool × Unit):=fun (x0,()) =>
  bif Option.isSome x0 then Option.bind x0 fun q0=>bif Option.isSome q0.2.1 then some (true,()) else some (false,()) else some (false,())
abbrev zmF:Fun:=⟨232,(ch [(.ptr vW)]),(ch [.bool]),0,zbK⟩
theorem zwu:Sq zmF:=ms0 (d:=false) (K:=0) Tryz.func232 (by kernel_rfl) (funext fun (x0,())=>by kernel_rfl)
def zjx:(zj × ((Option (Option zbC)) × Unit))→Option (Bool × Unit):=fun (x0,x1,()) =>
  Option.bind x1 fun q0=>Option.bind q0 fun q1=>Option.bind q1.2.1 fun q2=>Option.bind (q2 (x0,())) fun q3=>bif q3.1 then some (false,()) else some (true,())
abbrev zjy:Fun:=⟨295,(ch [zl,(.ptr (.ptr vW))]),(ch [.bool]),0,zjx⟩
theorem zrQ:Sq zjy:=ms0 (d:=false) (K:=0) Tryz.func295 (by kernel_rfl) (funext fun (x0,x1,())=>by kernel_rfl)
def jK:(Int × Unit)→Option (qF × Unit):=fun (x0,()) =>
  some ((1,x0,(0,0,()),()),())
abbrev zob:Fun:=⟨90,(ch [tI]),(ch [qi]),0,jK⟩
theorem zx4:Sq zob:=ms0 (d:=false) (K:=0) Tryz.func90 (by kernel_rfl) (funext fun (x0,())=>by kernel_rfl)
def vX:(zb × (pMe × Unit))→Option (zL × Unit):=fun (x0,x1,()) =>
  inR x1.2.1 ((List.length x0.2.1):Int) (inR x1.2.2.1 ((List.length (ix zf x0.2.1 x1.2.1).2.2.2.2.2.2.1):Int) (some (List.getD (ix zf x0.2.1 x1.2.1).2.2.2.2.2.2.1 (Int.toNat x1.2.2.1) (zd zC),())))
abbrev zp6:Fun:=⟨54,(ch [zq,tMe]),(ch [zC]),0,vX⟩
theorem zzH:Sq zp6:=ms0 (d:=false) (K:=0) Tryz.func54 (by kernel_rfl) (funext fun (x0,x1,())=>by kernel_rfl)
def zcS:(zL × Unit)→Option (qF × Unit):=fun (x0,()) =>
  some ((2,0,x0,()),())
abbrev zoc:Fun:=⟨92,(ch [zC]),(ch [qi]),0,zcS⟩
theorem zx5:Sq zoc:=ms0 (d:=false) (K:=0) Tryz.func92 (by kernel_rfl) (funext fun (x0,())=>by kernel_rfl)
def zp7:Unit→Option (ze × Unit):=fun () =>
  some (([(0,0,()),(0,1,()),(1,1,())],[0,1,2],[(ByteArray.mk #[97,110,110],ByteArray.mk #[97],1,true,()),(ByteArray.mk #[98,111,98],ByteArray.mk #[98],0,false,())],[(0,0,())],[(2,2,2,2,2,1000,()),(2,2,2,2,2,1000,()),(2,2,2,2,2,1000,())],4,6,2,3,()),())
abbrev zp8:Fun:=⟨56,.unit,(ch [zy]),0,zp7⟩
theorem zzI:Sq zp8:=ms0 (d:=false) (K:=0) Tryz.func56 (by kernel_rfl) (funext fun ()=>by kernel_rfl)
def zf4:(ze × (zbA × Unit))→Option (zg × Unit):=fun (x0,x1,()) =>
  bif decide (0 ≤ x1.1) then bif decide (x1.1 ≤ x1.1) then bif decide (x1.1 ≤ (↑lim:Int)) then bif decide (0 ≤ x1.2.1) then bif decide (x1.2.1 ≤ x1.2.1) then bif decide (x1.2.1 ≤ (↑lim:Int)) then bif decide (0 ≤ x1.2.2.1) then bif decide (x1.2.2.1 ≤ x1.2.2.1) then bif decide (x1.2.2.1 ≤ (↑lim:Int)) then bif decide (0 ≤ x1.2.2.2.1) then bif decide (x1.2.2.2.1 ≤ x1.2.2.2.1) then bif decide (x1.2.2.2.1 ≤ (↑lim:Int)) then bif decide (0 ≤ x1.2.2.2.2.1) then bif decide (x1.2.2.2.2.1 ≤ x1.2.2.2.2.1) then bif decide (x1.2.2.2.2.1 ≤ (↑lim:Int)) then bif decide (((List.length x0.2.2.1):Int) ≤ ((List.length x0.2.2.1):Int)) then bif decide (((List.length x0.2.2.1):Int) ≤ (↑lim:Int)) then bif decide (((List.length x0.2.2.1):Int) ≤ ((List.length x0.2.2.1):Int)) then bif decide (((List.length x0.2.2.1):Int) ≤ (↑lim:Int)) then some ((List.replicate (Int.toNat x1.1) (zd qg),List.replicate (Int.toNat x1.2.1) (zd zW),List.replicate (Int.toNat x1.2.2.1) (zd zl),List.replicate (Int.toNat x1.2.2.2.1) (zd z3),List.replicate (Int.toNat x1.2.2.2.2.1) (zd zx),List.replicate (Int.toNat ((List.length x0.2.2.1):Int)) (zd (.arr 4 tU)),List.replicate (Int.toNat ((List.length x0.2.2.1):Int)) (zd zC),[0,0,0,0],[0,0,0,0],()),()) else none else none else none else none else none else none else none else none else none else none else none else none else none else none else none else none else none else none else none
abbrev zp9:Fun:=⟨96,(ch [zy,zcI]),(ch [zn]),3,zf4⟩
theorem zzJ:Sq zp9:=ms0 (d:=true) (K:=0) Tryz.func96 (by kernel_rfl) (funext fun (x0,x1,())=>by kernel_rfl)
abbrev zcT:Type:=Int × Int × Int × zb
abbrev zod:zcT→St:=fun (v3,v4,v5,o0)=>St.mk [(1,.bp 0 []),(3,.dat tI v3),(4,.dat tI v4),(5,.dat tI v5)] [.bx (.dat zq o0) false]
abbrev yt:Type:=Int × Int × zb
abbrev zoe:yt→St:=fun (v3,v4,o0)=>St.mk [(1,.bp 0 []),(3,.dat tI v3),(4,.dat tI v4)] [.bx (.dat zq o0) false]
def zcU (k0:yt→Option (Int × Unit)) (k1:zcT→Option (Int × Unit)):zcT→Option (Int × Unit):=fun (v3,v4,v5,o0) =>
  inR v4 ((List.length o0.2.1):Int) (bif decide (v5 < ((List.length (ix zf o0.2.1 v4).2.2.1):Int)) then inR v4 ((List.length o0.2.1):Int) (inR v5 ((List.length (ix zf o0.2.1 v4).2.2.1):Int) (bif (List.getD (ix zf o0.2.1 v4).2.2.1 (Int.toNat v5) (zd zl)).1 then k1 (wI (v3 + 1),v4,wI (v5 + 1),o0) else k1 (v3,v4,wI (v5 + 1),o0))) else k0 (v3,wI (v4 + 1),o0))
abbrev zeX (K:Nat) (k0:yt→Option (Int × Unit)):zcT→Option (Int × Unit):=zm (fun k1=>zcU k0 k1) K
theorem zx6 (K:Nat) (n0:Nat):∀ n,evV Es0 K Tryz.f19 0 (ch [tI]) [1,1,0,1,0,0,1,0,0,1,0] [n0] zod n = zm (fun k1=>zcU (evV Es0 K Tryz.f19 0 (ch [tI]) [1,1,0,1,0] [] zoe n0) k1) n:=zw fun n1 (v3,v4,v5,o0)=>by kernel_rfl
def zaE (L1:zcT→Option (Int × Unit)) (k0:yt→Option (Int × Unit)):yt→Option (Int × Unit):=fun (v3,v4,o0) =>
  bif decide (v4 < ((List.length o0.2.1):Int)) then L1 (v3,v4,0,o0) else some (v3,())
abbrev zof (K:Nat):yt→Option (Int × Unit):=zm (fun k0=>zaE (zeX K k0) k0) K
theorem zx7 (K:Nat):∀ n,evV Es0 K Tryz.f19 0 (ch [tI]) [1,1,0,1,0] [] zoe n = zm (fun k0=>zaE (zeX K k0) k0) n:=zdb (B:=fun L1 k0=>zaE L1 k0) (V1:=fun n0=>evV Es0 K Tryz.f19 0 (ch [tI]) [1,1,0,1,0,0,1,0,0,1,0] [n0] zod K) (W1:=fun k0=>(zeX K k0)) (fun n0=>zx6 K n0 K) fun n0 (v3,v4,o0)=>by kernel_rfl
def zlj (L0:yt→Option (Int × Unit)):(zb × Unit)→Option (Int × Unit):=fun (x0,()) =>
  L0 (0,0,x0)
def qS:(zb × Unit)→Option (Int × Unit):=zlj (zof K0)
abbrev zrR:Fun:=⟨19,(ch [zq]),(ch [tI]),0,qS⟩
theorem zBJ:Sq zrR:=ml0 (d:=false) (S:=fun K=>zlj (zof K)) Tryz.func19 (by kernel_rfl) (fun K=>tr1 (T:=zlj) (zx7 K K) fun (x0,())=>by kernel_rfl) rfl
def zi5:(ze × (zb × Unit))→Option (Bool × Unit):=fun (x0,x1,()) =>
  bif ((List.length x1.2.1):Int) == ((List.length x0.1):Int) then bif ((List.length x1.2.2.1):Int) == ((List.length x0.2.2.2.1):Int) then bif ((List.length x1.2.2.2.2.2.1):Int) == ((List.length x0.2.1):Int) then some (true,()) else some (false,()) else some (false,()) else some (false,())
abbrev ztM:Fun:=⟨139,(ch [zy,zq]),(ch [.bool]),0,zi5⟩
theorem zDE:Sq ztM:=ms0 (d:=false) (K:=0) Tryz.func139 (by kernel_rfl) (funext fun (x0,x1,())=>by kernel_rfl)
def zf5:(Int × ((Option (Option ((Int × Unit)→Option (Bool × Unit)))) × ((Option ze) × Unit)))→Option (Bool × Unit):=fun (x0,x1,x2,()) =>
  Option.bind x1 fun q0=>Option.bind x2 fun q1=>inR x0 ((List.length q1.2.1):Int) (Option.bind q0 fun q2=>Option.bind (q2 (ix (0:Int) q1.2.1 x0,())) fun q3=>bif q3.1 then some (true,()) else some (false,()))
abbrev zqa:Fun:=⟨143,(ch [tI,(.ptr (.fn (ch [tI]) (ch [.bool]))),(.ptr zy)]),(ch [.bool]),0,zf5⟩
theorem zzK:Sq zqa:=ms0 (d:=false) (K:=0) Tryz.func143 (by kernel_rfl) (funext fun (x0,x1,x2,())=>by kernel_rfl)
abbrev vn:Type:=(List zg) × (List zg) × (Option ((Int × Unit)→Option (Bool × Unit))) × Int × Int × List zg × Nat
abbrev zog:vn→St:=fun (v0,v1,v2,v10,v11,o0,c0)=>St.mk [(0,.dat (.sl zn) v0),(1,.dat (.sl zn) v1),(2,.dat (.fn (.pair tI .unit) (.pair .bool .unit)) v2),(7,.ow 0),(10,.dat tI v10),(11,.dat tI v11)] [.drow zn o0 c0]
def vo (k0:vn→Option ((List zg) × Unit)):vn→Option ((List zg) × Unit):=fun (v0,v1,v2,v10,v11,o0,c0) =>
  bif decide (v11 < v10) then Option.bind v2 fun q0=>Option.bind (q0 (v11,())) fun q1=>bif q1.1 then inR v11 ((List.length v0):Int) (bif decide (List.length o0 + List.length (zi (List.replicate 1 (zd zn)) 0 (ix zf v0 v11)) ≤ lim) then k0 (v0,v1,v2,v10,wI (v11 + 1),o0 ++ zi (List.replicate 1 (zd zn)) 0 (ix zf v0 v11),c0) else none) else inR v11 ((List.length v1):Int) (bif decide (List.length o0 + List.length (zi (List.replicate 1 (zd zn)) 0 (ix zf v1 v11)) ≤ lim) then k0 (v0,v1,v2,v10,wI (v11 + 1),o0 ++ zi (List.replicate 1 (zd zn)) 0 (ix zf v1 v11),c0) else none) else some (o0,())
abbrev zgQ (K:Nat):vn→Option ((List zg) × Unit):=zm vo K
theorem zoh (K:Nat):∀ n,evV Es0 K Tryz.f144 0 (ch [(.sl zn)]) [1,1,0,1,0] [] zog n = zm vo n:=zw fun n0 (v0,v1,v2,v10,v11,o0,c0)=>by kernel_rfl
def zd2 (L0:vn→Option ((List zg) × Unit)):((List zg) × ((List zg) × ((Option ((Int × Unit)→Option (Bool × Unit))) × Unit)))→Option ((List zg) × Unit):=fun (x0,x1,x2,()) =>
  L0 (x0,x1,x2,((List.length x0):Int),0,[],0)
def zd3:((List zg) × ((List zg) × ((Option ((Int × Unit)→Option (Bool × Unit))) × Unit)))→Option ((List zg) × Unit):=zd2 (zgQ K0)
abbrev zil:Fun:=⟨144,(ch [(.sl zn),(.sl zn),(.fn (ch [tI]) (ch [.bool]))]),(ch [(.sl zn)]),0,zd3⟩
theorem zqV:Sq zil:=ml0 (d:=false) (S:=fun K=>zd2 (zgQ K)) Tryz.func144 (by kernel_rfl) (fun K=>tr1 (T:=zd2) (zoh K K) fun (x0,x1,x2,())=>by kernel_rfl) rfl
abbrev vH:Type:=(List (List Int)) × (List (List Int)) × (Option ((Int × Unit)→Option (Bool × Unit))) × Int × Int × List (List Int) × Nat
abbrev zpr:vH→St:=fun (v0,v1,v2,v10,v11,o0,c0)=>St.mk [(0,.dat (.sl (.sl tI)) v0),(1,.dat (.sl (.sl tI)) v1),(2,.dat (.fn (.pair tI .unit) (.pair .bool .unit)) v2),(7,.ow 0),(10,.dat tI v10),(11,.dat tI v11)] [.drow (.sl tI) o0 c0]
def vI (k0:vH→Option ((List (List Int)) × Unit)):vH→Option ((List (List Int)) × Unit):=fun (v0,v1,v2,v10,v11,o0,c0) =>
  bif decide (v11 < v10) then Option.bind v2 fun q0=>Option.bind (q0 (v11,())) fun q1=>bif q1.1 then inR v11 ((List.length v0):Int) (bif decide (List.length o0 + List.length (zi (List.replicate 1 ([]:List Int)) 0 (List.getD v0 (Int.toNat v11) ([]:List Int))) ≤ lim) then k0 (v0,v1,v2,v10,wI (v11 + 1),o0 ++ zi (List.replicate 1 ([]:List Int)) 0 (List.getD v0 (Int.toNat v11) ([]:List Int)),c0) else none) else inR v11 ((List.length v1):Int) (bif decide (List.length o0 + List.length (zi (List.replicate 1 ([]:List Int)) 0 (List.getD v1 (Int.toNat v11) ([]:List Int))) ≤ lim) then k0 (v0,v1,v2,v10,wI (v11 + 1),o0 ++ zi (List.replicate 1 ([]:List Int)) 0 (List.getD v1 (Int.toNat v11) ([]:List Int)),c0) else none) else some (o0,())
abbrev zhp (K:Nat):vH→Option ((List (List Int)) × Unit):=zm vI K
theorem zps (K:Nat):∀ n,evV Es0 K Tryz.f145 0 (ch [(.sl (.sl tI))]) [1,1,0,1,0] [] zpr n = zm vI n:=zw fun n0 (v0,v1,v2,v10,v11,o0,c0)=>by kernel_rfl
def zev (L0:vH→Option ((List (List Int)) × Unit)):((List (List Int)) × ((List (List Int)) × ((Option ((Int × Unit)→Option (Bool × Unit))) × Unit)))→Option ((List (List Int)) × Unit):=fun (x0,x1,x2,()) =>
  L0 (x0,x1,x2,((List.length x0):Int),0,[],0)
def zew:((List (List Int)) × ((List (List Int)) × ((Option ((Int × Unit)→Option (Bool × Unit))) × Unit)))→Option ((List (List Int)) × Unit):=zev (zhp K0)
abbrev zjz:Fun:=⟨145,(ch [(.sl (.sl tI)),(.sl (.sl tI)),(.fn (ch [tI]) (ch [.bool]))]),(ch [(.sl (.sl tI))]),0,zew⟩
theorem zrS:Sq zjz:=ml0 (d:=false) (S:=fun K=>zev (zhp K)) Tryz.func145 (by kernel_rfl) (fun K=>tr1 (T:=zev) (zps K K) fun (x0,x1,x2,())=>by kernel_rfl) rfl
abbrev yj:Type:=(List Int) × (List Int) × (Option ((Int × Unit)→Option (Bool × Unit))) × Int × Int × List Int
abbrev zqW:yj→St:=fun (v0,v1,v2,v10,v11,o0)=>St.mk [(0,.dat (.sl tI) v0),(1,.dat (.sl tI) v1),(2,.dat (.fn (.pair tI .unit) (.pair .bool .unit)) v2),(7,.ow 0),(10,.dat tI v10),(11,.dat tI v11)] [.row tI o0 false]
def yk (k0:yj→Option ((List Int) × Unit)):yj→Option ((List Int) × Unit):=fun (v0,v1,v2,v10,v11,o0) =>
  bif decide (v11 < v10) then Option.bind v2 fun q0=>Option.bind (q0 (v11,())) fun q1=>bif q1.1 then inR v11 ((List.length v0):Int) (bif decide (List.length o0 + List.length (zi (List.replicate 1 (0:Int)) 0 (ix (0:Int) v0 v11)) ≤ lim) then k0 (v0,v1,v2,v10,wI (v11 + 1),o0 ++ zi (List.replicate 1 (0:Int)) 0 (ix (0:Int) v0 v11)) else none) else inR v11 ((List.length v1):Int) (bif decide (List.length o0 + List.length (zi (List.replicate 1 (0:Int)) 0 (ix (0:Int) v1 v11)) ≤ lim) then k0 (v0,v1,v2,v10,wI (v11 + 1),o0 ++ zi (List.replicate 1 (0:Int)) 0 (ix (0:Int) v1 v11)) else none) else some (o0,())
abbrev zim (K:Nat):yj→Option ((List Int) × Unit):=zm yk K
theorem zqX (K:Nat):∀ n,evV Es0 K Tryz.f146 0 (ch [(.sl tI)]) [1,1,0,1,0] [] zqW n = zm yk n:=zw fun n0 (v0,v1,v2,v10,v11,o0)=>by kernel_rfl
def zfn (L0:yj→Option ((List Int) × Unit)):((List Int) × ((List Int) × ((Option ((Int × Unit)→Option (Bool × Unit))) × Unit)))→Option ((List Int) × Unit):=fun (x0,x1,x2,()) =>
  L0 (x0,x1,x2,((List.length x0):Int),0,[])
def zfo:((List Int) × ((List Int) × ((Option ((Int × Unit)→Option (Bool × Unit))) × Unit)))→Option ((List Int) × Unit):=zfn (zim K0)
abbrev zkd:Fun:=⟨146,(ch [(.sl tI),(.sl tI),(.fn (ch [tI]) (ch [.bool]))]),(ch [(.sl tI)]),0,zfo⟩
theorem ztd:Sq zkd:=ml0 (d:=false) (S:=fun K=>zfn (zim K)) Tryz.func146 (by kernel_rfl) (fun K=>tr1 (T:=zfn) (zqX K K) fun (x0,x1,x2,())=>by kernel_rfl) rfl
abbrev j3:Type:=(List zg) × (Option ((zg × (zg × Unit))→Option (Bool × Unit))) × (List zg) × Int × Int
abbrev znz:j3→St:=fun (v1,v2,v15,v16,v17)=>St.mk [(1,.dat (.sl zn) v1),(2,.dat (.fn (.pair zn (.pair zn .unit)) (.pair .bool .unit)) v2),(15,.dat (.sl zn) v15),(16,.dat tI v16),(17,.dat tI v17)] []
def j4 (k0:j3→Option (Bool × Unit)):j3→Option (Bool × Unit):=fun (v1,v2,v15,v16,v17) =>
  bif decide (v17 < v16) then inR v17 ((List.length v15):Int) (inR v17 ((List.length v1):Int) (Option.bind v2 fun q0=>Option.bind (q0 (ix zf v15 v17,ix zf v1 v17,())) fun q1=>bif q1.1 then k0 (v1,v2,v15,v16,wI (v17 + 1)) else some (false,()))) else some (true,())
abbrev zfK (K:Nat):j3→Option (Bool × Unit):=zm j4 K
theorem znA (K:Nat):∀ n,evV Es0 K Tryz.f147 0 (ch [.bool]) [1,1,0,1,0] [] znz n = zm j4 n:=zw fun n0 (v1,v2,v15,v16,v17)=>by kernel_rfl
def zdx (L0:j3→Option (Bool × Unit)):((List zg) × ((List zg) × ((Option ((zg × (zg × Unit))→Option (Bool × Unit))) × Unit)))→Option (Bool × Unit):=fun (x0,x1,x2,()) =>
  bif ((List.length x0):Int) != ((List.length x1):Int) then some (false,()) else L0 (x1,x2,x0,((List.length x0):Int),0)
def zdy:((List zg) × ((List zg) × ((Option ((zg × zg × Unit)→Option (Bool × Unit))) × Unit)))→Option (Bool × Unit):=zdx (zfK K0)
abbrev zhq:Fun:=⟨147,(ch [(.sl zn),(.sl zn),(.fn (ch [zn,zn]) (ch [.bool]))]),(ch [.bool]),0,zdy⟩
theorem zpt:Sq zhq:=ml0 (d:=false) (S:=fun K=>zdx (zfK K)) Tryz.func147 (by kernel_rfl) (fun K=>tr1 (T:=zdx) (znA K K) fun (x0,x1,x2,())=>by kernel_rfl) rfl
abbrev zae:Type:=(List qY) × (List qY) × Int × Int
abbrev zte:zae→St:=fun (v0,v1,v12,v13)=>St.mk [(0,.dat (.sl qg) v0),(1,.dat (.sl qg) v1),(12,.dat tI v12),(13,.dat tI v13)] []
def zfp (k0:zae→Option (Bool × Unit)):zae→Option (Bool × Unit):=fun (v0,v1,v12,v13) =>
  bif decide (v13 < v12) then inR v13 ((List.length v0):Int) (inR v13 ((List.length v1):Int) (bif !eqI qg (ix zsT v0 v13) (ix zsT v1 v13) then some (false,()) else k0 (v0,v1,v12,wI (v13 + 1)))) else some (true,())
abbrev zke (K:Nat):zae→Option (Bool × Unit):=zm zfp K
theorem ztf (K:Nat):∀ n,evV Es0 K Tryz.f216 0 (ch [.bool]) [1,1,0,1,0] [] zte n = zm zfp n:=zw fun n0 (v0,v1,v12,v13)=>by kernel_rfl
def zhr (L0:zae→Option (Bool × Unit)):((List qY) × ((List qY) × Unit))→Option (Bool × Unit):=fun (x0,x1,()) =>
  bif ((List.length x0):Int) != ((List.length x1):Int) then some (false,()) else L0 (x0,x1,((List.length x0):Int),0)
def zhs:((List qY) × (List qY) × Unit)→Option (Bool × Unit):=zhr (zke K0)
abbrev zmG:Fun:=⟨216,(ch [(.sl qg),(.sl qg)]),(ch [.bool]),0,zhs⟩
theorem zwv:Sq zmG:=ml0 (d:=false) (S:=fun K=>zhr (zke K)) Tryz.func216 (by kernel_rfl) (fun K=>tr1 (T:=zhr) (ztf K K) fun (x0,x1,())=>by kernel_rfl) rfl
abbrev zaf:Type:=(List z7) × (List z7) × Int × Int
abbrev ztg:zaf→St:=fun (v0,v1,v12,v13)=>St.mk [(0,.dat (.sl zW) v0),(1,.dat (.sl zW) v1),(12,.dat tI v12),(13,.dat tI v13)] []
def zfq (k0:zaf→Option (Bool × Unit)):zaf→Option (Bool × Unit):=fun (v0,v1,v12,v13) =>
  bif decide (v13 < v12) then inR v13 ((List.length v0):Int) (inR v13 ((List.length v1):Int) (bif !eqI zW (ix vC v0 v13) (ix vC v1 v13) then some (false,()) else k0 (v0,v1,v12,wI (v13 + 1)))) else some (true,())
abbrev zkf (K:Nat):zaf→Option (Bool × Unit):=zm zfq K
theorem zth (K:Nat):∀ n,evV Es0 K Tryz.f217 0 (ch [.bool]) [1,1,0,1,0] [] ztg n = zm zfq n:=zw fun n0 (v0,v1,v12,v13)=>by kernel_rfl
def zht (L0:zaf→Option (Bool × Unit)):((List z7) × ((List z7) × Unit))→Option (Bool × Unit):=fun (x0,x1,()) =>
  bif ((List.length x0):Int) != ((List.length x1):Int) then some (false,()) else L0 (x0,x1,((List.length x0):Int),0)
def zhu:((List z7) × (List z7) × Unit)→Option (Bool × Unit):=zht (zkf K0)
abbrev zmH:Fun:=⟨217,(ch [(.sl zW),(.sl zW)]),(ch [.bool]),0,zhu⟩
theorem zww:Sq zmH:=ml0 (d:=false) (S:=fun K=>zht (zkf K)) Tryz.func217 (by kernel_rfl) (fun K=>tr1 (T:=zht) (zth K K) fun (x0,x1,())=>by kernel_rfl) rfl
abbrev zag:Type:=(List zj) × (List zj) × Int × Int
abbrev zti:zag→St:=fun (v0,v1,v12,v13)=>St.mk [(0,.dat (.sl zl) v0),(1,.dat (.sl zl) v1),(12,.dat tI v12),(13,.dat tI v13)] []
def zfr (k0:zag→Option (Bool × Unit)):zag→Option (Bool × Unit):=fun (v0,v1,v12,v13) =>
  bif decide (v13 < v12) then inR v13 ((List.length v0):Int) (inR v13 ((List.length v1):Int) (bif !eqI zl (ix zO v0 v13) (ix zO v1 v13) then some (false,()) else k0 (v0,v1,v12,wI (v13 + 1)))) else some (true,())
abbrev zkg (K:Nat):zag→Option (Bool × Unit):=zm zfr K
theorem ztj (K:Nat):∀ n,evV Es0 K Tryz.f218 0 (ch [.bool]) [1,1,0,1,0] [] zti n = zm zfr n:=zw fun n0 (v0,v1,v12,v13)=>by kernel_rfl
def zhv (L0:zag→Option (Bool × Unit)):((List zj) × ((List zj) × Unit))→Option (Bool × Unit):=fun (x0,x1,()) =>
  bif ((List.length x0):Int) != ((List.length x1):Int) then some (false,()) else L0 (x0,x1,((List.length x0):Int),0)
def zhw:((List zj) × (List zj) × Unit)→Option (Bool × Unit):=zhv (zkg K0)
abbrev zmI:Fun:=⟨218,(ch [(.sl zl),(.sl zl)]),(ch [.bool]),0,zhw⟩
theorem zwx:Sq zmI:=ml0 (d:=false) (S:=fun K=>zhv (zkg K)) Tryz.func218 (by kernel_rfl) (fun K=>tr1 (T:=zhv) (ztj K K) fun (x0,x1,())=>by kernel_rfl) rfl
abbrev zah:Type:=(List qn) × (List qn) × Int × Int
abbrev ztk:zah→St:=fun (v0,v1,v12,v13)=>St.mk [(0,.dat (.sl z3) v0),(1,.dat (.sl z3) v1),(12,.dat tI v12),(13,.dat tI v13)] []
def zfs (k0:zah→Option (Bool × Unit)):zah→Option (Bool × Unit):=fun (v0,v1,v12,v13) =>
  bif decide (v13 < v12) then inR v13 ((List.length v0):Int) (inR v13 ((List.length v1):Int) (bif !eqI z3 (ix zAG v0 v13) (ix zAG v1 v13) then some (false,()) else k0 (v0,v1,v12,wI (v13 + 1)))) else some (true,())
abbrev zkh (K:Nat):zah→Option (Bool × Unit):=zm zfs K
theorem ztl (K:Nat):∀ n,evV Es0 K Tryz.f219 0 (ch [.bool]) [1,1,0,1,0] [] ztk n = zm zfs n:=zw fun n0 (v0,v1,v12,v13)=>by kernel_rfl
def zhx (L0:zah→Option (Bool × Unit)):((List qn) × ((List qn) × Unit))→Option (Bool × Unit):=fun (x0,x1,()) =>
  bif ((List.length x0):Int) != ((List.length x1):Int) then some (false,()) else L0 (x0,x1,((List.length x0):Int),0)
def zhy:((List qn) × (List qn) × Unit)→Option (Bool × Unit):=zhx (zkh K0)
abbrev zmJ:Fun:=⟨219,(ch [(.sl z3),(.sl z3)]),(ch [.bool]),0,zhy⟩
theorem zwy:Sq zmJ:=ml0 (d:=false) (S:=fun K=>zhx (zkh K)) Tryz.func219 (by kernel_rfl) (fun K=>tr1 (T:=zhx) (ztl K K) fun (x0,x1,())=>by kernel_rfl) rfl
abbrev yN:Type:=(List zt) × (List zt) × Int × Int
abbrev zrT:yN→St:=fun (v0,v1,v12,v13)=>St.mk [(0,.dat (.sl zx) v0),(1,.dat (.sl zx) v1),(12,.dat tI v12),(13,.dat tI v13)] []
def zex (k0:yN→Option (Bool × Unit)):yN→Option (Bool × Unit):=fun (v0,v1,v12,v13) =>
  bif decide (v13 < v12) then inR v13 ((List.length v0):Int) (inR v13 ((List.length v1):Int) (bif !eqI zx (ix qB v0 v13) (ix qB v1 v13) then some (false,()) else k0 (v0,v1,v12,wI (v13 + 1)))) else some (true,())
abbrev zjA (K:Nat):yN→Option (Bool × Unit):=zm zex K
theorem zrU (K:Nat):∀ n,evV Es0 K Tryz.f220 0 (ch [.bool]) [1,1,0,1,0] [] zrT n = zm zex n:=zw fun n0 (v0,v1,v12,v13)=>by kernel_rfl
def zgo (L0:yN→Option (Bool × Unit)):((List zt) × ((List zt) × Unit))→Option (Bool × Unit):=fun (x0,x1,()) =>
  bif ((List.length x0):Int) != ((List.length x1):Int) then some (false,()) else L0 (x0,x1,((List.length x0):Int),0)
def zgp:((List zt) × (List zt) × Unit)→Option (Bool × Unit):=zgo (zjA K0)
abbrev zlk:Fun:=⟨220,(ch [(.sl zx),(.sl zx)]),(ch [.bool]),0,zgp⟩
theorem zuF:Sq zlk:=ml0 (d:=false) (S:=fun K=>zgo (zjA K)) Tryz.func220 (by kernel_rfl) (fun K=>tr1 (T:=zgo) (zrU K K) fun (x0,x1,())=>by kernel_rfl) rfl
abbrev zbL:Type:=(List (List Int)) × (List (List Int)) × Int × Int
abbrev zwz:zbL→St:=fun (v0,v1,v12,v13)=>St.mk [(0,.dat (.sl (.arr 4 tU)) v0),(1,.dat (.sl (.arr 4 tU)) v1),(12,.dat tI v12),(13,.dat tI v13)] []
def zhz (k0:zbL→Option (Bool × Unit)):zbL→Option (Bool × Unit):=fun (v0,v1,v12,v13) =>
  bif decide (v13 < v12) then inR v13 ((List.length v0):Int) (inR v13 ((List.length v1):Int) (bif !eqI (.arr 4 tU) (List.getD v0 (Int.toNat v13) (zd (.arr 4 tU))) (List.getD v1 (Int.toNat v13) (zd (.arr 4 tU))) then some (false,()) else k0 (v0,v1,v12,wI (v13 + 1)))) else some (true,())
abbrev zmK (K:Nat):zbL→Option (Bool × Unit):=zm zhz K
theorem zwA (K:Nat):∀ n,evV Es0 K Tryz.f221 0 (ch [.bool]) [1,1,0,1,0] [] zwz n = zm zhz n:=zw fun n0 (v0,v1,v12,v13)=>by kernel_rfl
def zjQ (L0:zbL→Option (Bool × Unit)):((List (List Int)) × ((List (List Int)) × Unit))→Option (Bool × Unit):=fun (x0,x1,()) =>
  bif ((List.length x0):Int) != ((List.length x1):Int) then some (false,()) else L0 (x0,x1,((List.length x0):Int),0)
def zjR:((List (List Int)) × (List (List Int)) × Unit)→Option (Bool × Unit):=zjQ (zmK K0)
abbrev zqb:Fun:=⟨221,(ch [(.sl (.arr 4 tU)),(.sl (.arr 4 tU))]),(ch [.bool]),0,zjR⟩
theorem zzL:Sq zqb:=ml0 (d:=false) (S:=fun K=>zjQ (zmK K)) Tryz.func221 (by kernel_rfl) (fun K=>tr1 (T:=zjQ) (zwA K K) fun (x0,x1,())=>by kernel_rfl) rfl
abbrev zaQ:Type:=(List zL) × (List zL) × Int × Int
abbrev zuG:zaQ→St:=fun (v0,v1,v12,v13)=>St.mk [(0,.dat (.sl yK) v0),(1,.dat (.sl yK) v1),(12,.dat tI v12),(13,.dat tI v13)] []
def zgq (k0:zaQ→Option (Bool × Unit)):zaQ→Option (Bool × Unit):=fun (v0,v1,v12,v13) =>
  bif decide (v13 < v12) then inR v13 ((List.length v0):Int) (inR v13 ((List.length v1):Int) (bif !eqI yK (ix qO v0 v13) (ix qO v1 v13) then some (false,()) else k0 (v0,v1,v12,wI (v13 + 1)))) else some (true,())
abbrev zll (K:Nat):zaQ→Option (Bool × Unit):=zm zgq K
theorem zuH (K:Nat):∀ n,evV Es0 K Tryz.f222 0 (ch [.bool]) [1,1,0,1,0] [] zuG n = zm zgq n:=zw fun n0 (v0,v1,v12,v13)=>by kernel_rfl
def ziF (L0:zaQ→Option (Bool × Unit)):((List zL) × ((List zL) × Unit))→Option (Bool × Unit):=fun (x0,x1,()) =>
  bif ((List.length x0):Int) != ((List.length x1):Int) then some (false,()) else L0 (x0,x1,((List.length x0):Int),0)
def ziG:((List jm) × (List jm) × Unit)→Option (Bool × Unit):=ziF (zll K0)
abbrev zoi:Fun:=⟨222,(ch [(.sl zC),(.sl zC)]),(ch [.bool]),0,ziG⟩
theorem zx8:Sq zoi:=ml0 (d:=false) (S:=fun K=>ziF (zll K)) Tryz.func222 (by kernel_rfl) (fun K=>tr1 (T:=ziF) (zuH K K) fun (x0,x1,())=>by kernel_rfl) rfl
abbrev vp:Type:=(List (List Int)) × (Option (((List Int) × ((List Int) × Unit))→Option (Bool × Unit))) × (List (List Int)) × Int × Int
abbrev zoj:vp→St:=fun (v1,v2,v15,v16,v17)=>St.mk [(1,.dat (.sl (.sl tI)) v1),(2,.dat (.fn (.pair (.sl tI) (.pair (.sl tI) .unit)) (.pair .bool .unit)) v2),(15,.dat (.sl (.sl tI)) v15),(16,.dat tI v16),(17,.dat tI v17)] []
def vq (k0:vp→Option (Bool × Unit)):vp→Option (Bool × Unit):=fun (v1,v2,v15,v16,v17) =>
  bif decide (v17 < v16) then inR v17 ((List.length v15):Int) (inR v17 ((List.length v1):Int) (Option.bind v2 fun q0=>Option.bind (q0 (List.getD v15 (Int.toNat v17) ([]:List Int),List.getD v1 (Int.toNat v17) ([]:List Int),())) fun q1=>bif q1.1 then k0 (v1,v2,v15,v16,wI (v17 + 1)) else some (false,()))) else some (true,())
abbrev zgR (K:Nat):vp→Option (Bool × Unit):=zm vq K
theorem zok (K:Nat):∀ n,evV Es0 K Tryz.f149 0 (ch [.bool]) [1,1,0,1,0] [] zoj n = zm vq n:=zw fun n0 (v1,v2,v15,v16,v17)=>by kernel_rfl
def zd4 (L0:vp→Option (Bool × Unit)):((List (List Int)) × ((List (List Int)) × ((Option (((List Int) × ((List Int) × Unit))→Option (Bool × Unit))) × Unit)))→Option (Bool × Unit):=fun (x0,x1,x2,()) =>
  bif ((List.length x0):Int) != ((List.length x1):Int) then some (false,()) else L0 (x1,x2,x0,((List.length x0):Int),0)
def zd5:((List (List Int)) × ((List (List Int)) × ((Option (((List Int) × (List Int) × Unit)→Option (Bool × Unit))) × Unit)))→Option (Bool × Unit):=zd4 (zgR K0)
abbrev zin:Fun:=⟨149,(ch [(.sl (.sl tI)),(.sl (.sl tI)),(.fn (ch [(.sl tI),(.sl tI)]) (ch [.bool]))]),(ch [.bool]),0,zd5⟩
theorem zqY:Sq zin:=ml0 (d:=false) (S:=fun K=>zd4 (zgR K)) Tryz.func149 (by kernel_rfl) (fun K=>tr1 (T:=zd4) (zok K K) fun (x0,x1,x2,())=>by kernel_rfl) rfl
abbrev zaR:Type:=(List Int) × (List Int) × Int × Int
abbrev zuI:zaR→St:=fun (v0,v1,v12,v13)=>St.mk [(0,.dat (.sl tI) v0),(1,.dat (.sl tI) v1),(12,.dat tI v12),(13,.dat tI v13)] []
def zgr (k0:zaR→Option (Bool × Unit)):zaR→Option (Bool × Unit):=fun (v0,v1,v12,v13) =>
  bif decide (v13 < v12) then inR v13 ((List.length v0):Int) (inR v13 ((List.length v1):Int) (bif ix (0:Int) v0 v13 != ix (0:Int) v1 v13 then some (false,()) else k0 (v0,v1,v12,wI (v13 + 1)))) else some (true,())
abbrev zlm (K:Nat):zaR→Option (Bool × Unit):=zm zgr K
theorem zuJ (K:Nat):∀ n,evV Es0 K Tryz.f150 0 (ch [.bool]) [1,1,0,1,0] [] zuI n = zm zgr n:=zw fun n0 (v0,v1,v12,v13)=>by kernel_rfl
def ziH (L0:zaR→Option (Bool × Unit)):((List Int) × ((List Int) × Unit))→Option (Bool × Unit):=fun (x0,x1,()) =>
  bif ((List.length x0):Int) != ((List.length x1):Int) then some (false,()) else L0 (x0,x1,((List.length x0):Int),0)
def zaF:((List Int) × (List Int) × Unit)→Option (Bool × Unit):=ziH (zlm K0)
abbrev zol:Fun:=⟨150,(ch [(.sl tI),(.sl tI)]),(ch [.bool]),0,zaF⟩
theorem zx9:Sq zol:=ml0 (d:=false) (S:=fun K=>ziH (zlm K)) Tryz.func150 (by kernel_rfl) (fun K=>tr1 (T:=ziH) (zuJ K K) fun (x0,x1,())=>by kernel_rfl) rfl
abbrev yO:Type:=(List zp) × (List zp) × Int × Int
abbrev zrV:yO→St:=fun (v0,v1,v12,v13)=>St.mk [(0,.dat (.sl zo) v0),(1,.dat (.sl zo) v1),(12,.dat tI v12),(13,.dat tI v13)] []
def zey (k0:yO→Option (Bool × Unit)):yO→Option (Bool × Unit):=fun (v0,v1,v12,v13) =>
  bif decide (v13 < v12) then inR v13 ((List.length v0):Int) (inR v13 ((List.length v1):Int) (bif !eqI zo (ix qm v0 v13) (ix qm v1 v13) then some (false,()) else k0 (v0,v1,v12,wI (v13 + 1)))) else some (true,())
abbrev zjB (K:Nat):yO→Option (Bool × Unit):=zm zey K
theorem zrW (K:Nat):∀ n,evV Es0 K Tryz.f151 0 (ch [.bool]) [1,1,0,1,0] [] zrV n = zm zey n:=zw fun n0 (v0,v1,v12,v13)=>by kernel_rfl
def zgs (L0:yO→Option (Bool × Unit)):((List zp) × ((List zp) × Unit))→Option (Bool × Unit):=fun (x0,x1,()) =>
  bif ((List.length x0):Int) != ((List.length x1):Int) then some (false,()) else L0 (x0,x1,((List.length x0):Int),0)
def zgt:((List zp) × (List zp) × Unit)→Option (Bool × Unit):=zgs (zjB K0)
abbrev zln:Fun:=⟨151,(ch [(.sl zo),(.sl zo)]),(ch [.bool]),0,zgt⟩
theorem zuK:Sq zln:=ml0 (d:=false) (S:=fun K=>zgs (zjB K)) Tryz.func151 (by kernel_rfl) (fun K=>tr1 (T:=zgs) (zrW K K) fun (x0,x1,())=>by kernel_rfl) rfl
abbrev yP:Type:=(List zH) × (List zH) × Int × Int
abbrev zrX:yP→St:=fun (v0,v1,v12,v13)=>St.mk [(0,.dat (.sl zv) v0),(1,.dat (.sl zv) v1),(12,.dat tI v12),(13,.dat tI v13)] []
def zez (k0:yP→Option (Bool × Unit)):yP→Option (Bool × Unit):=fun (v0,v1,v12,v13) =>
  bif decide (v13 < v12) then inR v13 ((List.length v0):Int) (inR v13 ((List.length v1):Int) (bif !eqI zv (ix zg6 v0 v13) (ix zg6 v1 v13) then some (false,()) else k0 (v0,v1,v12,wI (v13 + 1)))) else some (true,())
abbrev zjC (K:Nat):yP→Option (Bool × Unit):=zm zez K
theorem zrY (K:Nat):∀ n,evV Es0 K Tryz.f152 0 (ch [.bool]) [1,1,0,1,0] [] zrX n = zm zez n:=zw fun n0 (v0,v1,v12,v13)=>by kernel_rfl
def zgu (L0:yP→Option (Bool × Unit)):((List zH) × ((List zH) × Unit))→Option (Bool × Unit):=fun (x0,x1,()) =>
  bif ((List.length x0):Int) != ((List.length x1):Int) then some (false,()) else L0 (x0,x1,((List.length x0):Int),0)
def zgv:((List zH) × (List zH) × Unit)→Option (Bool × Unit):=zgu (zjC K0)
abbrev zlo:Fun:=⟨152,(ch [(.sl zv),(.sl zv)]),(ch [.bool]),0,zgv⟩
theorem zuL:Sq zlo:=ml0 (d:=false) (S:=fun K=>zgu (zjC K)) Tryz.func152 (by kernel_rfl) (fun K=>tr1 (T:=zgu) (zrY K K) fun (x0,x1,())=>by kernel_rfl) rfl
abbrev L1:List Fun:=zpY :: znS :: zg7 :: zmu :: zjp :: zrw :: zjq :: zry :: zrz :: zib :: zrA :: zfE :: zj9 :: zrB :: zrC :: zk9 :: zla :: zmv :: zid :: zhc :: zie :: zrF :: zrG :: znZ :: zif :: zig :: zwg :: zwh :: zih :: zzj :: zrH :: zff :: zfG :: zhf :: zwi :: zrI :: zrJ :: zn6 :: zka :: zzk :: zwj :: zpZ :: zp0 :: zmw :: zii :: zhg :: zij :: zhh :: zkb :: ztK :: zmx :: zjt :: zmy :: zju :: zkc :: zjv :: zjw :: zik :: zld :: zmz :: zle :: zlf :: zrO :: zlg :: zp1 :: ztL :: zp2 :: zn7 :: zn8 :: zrP :: zp3 :: zlh :: zn9 :: zmA :: zli :: zmB :: zmC :: zmD :: zmE :: zp4 :: zoa :: zp5 :: zwt :: zmF :: zjy :: zob :: zp6 :: zoc :: zp8 :: zp9 :: zrR :: ztM :: zqa :: zil :: zjz :: zkd :: zhq :: zmG :: zmH :: zmI :: zmJ :: zlk :: zqb :: zoi :: zin :: zol :: zln :: zlo :: L0
theorem h1:Sds Tryz.prog E0 L1:=⟨zzz,zxT,zpi,zwe,zrv,zBw,zrx,zBx,zBy,zqK,zBz,znp,zs9,zBA,zBB,zux,zuy,zwf,zqN,zpl,zqO,zBC,zBD,zxY,zqP,zqQ,zFj,zFk,zqR,zGS,zBE,zl5,zns,zpm,zFl,zBF,zBG,zxZ,zta,zGT,zFm,zzA,zzB,zwk,zqS,zpn,zqT,zpo,ztb,zDC,zwl,zrK,zwm,zrL,ztc,zrM,zrN,zqU,zuz,zwn,zuA,zuB,zBH,zuC,zzC,zDD,zzD,zx0,zx1,zBI,zzE,zuD,zx2,zwo,zuE,zwp,zwq,zwr,zws,zzF,zx3,zzG,zFn,zwu,zrQ,zx4,zzH,zx5,zzI,zzJ,zBJ,zDE,zzK,zqV,zrS,ztd,zpt,zwv,zww,zwx,zwy,zuF,zzL,zx8,zqY,zx9,zuK,zuL,h0⟩
theorem ms1 {d:Bool} {F:Fun} {f:Go.Func} {K:Nat} (hf:Tryz.prog.funcs[F.id]? = some f) (ho:qX f = true) (h:evF (En E0 d L1) K f F.md F.a F.r = F.spec):Sd Tryz.prog E0 F:=mkS h1 hf ho h
theorem ml1 {d:Bool} {F:Fun} {f:Go.Func} {S:Nat→F.a.I→Option F.r.I} (hf:Tryz.prog.funcs[F.id]? = some f) (ho:qX f = true) (h:∀ K,evF (En E0 d L1) K f F.md F.a F.r = S K) (e:S K0 = F.spec):Sd Tryz.prog E0 F:=mkS h1 hf ho ((h K0).trans e)
abbrev Es1:Env:=En E0 false L1
abbrev Ed1:Env:=En E0 true L1
def zdz:(zD × Unit)→Option (Bool × Unit):=fun (x0,()) =>
  Option.bind (jG (x0,())) fun q0=>bif q0.1 then some (false,()) else some (true,())
abbrev zlp:Fun:=⟨252,(ch [zB]),(ch [.bool]),0,zdz⟩
theorem zuM:Sq zlp:=ms1 (d:=false) (K:=0) Tryz.func252 (by kernel_rfl) (funext fun (x0,())=>by kernel_rfl)
def yb:((List zD) × ((Option ((zD × Unit)→Option (Bool × Unit))) × Unit))→Option (Bool × Unit):=fun (x0,x1,()) =>
  Option.bind (zao (x0,x1,())) fun q0=>bif decide (q0.1 ≥ 0) then some (true,()) else some (false,())
abbrev zfg:Fun:=⟨253,(ch [(.sl zB),(.fn (ch [zB]) (ch [.bool]))]),(ch [.bool]),0,yb⟩
theorem zl6:Sq zfg:=ms1 (d:=false) (K:=0) Tryz.func253 (by kernel_rfl) (funext fun (x0,x1,())=>by kernel_rfl)
def zai:(Int × (Int × Unit))→Option (Int × Unit):=fun (x0,x1,()) =>
  Option.bind (yW (x0,())) fun q0=>bif q0.1 then Option.bind (yW (x1,())) fun q1=>bif q1.1 then some (0,()) else some ((-1),()) else Option.bind (yW (x1,())) fun q2=>bif q2.1 then some (1,()) else bif decide (x0 < x1) then some ((-1),()) else bif decide (x0 > x1) then some (1,()) else some (0,())
abbrev zki:Fun:=⟨284,(ch [tI,tI]),(ch [tI]),0,zai⟩
theorem ztm:Sq zki:=ms1 (d:=false) (K:=0) Tryz.func284 (by kernel_rfl) (funext fun (x0,x1,())=>by kernel_rfl)
def vJ:(Int × (Int × Unit))→Option (Int × Unit):=fun (x0,x1,()) =>
  Option.bind (vh (x0,())) fun q0=>bif q0.1 then Option.bind (vh (x1,())) fun q1=>bif q1.1 then some (0,()) else some ((-1),()) else Option.bind (vh (x1,())) fun q2=>bif q2.1 then some (1,()) else bif decide (x0 < x1) then some ((-1),()) else bif decide (x0 > x1) then some (1,()) else some (0,())
abbrev zhA:Fun:=⟨283,(ch [tU,tU]),(ch [tI]),0,vJ⟩
theorem zpu:Sq zhA:=ms1 (d:=false) (K:=0) Tryz.func283 (by kernel_rfl) (funext fun (x0,x1,())=>by kernel_rfl)
def zbM:(Int × ((Option ze) × Unit))→Option (Bool × Unit):=fun (x0,x1,()) =>
  Option.bind x1 fun q0=>Option.bind (qj (x0,0,wI (((List.length q0.1):Int) - 1),())) fun q1=>bif q1.1 then some (false,()) else some (true,())
abbrev zmL:Fun:=⟨255,(ch [tI,(.ptr zy)]),(ch [.bool]),0,zbM⟩
theorem zwB:Sq zmL:=ms1 (d:=false) (K:=0) Tryz.func255 (by kernel_rfl) (funext fun (x0,x1,())=>by kernel_rfl)
def qy:((List Int) × ((Option ((Int × Unit)→Option (Bool × Unit))) × Unit))→Option (Bool × Unit):=fun (x0,x1,()) =>
  Option.bind (zbD (x0,x1,())) fun q0=>bif decide (q0.1 ≥ 0) then some (true,()) else some (false,())
abbrev zgS:Fun:=⟨190,(ch [(.sl tI),(.fn (ch [tI]) (ch [.bool]))]),(ch [.bool]),0,qy⟩
theorem zom:Sq zgS:=ms1 (d:=false) (K:=0) Tryz.func190 (by kernel_rfl) (funext fun (x0,x1,())=>by kernel_rfl)
def j5:((List Int) × ((Option ((Int × Unit)→Option (Bool × Unit))) × Unit))→Option (Bool × Unit):=fun (x0,x1,()) =>
  Option.bind (za7 (x0,x1,())) fun q0=>bif decide (q0.1 ≥ 0) then some (true,()) else some (false,())
abbrev zfL:Fun:=⟨294,(ch [(.sl (.int .u8)),(.fn (ch [(.int .u8)]) (ch [.bool]))]),(ch [.bool]),0,j5⟩
theorem znB:Sq zfL:=ms1 (d:=false) (K:=0) Tryz.func294 (by kernel_rfl) (funext fun (x0,x1,())=>by kernel_rfl)
def zeY:(Int × Unit)→Option (Bool × Unit):=fun (x0,()) =>
  Option.bind (zeo (x0,())) fun q0=>bif q0.1 then some (true,()) else Option.bind (zha (x0,())) fun q1=>bif q1.1 then some (true,()) else some (false,())
abbrev zon:Fun:=⟨226,(ch [(.int .u8)]),(ch [.bool]),0,zeY⟩
theorem zya:Sq zon:=ms1 (d:=false) (K:=0) Tryz.func226 (by kernel_rfl) (funext fun (x0,())=>by kernel_rfl)
def zat:((List qL) × ((Option ((qL × Unit)→Option (Bool × Unit))) × Unit))→Option (Bool × Unit):=fun (x0,x1,()) =>
  Option.bind (yE (x0,x1,())) fun q0=>bif decide (q0.1 ≥ 0) then some (true,()) else some (false,())
abbrev zd9:Fun:=⟨257,(ch [(.sl qK),(.fn (ch [qK]) (ch [.bool]))]),(ch [.bool]),0,zat⟩
theorem zky:Sq zd9:=ms1 (d:=false) (K:=0) Tryz.func257 (by kernel_rfl) (funext fun (x0,x1,())=>by kernel_rfl)
def zbe:((List zD) × (zD × Unit))→Option (Bool × Unit):=fun (x0,x1,()) =>
  Option.bind (zgk (x0,x1,())) fun q0=>bif decide (q0.1 ≥ 0) then some (true,()) else some (false,())
abbrev zio:Fun:=⟨260,(ch [(.sl zB),zB]),(ch [.bool]),0,zbe⟩
theorem zqZ:Sq zio:=ms1 (d:=false) (K:=0) Tryz.func260 (by kernel_rfl) (funext fun (x0,x1,())=>by kernel_rfl)
def zdA:(Int × Unit)→Option (Bool × Unit):=fun (x0,()) =>
  Option.bind (qj (x0,0,12,())) fun q0=>bif q0.1 then some (false,()) else some (true,())
abbrev zlq:Fun:=⟨262,(ch [tI]),(ch [.bool]),0,zdA⟩
theorem zuN:Sq zlq:=ms1 (d:=false) (K:=0) Tryz.func262 (by kernel_rfl) (funext fun (x0,())=>by kernel_rfl)
end
end Go.Proofs.YtejbgeokcpillaaGreatDoor
end
section
namespace Go.Proofs.YtejbgeokcpillaaGreatDoor
open Go.Ev
noncomputable section
def yQ:(ze × Unit)→Option (Bool × Unit):=fun (x0,()) =>
  Option.bind (qj (x0.2.2.2.2.2.1,0,24,())) fun q0=>bif q0.1 then Option.bind (qj (x0.2.2.2.2.2.2.1,0,48,())) fun q1=>bif q1.1 then Option.bind (qj (x0.2.2.2.2.2.2.2.1,1,4,())) fun q2=>bif q2.1 then Option.bind (qj (x0.2.2.2.2.2.2.2.2.1,1,16,())) fun q3=>bif q3.1 then some (true,()) else some (false,()) else some (false,()) else some (false,()) else some (false,())
abbrev zrZ:Fun:=⟨175,(ch [zy]),(ch [.bool]),0,yQ⟩
theorem zBK:Sq zrZ:=ms1 (d:=false) (K:=0) Tryz.func175 (by kernel_rfl) (funext fun (x0,())=>by kernel_rfl)
def jM:((List zg) × ((Option ((zg × Unit)→Option (Bool × Unit))) × Unit))→Option (Bool × Unit):=fun (x0,x1,()) =>
  Option.bind (zap (x0,x1,())) fun q0=>bif decide (q0.1 ≥ 0) then some (true,()) else some (false,())
abbrev zfh:Fun:=⟨176,(ch [(.sl zn),(.fn (ch [zn]) (ch [.bool]))]),(ch [.bool]),0,jM⟩
theorem zl7:Sq zfh:=ms1 (d:=false) (K:=0) Tryz.func176 (by kernel_rfl) (funext fun (x0,x1,())=>by kernel_rfl)
def zcp:((List qY) × ((Option ((qY × Unit)→Option (Bool × Unit))) × Unit))→Option (Bool × Unit):=fun (x0,x1,()) =>
  Option.bind (za9 (x0,x1,())) fun q0=>bif decide (q0.1 ≥ 0) then some (true,()) else some (false,())
abbrev zfM:Fun:=⟨178,(ch [(.sl qg),(.fn (ch [qg]) (ch [.bool]))]),(ch [.bool]),0,zcp⟩
theorem znC:Sq zfM:=ms1 (d:=false) (K:=0) Tryz.func178 (by kernel_rfl) (funext fun (x0,x1,())=>by kernel_rfl)
def zhB:(z7 × Unit)→Option (Bool × Unit):=fun (x0,()) =>
  bif x0.1 then Option.bind (zer (x0.2.1,())) fun q0=>bif q0.1 then Option.bind (zer (x0.2.2.1,())) fun q1=>bif q1.1 then Option.bind (zhd (x0.2.2.2.1,())) fun q2=>bif q2.1 then some (false,()) else some (true,()) else some (true,()) else some (true,()) else bif !eqI zW x0 (zd zW) then some (true,()) else some (false,())
abbrev zr0:Fun:=⟨180,(ch [zW]),(ch [.bool]),0,zhB⟩
theorem zBL:Sq zr0:=ms1 (d:=false) (K:=0) Tryz.func180 (by kernel_rfl) (funext fun (x0,())=>by kernel_rfl)
def zhC:((List z7) × (zL × (Int × Unit)))→Option (Int × Unit):=fun (x0,x1,x2,()) =>
  Option.bind (yh (x0,some fun z=>zeT (z.1,some x1,some x2,()),())) fun q0=>some (q0.1,())
abbrev zr1:Fun:=⟨181,(ch [(.sl zW),zC,tI]),(ch [tI]),0,zhC⟩
theorem zBM:Sq zr1:=ms1 (d:=false) (K:=0) Tryz.func181 (by kernel_rfl) (funext fun (x0,x1,x2,())=>by kernel_rfl)
def je:((List zj) × ((Option ((zj × Unit)→Option (Bool × Unit))) × Unit))→Option (Bool × Unit):=fun (x0,x1,()) =>
  Option.bind (yi (x0,x1,())) fun q0=>bif decide (q0.1 ≥ 0) then some (true,()) else some (false,())
abbrev zfN:Fun:=⟨182,(ch [(.sl zl),(.fn (ch [zl]) (ch [.bool]))]),(ch [.bool]),0,je⟩
theorem znD:Sq zfN:=ms1 (d:=false) (K:=0) Tryz.func182 (by kernel_rfl) (funext fun (x0,x1,())=>by kernel_rfl)
def jD:(qF × Unit)→Option (Bool × Unit):=fun (x0,()) =>
  bif x0.1 == 1 then Option.bind (zdn (x0.2.1,())) fun q0=>bif q0.1 then bif eqI zC x0.2.2.1 (zd zC) then some (true,()) else some (false,()) else some (false,()) else bif x0.1 == 3 then Option.bind (zdn (x0.2.1,())) fun q1=>bif q1.1 then bif eqI zC x0.2.2.1 (zd zC) then some (true,()) else some (false,()) else some (false,()) else bif x0.1 == 2 then bif x0.2.1 == 0 then Option.bind (zdn (x0.2.2.1.1,())) fun q2=>bif q2.1 then Option.bind (zdn (x0.2.2.1.2.1,())) fun q3=>bif q3.1 then some (true,()) else some (false,()) else some (false,()) else some (false,()) else some (false,())
abbrev zjD:Fun:=⟨153,(ch [qi]),(ch [.bool]),0,jD⟩
theorem zr2:Sq zjD:=ms1 (d:=false) (K:=0) Tryz.func153 (by kernel_rfl) (funext fun (x0,())=>by kernel_rfl)
def jf:((List qn) × ((Option ((qn × Unit)→Option (Bool × Unit))) × Unit))→Option (Bool × Unit):=fun (x0,x1,()) =>
  Option.bind (zba (x0,x1,())) fun q0=>bif decide (q0.1 ≥ 0) then some (true,()) else some (false,())
abbrev zfO:Fun:=⟨184,(ch [(.sl z3),(.fn (ch [z3]) (ch [.bool]))]),(ch [.bool]),0,jf⟩
theorem znE:Sq zfO:=ms1 (d:=false) (K:=0) Tryz.func184 (by kernel_rfl) (funext fun (x0,x1,())=>by kernel_rfl)
def ziI:(qn × Unit)→Option (Bool × Unit):=fun (x0,()) =>
  Option.bind (zgP (x0.2.1,())) fun q0=>bif q0.1 then Option.bind (zgP (x0.2.2.1,())) fun q1=>bif q1.1 then Option.bind (zgP (x0.2.2.2.1,())) fun q2=>bif q2.1 then some (true,()) else some (false,()) else some (false,()) else some (false,())
abbrev zoo:Fun:=⟨272,(ch [z3]),(ch [.bool]),0,ziI⟩
theorem zyb:Sq zoo:=ms1 (d:=false) (K:=0) Tryz.func272 (by kernel_rfl) (funext fun (x0,())=>by kernel_rfl)
def zeZ:(ByteArray × (ByteArray × Unit))→Option (ByteArray × Unit):=fun (x0,x1,()) =>
  bif ByteArray.toList x0 == ByteArray.toList (ByteArray.mk #[]) then some (x0,()) else bif ByteArray.toList x1 == ByteArray.toList (ByteArray.mk #[]) then some (x0,()) else bif (↑(ByteArray.size x1):Int) == 1 then bif decide (0 < (↑(ByteArray.size x1):Int)) then bif decide ((↑(UInt8.toNat (List.getD (Array.toList (ByteArray.data x1)) (Int.toNat 0) 0)):Int) < 128) then bif decide (0 < (↑(ByteArray.size x1):Int)) then Option.bind (zbh (x0,(↑(UInt8.toNat (List.getD (Array.toList (ByteArray.data x1)) (Int.toNat 0) 0)):Int),())) fun q0=>bif decide (0 < (↑(ByteArray.size x1):Int)) then Option.bind (zcl (q0.1,(↑(UInt8.toNat (List.getD (Array.toList (ByteArray.data x1)) (Int.toNat 0) 0)):Int),())) fun q1=>some (q1.1,()) else none else none else none else none else none
abbrev zop:Fun:=⟨315,(ch [.str,.str]),(ch [.str]),0,zeZ⟩
theorem zyc:Sq zop:=ms1 (d:=false) (K:=0) Tryz.func315 (by kernel_rfl) (funext fun (x0,x1,())=>by kernel_rfl)
def qV:((List zt) × ((Option ((zt × Unit)→Option (Bool × Unit))) × Unit))→Option (Bool × Unit):=fun (x0,x1,()) =>
  Option.bind (zaq (x0,x1,())) fun q0=>bif decide (q0.1 ≥ 0) then some (true,()) else some (false,())
abbrev zfi:Fun:=⟨186,(ch [(.sl zx),(.fn (ch [zx]) (ch [.bool]))]),(ch [.bool]),0,qV⟩
theorem zl8:Sq zfi:=ms1 (d:=false) (K:=0) Tryz.func186 (by kernel_rfl) (funext fun (x0,x1,())=>by kernel_rfl)
def zfP:(zku × Unit)→Option (Bool × Unit):=fun (x0,()) =>
  Option.bind (jb (x0.1,())) fun q0=>bif q0.1 then bif decide (x0.2.1 ≤ 4611686018427387904) then bif x0.2.2.1 == -1 then some (true,()) else Option.bind (zeV (x0.2.2.1,())) fun q1=>bif q1.1 then some (true,()) else some (false,()) else some (false,()) else some (false,())
abbrev ztN:Fun:=⟨276,(ch [zdi]),(ch [.bool]),0,zfP⟩
theorem zDF:Sq ztN:=ms1 (d:=false) (K:=0) Tryz.func276 (by kernel_rfl) (funext fun (x0,())=>by kernel_rfl)
def zeA:(Int × (Int × Unit))→Option (Int × (Int × Unit)):=fun (x0,x1,()) =>
  Option.bind (zcx (x0,x1,())) fun q0=>bif q0.1 != 0 then some (0,7,()) else bif decide (q0.2.1 > 4611686018427387904) then some (0,7,()) else some (q0.2.1,0,())
abbrev zr3:Fun:=⟨316,(ch [tU,tU]),(ch [tU,tI]),0,zeA⟩
theorem zBN:Sq zr3:=ms1 (d:=false) (K:=0) Tryz.func316 (by kernel_rfl) (funext fun (x0,x1,())=>by kernel_rfl)
def zdB:(zp × ((Option qI) × Unit))→Option (Bool × Unit):=fun (x0,x1,()) =>
  bif x0.1 then Option.bind x1 fun q0=>Option.bind (zbk (q0,x0.2.1,())) fun q1=>bif q1.1 then Option.bind x1 fun q2=>Option.bind (qJ (q2,x0.2.2.1,())) fun q3=>bif q3.1 then Option.bind x1 fun q4=>bif decide (x0.2.2.2.2.2.2.2.2.2.1 < ((List.length q4.2.1.2.2.2.2.1):Int)) then some (true,()) else some (false,()) else some (false,()) else some (false,()) else some (true,())
abbrev zlr:Fun:=⟨114,(ch [zo,(.ptr qa)]),(ch [.bool]),0,zdB⟩
theorem zuO:Sq zlr:=ms1 (d:=false) (K:=0) Tryz.func114 (by kernel_rfl) (funext fun (x0,x1,())=>by kernel_rfl)
def jN:((List zp) × ((Option ((zp × Unit)→Option (Bool × Unit))) × Unit))→Option (Bool × Unit):=fun (x0,x1,()) =>
  Option.bind (zar (x0,x1,())) fun q0=>bif decide (q0.1 ≥ 0) then some (true,()) else some (false,())
abbrev zfj:Fun:=⟨194,(ch [(.sl zo),(.fn (ch [zo]) (ch [.bool]))]),(ch [.bool]),0,jN⟩
theorem zl9:Sq zfj:=ms1 (d:=false) (K:=0) Tryz.func194 (by kernel_rfl) (funext fun (x0,x1,())=>by kernel_rfl)
def zaS:(zH × ((Option qI) × Unit))→Option (Bool × Unit):=fun (x0,x1,()) =>
  Option.bind x1 fun q0=>bif decide (x0.2.1 < ((List.length q0.1.2.1):Int)) then Option.bind x1 fun q1=>inR x0.2.1 ((List.length q1.1.2.1):Int) (bif x0.2.2.1 == ix (0:Int) q1.1.2.1 x0.2.1 then Option.bind x1 fun q2=>Option.bind (qJ (q2,x0.2.2.2.1,())) fun q3=>bif q3.1 then Option.bind x1 fun q4=>bif decide (x0.1 ≤ q4.2.1.1) then some (true,()) else some (false,()) else some (false,()) else some (false,())) else some (false,())
abbrev zls:Fun:=⟨118,(ch [zv,(.ptr qa)]),(ch [.bool]),0,zaS⟩
theorem zuP:Sq zls:=ms1 (d:=false) (K:=0) Tryz.func118 (by kernel_rfl) (funext fun (x0,x1,())=>by kernel_rfl)
def jO:((List zH) × ((Option ((zH × Unit)→Option (Bool × Unit))) × Unit))→Option (Bool × Unit):=fun (x0,x1,()) =>
  Option.bind (zas (x0,x1,())) fun q0=>bif decide (q0.1 ≥ 0) then some (true,()) else some (false,())
abbrev zfk:Fun:=⟨196,(ch [(.sl zv),(.fn (ch [zv]) (ch [.bool]))]),(ch [.bool]),0,jO⟩
theorem zma:Sq zfk:=ms1 (d:=false) (K:=0) Tryz.func196 (by kernel_rfl) (funext fun (x0,x1,())=>by kernel_rfl)
def vc:(Int × ((Option qI) × Unit))→Option (Bool × Unit):=fun (x0,x1,()) =>
  bif x0 == -1 then some (true,()) else Option.bind x1 fun q0=>Option.bind (qJ (q0,x0,())) fun q1=>bif q1.1 then some (true,()) else some (false,())
abbrev zlt:Fun:=⟨120,(ch [tI,(.ptr qa)]),(ch [.bool]),0,vc⟩
theorem zuQ:Sq zlt:=ms1 (d:=false) (K:=0) Tryz.func120 (by kernel_rfl) (funext fun (x0,x1,())=>by kernel_rfl)
def zfQ:(qI × (Int × (Int × Unit)))→Option (Bool × Unit):=fun (x0,x1,x2,()) =>
  Option.bind (zbk (x0,x1,())) fun q0=>bif q0.1 then Option.bind (zbk (x0,x2,())) fun q1=>bif q1.1 then inR x1 ((List.length x0.1.1):Int) (inR x2 ((List.length x0.1.1):Int) (Option.bind (jH (ix qN x0.1.1 x1,ix qN x0.1.1 x2,())) fun q2=>bif q2.1 then some (true,()) else some (false,()))) else some (false,()) else some (false,())
abbrev ztO:Fun:=⟨130,(ch [qa,tI,tI]),(ch [.bool]),0,zfQ⟩
theorem zDG:Sq ztO:=ms1 (d:=false) (K:=0) Tryz.func130 (by kernel_rfl) (funext fun (x0,x1,x2,())=>by kernel_rfl)
def j6:((List z7) × ((Option ((z7 × Unit)→Option (Bool × Unit))) × Unit))→Option (Bool × Unit):=fun (x0,x1,()) =>
  Option.bind (yh (x0,x1,())) fun q0=>bif decide (q0.1 ≥ 0) then some (true,()) else some (false,())
abbrev zfR:Fun:=⟨200,(ch [(.sl zW),(.fn (ch [zW]) (ch [.bool]))]),(ch [.bool]),0,j6⟩
theorem znF:Sq zfR:=ms1 (d:=false) (K:=0) Tryz.func200 (by kernel_rfl) (funext fun (x0,x1,())=>by kernel_rfl)
def vt:((List zL) × ((Option ((zL × Unit)→Option (Bool × Unit))) × Unit))→Option (Bool × Unit):=fun (x0,x1,()) =>
  Option.bind (zbH (x0,x1,())) fun q0=>bif decide (q0.1 ≥ 0) then some (true,()) else some (false,())
abbrev zgT:Fun:=⟨203,(ch [(.sl zC),(.fn (ch [zC]) (ch [.bool]))]),(ch [.bool]),0,vt⟩
theorem zoq:Sq zgT:=ms1 (d:=false) (K:=0) Tryz.func203 (by kernel_rfl) (funext fun (x0,x1,())=>by kernel_rfl)
def zaT:(zj × ((Option qI) × Unit))→Option (Bool × Unit):=fun (x0,x1,()) =>
  bif x0.2.2.1 != 1 then some (true,()) else Option.bind x1 fun q0=>Option.bind (qJ (q0,x0.2.2.2.1,())) fun q1=>bif q1.1 then some (true,()) else some (false,())
abbrev zlu:Fun:=⟨127,(ch [zl,(.ptr qa)]),(ch [.bool]),0,zaT⟩
theorem zuR:Sq zlu:=ms1 (d:=false) (K:=0) Tryz.func127 (by kernel_rfl) (funext fun (x0,x1,())=>by kernel_rfl)
def qw:(zt × ((Option qI) × Unit))→Option (Bool × Unit):=fun (x0,x1,()) =>
  bif x0.1 then Option.bind x1 fun q0=>Option.bind (qJ (q0,x0.2.1,())) fun q1=>bif q1.1 then Option.bind x1 fun q2=>Option.bind (qJ (q2,x0.2.2.1,())) fun q3=>bif q3.1 then some (true,()) else some (false,()) else some (false,()) else some (true,())
abbrev zlv:Fun:=⟨132,(ch [zx,(.ptr qa)]),(ch [.bool]),0,qw⟩
theorem zuS:Sq zlv:=ms1 (d:=false) (K:=0) Tryz.func132 (by kernel_rfl) (funext fun (x0,x1,())=>by kernel_rfl)
def yu:((List zt) × ((Option ((zt × Unit)→Option (Bool × Unit))) × Unit))→Option ((Option zbB) × Unit):=fun (x0,x1,()) =>
  bif Option.isNone x1 then some (none,()) else Option.bind (zdt (x0,())) fun q0=>some (some (q0.1,x1,()),())
abbrev zlw:Fun:=⟨133,(ch [(.sl zx),(.fn (ch [zx]) (ch [.bool]))]),(ch [(.ptr vD)]),0,yu⟩
theorem zuT:Sq zlw:=ms1 (d:=false) (K:=0) Tryz.func133 (by kernel_rfl) (funext fun (x0,x1,())=>by kernel_rfl)
def vK:((Option zbB) × (Int × Unit))→Option (Bool × Unit):=fun (x0,x1,()) =>
  Option.bind (zdu (x0,())) fun q0=>bif q0.1 then bif decide (x1 ≥ 0) then Option.bind x0 fun q1=>bif decide (x1 < ((List.length q1.1):Int)) then Option.bind x0 fun q2=>Option.bind x0 fun q3=>inR x1 ((List.length q3.1):Int) (Option.bind q2.2.1 fun q4=>Option.bind (q4 (ix qB q3.1 x1,())) fun q5=>bif q5.1 then some (true,()) else some (false,())) else some (false,()) else some (false,()) else some (false,())
abbrev zmM:Fun:=⟨135,(ch [(.ptr vD),tI]),(ch [.bool]),0,vK⟩
theorem zwC:Sq zmM:=ms1 (d:=false) (K:=0) Tryz.func135 (by kernel_rfl) (funext fun (x0,x1,())=>by kernel_rfl)
def zgw:((List zp) × ((Option ((zp × Unit)→Option (Bool × Unit))) × Unit))→Option ((Option zdj) × Unit):=fun (x0,x1,()) =>
  bif Option.isNone x1 then some (none,()) else Option.bind (zdv (x0,())) fun q0=>some (some (q0.1,x1,()),())
abbrev zlx:Fun:=⟨338,(ch [(.sl zo),(.fn (ch [zo]) (ch [.bool]))]),(ch [(.ptr yD)]),0,zgw⟩
theorem zuU:Sq zlx:=ms1 (d:=false) (K:=0) Tryz.func338 (by kernel_rfl) (funext fun (x0,x1,())=>by kernel_rfl)
def zea:((Option zdj) × (Int × Unit))→Option (Bool × Unit):=fun (x0,x1,()) =>
  Option.bind (zdw (x0,())) fun q0=>bif q0.1 then bif decide (x1 ≥ 0) then Option.bind x0 fun q1=>bif decide (x1 < ((List.length q1.1):Int)) then Option.bind x0 fun q2=>Option.bind x0 fun q3=>inR x1 ((List.length q3.1):Int) (Option.bind q2.2.1 fun q4=>Option.bind (q4 (ix qm q3.1 x1,())) fun q5=>bif q5.1 then some (true,()) else some (false,())) else some (false,()) else some (false,()) else some (false,())
abbrev zmN:Fun:=⟨341,(ch [(.ptr yD),tI]),(ch [.bool]),0,zea⟩
theorem zwD:Sq zmN:=ms1 (d:=false) (K:=0) Tryz.func341 (by kernel_rfl) (funext fun (x0,x1,())=>by kernel_rfl)
abbrev zeB:Type:=Int × (List Int) × Int × Int
abbrev zBO:zeB→St:=fun (v4,v9,v10,v11)=>St.mk [(4,.dat tU v4),(9,.dat (.sl tU) v9),(10,.dat tI v10),(11,.dat tI v11)] []
def zeC (k0:zeB→Option (Int × (Int × Unit))):zeB→Option (Int × (Int × Unit)):=fun (v4,v9,v10,v11) =>
  bif decide (v11 < v10) then inR v11 ((List.length v9):Int) (Option.bind (zi4 (v4,ix (0:Int) v9 v11,())) fun q0=>bif q0.2.1 != 0 then some (0,q0.2.1,()) else k0 (q0.1,v9,v10,wI (v11 + 1))) else some (v4,0,())
abbrev zr4 (K:Nat):zeB→Option (Int × (Int × Unit)):=zm zeC K
theorem zBP (K:Nat):∀ n,evV Es1 K Tryz.f211 0 (ch [tU,tI]) [1,1,0,1,0] [] zBO n = zm zeC n:=zw fun n0 (v4,v9,v10,v11)=>by kernel_rfl
def zpv (L0:zeB→Option (Int × (Int × Unit))):((List Int) × Unit)→Option (Int × (Int × Unit)):=fun (x0,()) =>
  L0 (0,x0,((List.length x0):Int),0)
def ze0:((List Int) × Unit)→Option (Int × Int × Unit):=zpv (zr4 K0)
abbrev zwE:Fun:=⟨211,(ch [(.sl tU)]),(ch [tU,tI]),0,ze0⟩
theorem zFo:Sq zwE:=ml1 (d:=false) (S:=fun K=>zpv (zr4 K)) Tryz.func211 (by kernel_rfl) (fun K=>tr1 (T:=zpv) (zBP K K) fun (x0,())=>by kernel_rfl) rfl
abbrev zbN:Type:=Int × Int × Int × Int × List zg × Nat × List (List Int) × Nat × List zp × List zH × List Int × List zg × Nat × List (List Int) × Nat × List zp × List zH × List Int
abbrev zmO:zbN→St:=fun (v44,v45,o0_0,o1_0,o2,c2,o3,c3,o4,o5,o6,o7,c7,o8,c8,o9,o10,o11)=>St.mk [(1,.bp 0 []),(2,.bp 1 []),(43,.ow 2),(44,.dat tI v44),(45,.dat tI v45)] [.bx (.fld (.pair tU (.pair (.sl zn) (.pair (.sl (.sl tI)) (.pair (.sl zo) (.pair (.sl zv) (.pair (.sl tI) .unit)))))) [.dat tU o0_0,.ow 2,.ow 3,.ow 4,.ow 5,.ow 6]) false,.bx (.fld (.pair tU (.pair (.sl zn) (.pair (.sl (.sl tI)) (.pair (.sl zo) (.pair (.sl zv) (.pair (.sl tI) .unit)))))) [.dat tU o1_0,.ow 7,.ow 8,.ow 9,.ow 10,.ow 11]) false,.drow zn o2 c2,.drow (.sl tI) o3 c3,.row zo o4 false,.row zv o5 false,.row tI o6 false,.drow zn o7 c7,.drow (.sl tI) o8 c8,.row zo o9 false,.row zv o10 false,.row tI o11 false]
abbrev zbO:Type:=Int × Int × Int × (List zg) × Int × List (List Int) × Nat × List zp × List zH × List Int × List zg × Nat × List (List Int) × Nat × List zp × List zH × List Int
abbrev zwF:zbO→St:=fun (v25,v26,o0_0,o0_1,o1_0,o2,c2,o3,o4,o5,o6,c6,o7,c7,o8,o9,o10)=>St.mk [(1,.bp 0 []),(2,.bp 1 []),(24,.ow 2),(25,.dat tI v25),(26,.dat tI v26)] [.bx (.fld (.pair tU (.pair (.sl zn) (.pair (.sl (.sl tI)) (.pair (.sl zo) (.pair (.sl zv) (.pair (.sl tI) .unit)))))) [.dat tU o0_0,.dat (.sl zn) o0_1,.ow 2,.ow 3,.ow 4,.ow 5]) false,.bx (.fld (.pair tU (.pair (.sl zn) (.pair (.sl (.sl tI)) (.pair (.sl zo) (.pair (.sl zv) (.pair (.sl tI) .unit)))))) [.dat tU o1_0,.ow 6,.ow 7,.ow 8,.ow 9,.ow 10]) false,.drow (.sl tI) o2 c2,.row zo o3 false,.row zv o4 false,.row tI o5 false,.drow zn o6 c6,.drow (.sl tI) o7 c7,.row zo o8 false,.row zv o9 false,.row tI o10 false]
def zbP (k1:zbN→Option (zb × Unit)):zbN→Option (zb × Unit):=fun (v44,v45,o0_0,o1_0,o2,c2,o3,c3,o4,o5,o6,o7,c7,o8,c8,o9,o10,o11) =>
  bif decide (v45 < v44) then inR v45 ((List.length o2):Int) (bif decide (c2 ≤ Int.toNat v45) then Option.bind (zhm ((ix zf o2 v45).1,())) fun q6=>Option.bind (zhn ((ix zf o2 v45).2.1,())) fun q7=>Option.bind (zbJ ((ix zf o2 v45).2.2.1,())) fun q8=>Option.bind (zho ((ix zf o2 v45).2.2.2.1,())) fun q9=>Option.bind (zdt ((ix zf o2 v45).2.2.2.2.1,())) fun q10=>Option.bind (zjP ((ix zf o2 v45).2.2.2.2.2.1,())) fun q11=>Option.bind (ziE ((ix zf o2 v45).2.2.2.2.2.2.1,())) fun q12=>inR v45 ((List.length o2):Int) (bif decide (Int.toNat v45 = c2) then k1 (v44,wI (v45 + 1),o0_0,o1_0,List.set o2 (Int.toNat v45) (q6.1,q7.1,q8.1,q9.1,q10.1,q11.1,q12.1,(ix zf o2 v45).2.2.2.2.2.2.2.1,(ix zf o2 v45).2.2.2.2.2.2.2.2.1,()),c2 + 1,o3,c3,o4,o5,o6,o7,c7,o8,c8,o9,o10,o11) else none) else none) else bif decide (c2 = List.length o2) then bif decide (c3 = List.length o3) then some ((o0_0,o2,o3,o4,o5,o6,()),()) else none else none
abbrev zbQ (K:Nat):zbN→Option (zb × Unit):=zm zbP K
theorem zwG (K:Nat):∀ n,evV Ed1 K Tryz.f6 3 (ch [zq]) [1,1,1,1,1,0,1,0] [] zmO n = zm zbP n:=zw fun n1 (v44,v45,o0_0,o1_0,o2,c2,o3,c3,o4,o5,o6,o7,c7,o8,c8,o9,o10,o11)=>by kernel_rfl
def yX (L1:zbN→Option (zb × Unit)) (k0:zbO→Option (zb × Unit)):zbO→Option (zb × Unit):=fun (v25,v26,o0_0,o0_1,o1_0,o2,c2,o3,o4,o5,o6,c6,o7,c7,o8,o9,o10) =>
  bif decide (v26 < v25) then inR v26 ((List.length o2):Int) (bif decide (c2 ≤ Int.toNat v26) then Option.bind (zeW (List.getD o2 (Int.toNat v26) ([]:List Int),())) fun q4=>inR v26 ((List.length o2):Int) (bif decide (Int.toNat v26 = c2) then k0 (v25,wI (v26 + 1),o0_0,o0_1,o1_0,List.set o2 (Int.toNat v26) q4.1,c2 + 1,o3,o4,o5,o6,c6,o7,c7,o8,o9,o10) else none) else none) else Option.bind (zgn (o0_1,())) fun q5=>L1 (((List.length q5.1):Int),0,o0_0,o1_0,q5.1,0,o2,c2,o3,o4,o5,o6,c6,o7,c7,o8,o9,o10)
abbrev zhD (K:Nat):zbO→Option (zb × Unit):=zm (fun k0=>yX (zbQ K) k0) K
theorem zwH (K:Nat):∀ n,evV Ed1 K Tryz.f6 3 (ch [zq]) [1,1,1,0,1,0] [] zwF n = zm (fun k0=>yX (zbQ K) k0) n:=zdb (B:=fun L1 k0=>yX L1 k0) (V1:=fun n0=>evV Ed1 K Tryz.f6 3 (ch [zq]) [1,1,1,1,1,0,1,0] [] zmO K) (W1:=fun k0=>(zbQ K)) (fun n0=>zwG K K) fun n0 (v25,v26,o0_0,o0_1,o1_0,o2,c2,o3,o4,o5,o6,c6,o7,c7,o8,o9,o10)=>by kernel_rfl
def zf6 (L0:zbO→Option (zb × Unit)):(zb × Unit)→Option (zb × Unit):=fun (x0,()) =>
  Option.bind (zdv (x0.2.2.2.1,())) fun q0=>Option.bind (zgm (x0.2.2.2.2.1,())) fun q1=>Option.bind (zeW (x0.2.2.2.2.2.1,())) fun q2=>Option.bind (zhl (x0.2.2.1,())) fun q3=>L0 (((List.length q3.1):Int),0,x0.1,x0.2.1,0,q3.1,0,q0.1,q1.1,q2.1,[],0,[],0,[],[],[])
def vY:(zb × Unit)→Option (zb × Unit):=zf6 (zhD K0)
abbrev zqc:Fun:=⟨6,(ch [zq]),(ch [zq]),3,vY⟩
theorem zzM:Sq zqc:=ml1 (d:=true) (S:=fun K=>zf6 (zhD K)) Tryz.func6 (by kernel_rfl) (fun K=>tr1 (T:=zf6) (zwH K K) fun (x0,())=>by kernel_rfl) rfl
def zhE:((List zj) × ((Option ((zj × Unit)→Option (Bool × Unit))) × Unit))→Option ((Option zbC) × Unit):=fun (x0,x1,()) =>
  bif Option.isNone x1 then some (none,()) else Option.bind (zbJ (x0,())) fun q0=>some (some (q0.1,x1,()),())
abbrev zmP:Fun:=⟨228,(ch [(.sl zl),(.fn (ch [zl]) (ch [.bool]))]),(ch [(.ptr vW)]),0,zhE⟩
theorem zwI:Sq zmP:=ms1 (d:=false) (K:=0) Tryz.func228 (by kernel_rfl) (funext fun (x0,x1,())=>by kernel_rfl)
def zdC:((Option zbC) × Unit)→Option (Int × (Int × Unit)):=fun (x0,()) =>
  Option.bind (zbK (x0,())) fun q0=>bif q0.1 then Option.bind x0 fun q1=>Option.bind (yi (q1.1,some fun z=>zjx (z.1,some x0,()),())) fun q2=>bif decide (q2.1 < 0) then some (0,8,()) else some (q2.1,0,()) else some (0,11,())
abbrev zly:Fun:=⟨230,(ch [(.ptr vW)]),(ch [tI,tI]),0,zdC⟩
theorem zuV:Sq zly:=ms1 (d:=false) (K:=0) Tryz.func230 (by kernel_rfl) (funext fun (x0,())=>by kernel_rfl)
def zaG:((Option zbC) × (Int × (zj × Unit)))→Option ((List zj) × (Int × Unit)):=fun (x0,x1,x2,()) =>
  Option.bind (zbK (x0,())) fun q0=>bif q0.1 then bif decide (x1 < 0) then some ([],1,()) else Option.bind x0 fun q1=>bif decide (x1 ≥ ((List.length q1.1):Int)) then some ([],1,()) else Option.bind x0 fun q2=>Option.bind (zbJ (q2.1,())) fun q3=>inR x1 ((List.length q3.1):Int) (some (List.set q3.1 (Int.toNat x1) x2,0,())) else some ([],11,())
abbrev zor:Fun:=⟨159,(ch [(.ptr vW),tI,zl]),(ch [(.sl zl),tI]),0,zaG⟩
theorem zyd:Sq zor:=ms1 (d:=false) (K:=0) Tryz.func159 (by kernel_rfl) (funext fun (x0,x1,x2,())=>by kernel_rfl)
def ze1:((Option zbC) × (Int × Unit))→Option (Bool × Unit):=fun (x0,x1,()) =>
  Option.bind (zbK (x0,())) fun q0=>bif q0.1 then bif decide (x1 ≥ 0) then Option.bind x0 fun q1=>bif decide (x1 < ((List.length q1.1):Int)) then Option.bind x0 fun q2=>Option.bind x0 fun q3=>inR x1 ((List.length q3.1):Int) (Option.bind q2.2.1 fun q4=>Option.bind (q4 (ix zO q3.1 x1,())) fun q5=>bif q5.1 then some (true,()) else some (false,())) else some (false,()) else some (false,()) else some (false,())
abbrev zos:Fun:=⟨231,(ch [(.ptr vW),tI]),(ch [.bool]),0,ze1⟩
theorem zye:Sq zos:=ms1 (d:=false) (K:=0) Tryz.func231 (by kernel_rfl) (funext fun (x0,x1,())=>by kernel_rfl)
abbrev zbR:Type:=(List zj) × Int × Int × qF × List Int
abbrev zwJ:zbR→St:=fun (v8,v9,v10,o0,o1)=>St.mk [(3,.bp 0 []),(5,.ow 1),(8,.dat (.sl zl) v8),(9,.dat tI v9),(10,.dat tI v10)] [.bx (.dat qi o0) false,.row tI o1 false]
def zmQ (k0:zbR→Option ((List Int) × Unit)):zbR→Option ((List Int) × Unit):=fun (v8,v9,v10,o0,o1) =>
  bif decide (v10 < v9) then inR v10 ((List.length v8):Int) (bif (ix zO v8 v10).1 then Option.bind (zeU (ix zO v8 v10,())) fun q0=>bif eqI qi q0.1 o0 then bif decide (List.length o1 + List.length (zi (List.replicate 1 (0:Int)) 0 v10) ≤ lim) then k0 (v8,v9,wI (v10 + 1),o0,o1 ++ zi (List.replicate 1 (0:Int)) 0 v10) else none else k0 (v8,v9,wI (v10 + 1),o0,o1) else k0 (v8,v9,wI (v10 + 1),o0,o1)) else some (o1,())
abbrev zmR (K:Nat):zbR→Option ((List Int) × Unit):=zm zmQ K
theorem zwK (K:Nat):∀ n,evV Es1 K Tryz.f89 0 (ch [(.sl tI)]) [1,1,0,1,0] [] zwJ n = zm zmQ n:=zw fun n0 (v8,v9,v10,o0,o1)=>by kernel_rfl
def zjS (L0:zbR→Option ((List Int) × Unit)):((List zj) × (qF × Unit))→Option ((List Int) × Unit):=fun (x0,x1,()) =>
  L0 (x0,((List.length x0):Int),0,x1,[])
def zjT:((List zj) × qF × Unit)→Option ((List Int) × Unit):=zjS (zmR K0)
abbrev zqd:Fun:=⟨89,(ch [(.sl zl),qi]),(ch [(.sl tI)]),0,zjT⟩
theorem zzN:Sq zqd:=ml1 (d:=false) (S:=fun K=>zjS (zmR K)) Tryz.func89 (by kernel_rfl) (fun K=>tr1 (T:=zjS) (zwK K K) fun (x0,x1,())=>by kernel_rfl) rfl
def zbm:(Int × ((Option ze) × ((Option zD) × Unit)))→Option (Bool × Unit):=fun (x0,x1,x2,()) =>
  Option.bind x1 fun q0=>inR x0 ((List.length q0.1):Int) (Option.bind x2 fun q1=>Option.bind (jH (ix qN q0.1 x0,q1,())) fun q2=>bif q2.1 then some (true,()) else some (false,()))
abbrev zqe:Fun:=⟨140,(ch [tI,(.ptr zy),(.ptr zB)]),(ch [.bool]),0,zbm⟩
theorem zzO:Sq zqe:=ms1 (d:=false) (K:=0) Tryz.func140 (by kernel_rfl) (funext fun (x0,x1,x2,())=>by kernel_rfl)
def zf7:(Int × ((Option ze) × ((Option zD) × Unit)))→Option (Bool × Unit):=fun (x0,x1,x2,()) =>
  Option.bind x1 fun q0=>inR x0 ((List.length q0.2.2.2.1):Int) (Option.bind (zeq ((ix qO q0.2.2.2.1 x0).1,())) fun q1=>Option.bind x2 fun q2=>Option.bind (jH (q1.1,q2,())) fun q3=>bif q3.1 then some (true,()) else some (false,()))
abbrev zqf:Fun:=⟨141,(ch [tI,(.ptr zy),(.ptr zB)]),(ch [.bool]),0,zf7⟩
theorem zzP:Sq zqf:=ms1 (d:=false) (K:=0) Tryz.func141 (by kernel_rfl) (funext fun (x0,x1,x2,())=>by kernel_rfl)
def vU:(zg × (zg × Unit))→Option (Bool × Unit):=fun (x0,x1,()) =>
  Option.bind (zhs (x0.1,x1.1,())) fun q0=>bif q0.1 then Option.bind (zhu (x0.2.1,x1.2.1,())) fun q1=>bif q1.1 then Option.bind (zhw (x0.2.2.1,x1.2.2.1,())) fun q2=>bif q2.1 then Option.bind (zhy (x0.2.2.2.1,x1.2.2.2.1,())) fun q3=>bif q3.1 then Option.bind (zgp (x0.2.2.2.2.1,x1.2.2.2.2.1,())) fun q4=>bif q4.1 then Option.bind (zjR (x0.2.2.2.2.2.1,x1.2.2.2.2.2.1,())) fun q5=>bif q5.1 then Option.bind (ziG (x0.2.2.2.2.2.2.1,x1.2.2.2.2.2.2.1,())) fun q6=>bif q6.1 then bif eqI (.arr 4 tU) x0.2.2.2.2.2.2.2.1 x1.2.2.2.2.2.2.2.1 then bif eqI (.arr 4 tU) x0.2.2.2.2.2.2.2.2.1 x1.2.2.2.2.2.2.2.2.1 then some (true,()) else some (false,()) else some (false,()) else some (false,()) else some (false,()) else some (false,()) else some (false,()) else some (false,()) else some (false,()) else some (false,())
abbrev zkj:Fun:=⟨148,(ch [zn,zn]),(ch [.bool]),0,vU⟩
theorem ztn:Sq zkj:=ms1 (d:=false) (K:=0) Tryz.func148 (by kernel_rfl) (funext fun (x0,x1,())=>by kernel_rfl)
abbrev L2:List Fun:=zlp :: zfg :: zki :: zhA :: zmL :: zgS :: zfL :: zon :: zd9 :: zio :: zlq :: zrZ :: zfh :: zfM :: zr0 :: zr1 :: zfN :: zjD :: zfO :: zoo :: zop :: zfi :: ztN :: zr3 :: zlr :: zfj :: zls :: zfk :: zlt :: ztO :: zfR :: zgT :: zlu :: zlv :: zlw :: zmM :: zlx :: zmN :: zwE :: zqc :: zmP :: zly :: zor :: zos :: zqd :: zqe :: zqf :: zkj :: L1
theorem h2:Sds Tryz.prog E0 L2:=⟨zuM,zl6,ztm,zpu,zwB,zom,znB,zya,zky,zqZ,zuN,zBK,zl7,znC,zBL,zBM,znD,zr2,znE,zyb,zyc,zl8,zDF,zBN,zuO,zl9,zuP,zma,zuQ,zDG,znF,zoq,zuR,zuS,zuT,zwC,zuU,zwD,zFo,zzM,zwI,zuV,zyd,zye,zzN,zzO,zzP,ztn,h1⟩
theorem ms2 {d:Bool} {F:Fun} {f:Go.Func} {K:Nat} (hf:Tryz.prog.funcs[F.id]? = some f) (ho:qX f = true) (h:evF (En E0 d L2) K f F.md F.a F.r = F.spec):Sd Tryz.prog E0 F:=mkS h2 hf ho h
theorem ml2 {d:Bool} {F:Fun} {f:Go.Func} {S:Nat→F.a.I→Option F.r.I} (hf:Tryz.prog.funcs[F.id]? = some f) (ho:qX f = true) (h:∀ K,evF (En E0 d L2) K f F.md F.a F.r = S K) (e:S K0 = F.spec):Sd Tryz.prog E0 F:=mkS h2 hf ho ((h K0).trans e)
abbrev Es2:Env:=En E0 false L2
def zi6:(zD × (zD × Unit))→Option (Int × Unit):=fun (x0,x1,()) =>
  Option.bind (zai (x0.1,x1.1,())) fun q0=>Option.bind (vJ (x0.2.1,x1.2.1,())) fun q1=>Option.bind (zcK (zi (zi (List.replicate 2 (0:Int)) 0 q0.1) 1 q1.1,())) fun q2=>some (q2.1,())
abbrev ztP:Fun:=⟨254,(ch [zB,zB]),(ch [tI]),0,zi6⟩
theorem zDH:Sq ztP:=ms2 (d:=false) (K:=0) Tryz.func254 (by kernel_rfl) (funext fun (x0,x1,())=>by kernel_rfl)
def vZ:(ze × Unit)→Option (Bool × Unit):=fun (x0,()) =>
  Option.bind (qj (((List.length x0.2.1):Int),1,8,())) fun q0=>bif q0.1 then Option.bind (qy (x0.2.1,some fun z=>zbM (z.1,some x0,()),())) fun q1=>bif q1.1 then some (false,()) else some (true,()) else some (false,())
abbrev zqg:Fun:=⟨171,(ch [zy]),(ch [.bool]),0,vZ⟩
theorem zzQ:Sq zqg:=ms2 (d:=false) (K:=0) Tryz.func171 (by kernel_rfl) (funext fun (x0,())=>by kernel_rfl)
def zkz:(ByteArray × ((Option ((Int × Unit)→Option (Bool × Unit))) × Unit))→Option (Bool × Unit):=fun (x0,x1,()) =>
  Option.bind (j5 (List.map (fun b=>(↑(UInt8.toNat b):Int)) (Array.toList (ByteArray.data x0)),some fun z=>zg9 (z.1,some x1,()),())) fun q0=>bif q0.1 then some (false,()) else some (true,())
abbrev zwL:Fun:=⟨225,(ch [.str,(.fn (ch [(.int .u8)]) (ch [.bool]))]),(ch [.bool]),0,zkz⟩
theorem zFp:Sq zwL:=ms2 (d:=false) (K:=0) Tryz.func225 (by kernel_rfl) (funext fun (x0,x1,())=>by kernel_rfl)
abbrev zaU:Type:=Int × (List zL) × Int × Int × ze × Int
abbrev zuW:zaU→St:=fun (v4,v11,v12,v13,o0,o1)=>St.mk [(1,.bp 0 []),(3,.bp 1 []),(4,.dat tI v4),(11,.dat (.sl yK) v11),(12,.dat tI v12),(13,.dat tI v13)] [.bx (.dat zy o0) false,.bx (.dat tU o1) false]
def zaV (k0:zaU→Option (Bool × Unit)):zaU→Option (Bool × Unit):=fun (v4,v11,v12,v13,o0,o1) =>
  bif decide (v13 < v12) then inR v13 ((List.length v11):Int) (Option.bind (zeq ((ix qO v11 v13).1,())) fun q0=>bif q0.2.1 != 0 then some (false,()) else bif decide ((ix qO v11 v13).1 ≤ v4) then some (false,()) else Option.bind (qj ((ix qO v11 v13).2.1,0,wI (((List.length o0.2.2.1):Int) - 1),())) fun q1=>bif q1.1 then Option.bind (zbe (o0.1,q0.1,())) fun q2=>bif q2.1 then k0 ((ix qO v11 v13).1,v11,v12,wI (v13 + 1),o0,wU (↑(BitVec.toNat (BitVec.ofInt (IntKind.bits IntKind.u64) o1 ||| BitVec.ofInt (IntKind.bits IntKind.u64) q0.1.2.1)):Int)) else some (false,()) else some (false,())) else bif decide (((List.length o0.2.2.2.1):Int) ≤ 8) then Option.bind (yb (o0.1,some fun z=>zgl (z.1,some o1,()),())) fun q3=>bif q3.1 then some (false,()) else some (true,()) else some (false,())
abbrev zlz (K:Nat):zaU→Option (Bool × Unit):=zm zaV K
theorem zuX (K:Nat):∀ n,evV Es2 K Tryz.f173 0 (ch [.bool]) [1,1,1,0,1,0] [] zuW n = zm zaV n:=zw fun n0 (v4,v11,v12,v13,o0,o1)=>by kernel_rfl
def ziJ (L0:zaU→Option (Bool × Unit)):(ze × Unit)→Option (Bool × Unit):=fun (x0,()) =>
  L0 ((-1),x0.2.2.2.1,((List.length x0.2.2.2.1):Int),0,x0,0)
def vu:(ze × Unit)→Option (Bool × Unit):=ziJ (zlz K0)
abbrev zot:Fun:=⟨173,(ch [zy]),(ch [.bool]),0,vu⟩
theorem zyf:Sq zot:=ml2 (d:=false) (S:=fun K=>ziJ (zlz K)) Tryz.func173 (by kernel_rfl) (fun K=>tr1 (T:=ziJ) (zuX K K) fun (x0,())=>by kernel_rfl) rfl
abbrev zaW:Type:=Int × (List zbA) × Int × Int
abbrev zuY:zaW→St:=fun (v3,v23,v24,v25)=>St.mk [(3,.dat tU v3),(23,.dat (.sl zcI) v23),(24,.dat tI v24),(25,.dat tI v25)] []
def zdD (k0:zaW→Option (Bool × Unit)):zaW→Option (Bool × Unit):=fun (v3,v23,v24,v25) =>
  bif decide (v25 < v24) then inR v25 ((List.length v23):Int) (bif decide ((ix jU v23 v25).2.2.2.2.2.1 > v3) then some (false,()) else Option.bind (zhb (ix jU v23 v25,())) fun q0=>Option.bind (qy (q0.1,some zdA,())) fun q1=>bif q1.1 then some (false,()) else k0 (wU (v3 - (ix jU v23 v25).2.2.2.2.2.1),v23,v24,wI (v25 + 1))) else some (true,())
abbrev zgx (K:Nat):zaW→Option (Bool × Unit):=zm zdD K
theorem zuZ (K:Nat):∀ n,evV Es2 K Tryz.f174 0 (ch [.bool]) [1,1,1,0,1,0] [] zuY n = zm zdD n:=zw fun n0 (v3,v23,v24,v25)=>by kernel_rfl
def ze2 (L0:zaW→Option (Bool × Unit)):(ze × Unit)→Option (Bool × Unit):=fun (x0,()) =>
  bif ((List.length x0.2.2.2.2.1):Int) != ((List.length x0.1):Int) then some (false,()) else bif decide (0 < ((List.length x0.2.2.2.2.1):Int)) then bif decide ((ix jU x0.2.2.2.2.1 0).1 < 1) then some (false,()) else L0 (4611686018427387904,x0.2.2.2.2.1,((List.length x0.2.2.2.2.1):Int),0) else none
def vv:(ze × Unit)→Option (Bool × Unit):=ze2 (zgx K0)
abbrev zou:Fun:=⟨174,(ch [zy]),(ch [.bool]),0,vv⟩
theorem zyg:Sq zou:=ml2 (d:=false) (S:=fun K=>ze2 (zgx K)) Tryz.func174 (by kernel_rfl) (fun K=>tr1 (T:=ze2) (zuZ K K) fun (x0,())=>by kernel_rfl) rfl
def zft:((List zg) × ((Option ((zg × Unit)→Option (Bool × Unit))) × Unit))→Option (Bool × Unit):=fun (x0,x1,()) =>
  Option.bind (jM (x0,some fun z=>za8 (z.1,some x1,()),())) fun q0=>bif q0.1 then some (false,()) else some (true,())
abbrev zkk:Fun:=⟨102,(ch [(.sl zn),(.fn (ch [zn]) (ch [.bool]))]),(ch [.bool]),0,zft⟩
theorem zto:Sq zkk:=ms2 (d:=false) (K:=0) Tryz.func102 (by kernel_rfl) (funext fun (x0,x1,())=>by kernel_rfl)
abbrev zcV:Type:=(List z7) × (List z7) × Int × Int
abbrev zyh:zcV→St:=fun (v0,v5,v6,v7)=>St.mk [(0,.dat (.sl zW) v0),(5,.dat (.sl zW) v5),(6,.dat tI v6),(7,.dat tI v7)] []
def zcW (k0:zcV→Option (Bool × Unit)):zcV→Option (Bool × Unit):=fun (v0,v5,v6,v7) =>
  bif decide (v7 < v6) then inR v7 ((List.length v5):Int) (Option.bind (zhB (ix vC v5 v7,())) fun q0=>bif q0.1 then some (false,()) else bif (ix vC v5 v7).1 then Option.bind (zhC (v0,(ix vC v5 v7).2.1,(ix vC v5 v7).2.2.2.1,())) fun q1=>bif q1.1 != v7 then some (false,()) else k0 (v0,v5,v6,wI (v7 + 1)) else k0 (v0,v5,v6,wI (v7 + 1))) else some (true,())
abbrev zov (K:Nat):zcV→Option (Bool × Unit):=zm zcW K
theorem zyi (K:Nat):∀ n,evV Es2 K Tryz.f105 0 (ch [.bool]) [1,0,1,0] [] zyh n = zm zcW n:=zw fun n0 (v0,v5,v6,v7)=>by kernel_rfl
def zlA (L0:zcV→Option (Bool × Unit)):((List z7) × Unit)→Option (Bool × Unit):=fun (x0,()) =>
  L0 (x0,x0,((List.length x0):Int),0)
def zlB:((List z7) × Unit)→Option (Bool × Unit):=zlA (zov K0)
abbrev zr5:Fun:=⟨105,(ch [(.sl zW)]),(ch [.bool]),0,zlB⟩
theorem zBQ:Sq zr5:=ml2 (d:=false) (S:=fun K=>zlA (zov K)) Tryz.func105 (by kernel_rfl) (fun K=>tr1 (T:=zlA) (zyi K K) fun (x0,())=>by kernel_rfl) rfl
def zi7:(zt × Unit)→Option (Bool × Unit):=fun (x0,()) =>
  Option.bind (zeV (x0.2.1,())) fun q0=>bif q0.1 then Option.bind (zeV (x0.2.2.1,())) fun q1=>bif q1.1 then bif x0.2.1 != x0.2.2.1 then Option.bind (zfP (x0.2.2.2.1,())) fun q2=>bif q2.1 then Option.bind (zfP (x0.2.2.2.2.1,())) fun q3=>bif q3.1 then Option.bind (zet (x0.2.2.2.1,())) fun q4=>bif q4.1 then Option.bind (zet (x0.2.2.2.2.1,())) fun q5=>bif q5.1 then some (false,()) else some (true,()) else some (true,()) else some (false,()) else some (false,()) else some (false,()) else some (false,()) else some (false,())
abbrev ztQ:Fun:=⟨188,(ch [zx]),(ch [.bool]),0,zi7⟩
theorem zDI:Sq ztQ:=ms2 (d:=false) (K:=0) Tryz.func188 (by kernel_rfl) (funext fun (x0,())=>by kernel_rfl)
def zfS:(Int × (Int × (Int × Unit)))→Option (Int × (Int × Unit)):=fun (x0,x1,x2,()) =>
  bif x0 != 1 then bif x0 != 2 then some (0,1,()) else bif x1 == 0 then some (0,1,()) else bif x2 == 0 then some (0,1,()) else Option.bind (zeA (x1,x2,())) fun q0=>bif q0.2.1 != 0 then some (0,q0.2.1,()) else bif x0 == 2 then some (x1,0,()) else some (q0.1,0,()) else bif x1 == 0 then some (0,1,()) else bif x2 == 0 then some (0,1,()) else Option.bind (zeA (x1,x2,())) fun q1=>bif q1.2.1 != 0 then some (0,q1.2.1,()) else bif x0 == 2 then some (x1,0,()) else some (q1.1,0,())
abbrev ztR:Fun:=⟨279,(ch [tI,tU,tU]),(ch [tU,tI]),0,zfS⟩
theorem zDJ:Sq ztR:=ms2 (d:=false) (K:=0) Tryz.func279 (by kernel_rfl) (funext fun (x0,x1,x2,())=>by kernel_rfl)
def zf8:(zH × (zH × Unit))→Option (Int × Unit):=fun (x0,x1,()) =>
  Option.bind (vJ (x0.1,x1.1,())) fun q0=>Option.bind (zai (x0.2.1,x1.2.1,())) fun q1=>Option.bind (zcK (zi (zi (List.replicate 2 (0:Int)) 0 q0.1) 1 q1.1,())) fun q2=>some (q2.1,())
abbrev zqh:Fun:=⟨193,(ch [zv,zv]),(ch [tI]),0,zf8⟩
theorem zzR:Sq zqh:=ms2 (d:=false) (K:=0) Tryz.func193 (by kernel_rfl) (funext fun (x0,x1,())=>by kernel_rfl)
def zfu:((List zp) × ((Option ((zp × Unit)→Option (Bool × Unit))) × Unit))→Option (Bool × Unit):=fun (x0,x1,()) =>
  Option.bind (jN (x0,some fun z=>zbb (z.1,some x1,()),())) fun q0=>bif q0.1 then some (false,()) else some (true,())
abbrev zkl:Fun:=⟨113,(ch [(.sl zo),(.fn (ch [zo]) (ch [.bool]))]),(ch [.bool]),0,zfu⟩
theorem ztp:Sq zkl:=ms2 (d:=false) (K:=0) Tryz.func113 (by kernel_rfl) (funext fun (x0,x1,())=>by kernel_rfl)
def zcA:((List zH) × ((Option ((zH × Unit)→Option (Bool × Unit))) × Unit))→Option (Bool × Unit):=fun (x0,x1,()) =>
  Option.bind (jO (x0,some fun z=>zbc (z.1,some x1,()),())) fun q0=>bif q0.1 then some (false,()) else some (true,())
abbrev zkm:Fun:=⟨117,(ch [(.sl zv),(.fn (ch [zv]) (ch [.bool]))]),(ch [.bool]),0,zcA⟩
theorem ztq:Sq zkm:=ms2 (d:=false) (K:=0) Tryz.func117 (by kernel_rfl) (funext fun (x0,x1,())=>by kernel_rfl)
def yY:((List Int) × ((Option ((Int × Unit)→Option (Bool × Unit))) × Unit))→Option (Bool × Unit):=fun (x0,x1,()) =>
  Option.bind (qy (x0,some fun z=>zcy (z.1,some x1,()),())) fun q0=>bif q0.1 then some (false,()) else some (true,())
abbrev zmS:Fun:=⟨119,(ch [(.sl tI),(.fn (ch [tI]) (ch [.bool]))]),(ch [.bool]),0,yY⟩
theorem zwM:Sq zmS:=ms2 (d:=false) (K:=0) Tryz.func119 (by kernel_rfl) (funext fun (x0,x1,())=>by kernel_rfl)
def vL:(zL × ((Option qI) × ((Option Int) × Unit)))→Option (Bool × Unit):=fun (x0,x1,x2,()) =>
  Option.bind x1 fun q0=>Option.bind (zdH (q0.2.1,x0,())) fun q1=>bif q1.1 then Option.bind x1 fun q2=>Option.bind x2 fun q3=>Option.bind (zfQ (q2,x0.1,q3,())) fun q4=>bif q4.1 then some (true,()) else some (false,()) else some (false,())
abbrev zmT:Fun:=⟨199,(ch [zC,(.ptr qa),(.ptr tI)]),(ch [.bool]),0,vL⟩
theorem zwN:Sq zmT:=ms2 (d:=false) (K:=0) Tryz.func199 (by kernel_rfl) (funext fun (x0,x1,x2,())=>by kernel_rfl)
def zgy:((List z7) × ((Option ((z7 × Unit)→Option (Bool × Unit))) × Unit))→Option (Bool × Unit):=fun (x0,x1,()) =>
  Option.bind (j6 (x0,some fun z=>zbE (z.1,some x1,()),())) fun q0=>bif q0.1 then some (false,()) else some (true,())
abbrev zlC:Fun:=⟨122,(ch [(.sl zW),(.fn (ch [zW]) (ch [.bool]))]),(ch [.bool]),0,zgy⟩
theorem zu0:Sq zlC:=ms2 (d:=false) (K:=0) Tryz.func122 (by kernel_rfl) (funext fun (x0,x1,())=>by kernel_rfl)
def yw:((List zj) × ((Option ((zj × Unit)→Option (Bool × Unit))) × Unit))→Option (Bool × Unit):=fun (x0,x1,()) =>
  Option.bind (je (x0,some fun z=>zbG (z.1,some x1,()),())) fun q0=>bif q0.1 then some (false,()) else some (true,())
abbrev zlD:Fun:=⟨124,(ch [(.sl zl),(.fn (ch [zl]) (ch [.bool]))]),(ch [.bool]),0,yw⟩
theorem zu1:Sq zlD:=ms2 (d:=false) (K:=0) Tryz.func124 (by kernel_rfl) (funext fun (x0,x1,())=>by kernel_rfl)
def zhF:((List zL) × ((Option ((zL × Unit)→Option (Bool × Unit))) × Unit))→Option (Bool × Unit):=fun (x0,x1,()) =>
  Option.bind (vt (x0,some fun z=>zcz (z.1,some x1,()),())) fun q0=>bif q0.1 then some (false,()) else some (true,())
abbrev zmU:Fun:=⟨126,(ch [(.sl zC),(.fn (ch [zC]) (ch [.bool]))]),(ch [.bool]),0,zhF⟩
theorem zwO:Sq zmU:=ms2 (d:=false) (K:=0) Tryz.func126 (by kernel_rfl) (funext fun (x0,x1,())=>by kernel_rfl)
def vd:(qn × ((Option qI) × ((Option Int) × Unit)))→Option (Bool × Unit):=fun (x0,x1,x2,()) =>
  bif x0.1 then Option.bind x1 fun q0=>Option.bind x2 fun q1=>Option.bind (zfQ (q0,x0.2.1,q1,())) fun q2=>bif q2.1 then Option.bind x1 fun q3=>Option.bind (qJ (q3,x0.2.2.1,())) fun q4=>bif q4.1 then Option.bind x1 fun q5=>Option.bind (qJ (q5,x0.2.2.2.1,())) fun q6=>bif q6.1 then some (true,()) else some (false,()) else some (false,()) else some (false,()) else some (true,())
abbrev zlE:Fun:=⟨129,(ch [z3,(.ptr qa),(.ptr tI)]),(ch [.bool]),0,vd⟩
theorem zu2:Sq zlE:=ms2 (d:=false) (K:=0) Tryz.func129 (by kernel_rfl) (funext fun (x0,x1,x2,())=>by kernel_rfl)
def yx:((List qn) × ((Option ((qn × Unit)→Option (Bool × Unit))) × Unit))→Option (Bool × Unit):=fun (x0,x1,()) =>
  Option.bind (jf (x0,some fun z=>zbI (z.1,some x1,()),())) fun q0=>bif q0.1 then some (false,()) else some (true,())
abbrev zlF:Fun:=⟨128,(ch [(.sl z3),(.fn (ch [z3]) (ch [.bool]))]),(ch [.bool]),0,yx⟩
theorem zu3:Sq zlF:=ms2 (d:=false) (K:=0) Tryz.func128 (by kernel_rfl) (funext fun (x0,x1,())=>by kernel_rfl)
def qA:((List zt) × ((Option ((zt × Unit)→Option (Bool × Unit))) × Unit))→Option (Bool × Unit):=fun (x0,x1,()) =>
  Option.bind (qV (x0,some fun z=>zbd (z.1,some x1,()),())) fun q0=>bif q0.1 then some (false,()) else some (true,())
abbrev zkn:Fun:=⟨131,(ch [(.sl zx),(.fn (ch [zx]) (ch [.bool]))]),(ch [.bool]),0,qA⟩
theorem ztr:Sq zkn:=ms2 (d:=false) (K:=0) Tryz.func131 (by kernel_rfl) (funext fun (x0,x1,())=>by kernel_rfl)
abbrev yl:Type:=(Option zbB) × Int × Int × List Int
abbrev zq0:yl→St:=fun (v0,v12,v13,o0)=>St.mk [(0,.dat (.ptr vD) v0),(3,.ow 0),(12,.dat tI v12),(13,.dat tI v13)] [.row tI o0 false]
def ym (k0:yl→Option ((List Int) × Unit)):yl→Option ((List Int) × Unit):=fun (v0,v12,v13,o0) =>
  bif decide (v13 < v12) then Option.bind (vK (v0,v13,())) fun q2=>bif q2.1 then bif decide (List.length o0 + List.length (zi (List.replicate 1 (0:Int)) 0 v13) ≤ lim) then k0 (v0,v12,wI (v13 + 1),o0 ++ zi (List.replicate 1 (0:Int)) 0 v13) else none else k0 (v0,v12,wI (v13 + 1),o0) else some (o0,())
abbrev ziq (K:Nat):yl→Option ((List Int) × Unit):=zm ym K
theorem zq1 (K:Nat):∀ n,evV Es2 K Tryz.f136 0 (ch [(.sl tI)]) [1,1,1,0,1,0] [] zq0 n = zm ym n:=zw fun n0 (v0,v12,v13,o0)=>by kernel_rfl
def zfv (L0:yl→Option ((List Int) × Unit)):((Option zbB) × Unit)→Option ((List Int) × Unit):=fun (x0,()) =>
  Option.bind (zdu (x0,())) fun q0=>bif q0.1 then Option.bind x0 fun q1=>L0 (x0,((List.length q1.1):Int),0,[]) else some ([],())
def zcC:((Option zbB) × Unit)→Option ((List Int) × Unit):=zfv (ziq K0)
abbrev zko:Fun:=⟨136,(ch [(.ptr vD)]),(ch [(.sl tI)]),0,zcC⟩
theorem zts:Sq zko:=ml2 (d:=false) (S:=fun K=>zfv (ziq K)) Tryz.func136 (by kernel_rfl) (fun K=>tr1 (T:=zfv) (zq1 K K) fun (x0,())=>by kernel_rfl) rfl
def zkA:((List zp) × Unit)→Option ((Option zdj) × Unit):=fun (x0,()) =>
  Option.bind (zgw (x0,some zhj,())) fun q0=>some (q0.1,())
abbrev zwP:Fun:=⟨319,(ch [(.sl zo)]),(ch [(.ptr yD)]),0,zkA⟩
theorem zFq:Sq zwP:=ms2 (d:=false) (K:=0) Tryz.func319 (by kernel_rfl) (funext fun (x0,())=>by kernel_rfl)
abbrev yn:Type:=(Option zdj) × Int × Int × List Int
abbrev zq2:yn→St:=fun (v0,v12,v13,o0)=>St.mk [(0,.dat (.ptr yD) v0),(3,.ow 0),(12,.dat tI v12),(13,.dat tI v13)] [.row tI o0 false]
def yo (k0:yn→Option ((List Int) × Unit)):yn→Option ((List Int) × Unit):=fun (v0,v12,v13,o0) =>
  bif decide (v13 < v12) then Option.bind (zea (v0,v13,())) fun q2=>bif q2.1 then bif decide (List.length o0 + List.length (zi (List.replicate 1 (0:Int)) 0 v13) ≤ lim) then k0 (v0,v12,wI (v13 + 1),o0 ++ zi (List.replicate 1 (0:Int)) 0 v13) else none else k0 (v0,v12,wI (v13 + 1),o0) else some (o0,())
abbrev zir (K:Nat):yn→Option ((List Int) × Unit):=zm yo K
theorem zq3 (K:Nat):∀ n,evV Es2 K Tryz.f320 0 (ch [(.sl tI)]) [1,1,1,0,1,0] [] zq2 n = zm yo n:=zw fun n0 (v0,v12,v13,o0)=>by kernel_rfl
def zfw (L0:yn→Option ((List Int) × Unit)):((Option zdj) × Unit)→Option ((List Int) × Unit):=fun (x0,()) =>
  Option.bind (zdw (x0,())) fun q0=>bif q0.1 then Option.bind x0 fun q1=>L0 (x0,((List.length q1.1):Int),0,[]) else some ([],())
def zfx:((Option zdj) × Unit)→Option ((List Int) × Unit):=zfw (zir K0)
abbrev zkp:Fun:=⟨320,(ch [(.ptr yD)]),(ch [(.sl tI)]),0,zfx⟩
theorem ztt:Sq zkp:=ml2 (d:=false) (S:=fun K=>zfw (zir K)) Tryz.func320 (by kernel_rfl) (fun K=>tr1 (T:=zfw) (zq3 K K) fun (x0,())=>by kernel_rfl) rfl
def zi8:((List zt) × Unit)→Option ((Option zbB) × Unit):=fun (x0,()) =>
  Option.bind (yu (x0,some zf3,())) fun q0=>some (q0.1,())
abbrev ztS:Fun:=⟨290,(ch [(.sl zx)]),(ch [(.ptr vD)]),0,zi8⟩
theorem zDK:Sq ztS:=ms2 (d:=false) (K:=0) Tryz.func290 (by kernel_rfl) (funext fun (x0,())=>by kernel_rfl)
abbrev zaX:Type:=Int × (Option ((zg × Unit)→Option ((List Int) × Unit))) × (List zg) × Int × Int × List Int
abbrev zu4:zaX→St:=fun (v1,v2,v12,v13,v14,o0)=>St.mk [(1,.dat tI v1),(2,.dat (.fn (.pair zn .unit) (.pair (.arr 4 tU) .unit)) v2),(8,.ow 0),(12,.dat (.sl zn) v12),(13,.dat tI v13),(14,.dat tI v14)] [.row tU o0 false]
def zaY (k0:zaX→Option (Int × (Int × Unit))):zaX→Option (Int × (Int × Unit)):=fun (v1,v2,v12,v13,v14,o0) =>
  bif decide (v14 < v13) then inR v14 ((List.length v12):Int) (Option.bind v2 fun q0=>Option.bind (q0 (ix zf v12 v14,())) fun q1=>inR v1 (↑4:Int) (bif decide (List.length o0 + List.length (zi (List.replicate 1 (0:Int)) 0 (ix (0:Int) q1.1 v1)) ≤ lim) then k0 (v1,v2,v12,v13,wI (v14 + 1),o0 ++ zi (List.replicate 1 (0:Int)) 0 (ix (0:Int) q1.1 v1)) else none)) else Option.bind (ze0 (o0,())) fun q2=>some (q2.1,q2.2.1,())
abbrev zlG (K:Nat):zaX→Option (Int × (Int × Unit)):=zm zaY K
theorem zu5 (K:Nat):∀ n,evV Es2 K Tryz.f212 0 (ch [tU,tI]) [1,1,0,1,0] [] zu4 n = zm zaY n:=zw fun n0 (v1,v2,v12,v13,v14,o0)=>by kernel_rfl
def ziK (L0:zaX→Option (Int × (Int × Unit))):(zb × (Int × ((Option ((zg × Unit)→Option ((List Int) × Unit))) × Unit)))→Option (Int × (Int × Unit)):=fun (x0,x1,x2,()) =>
  L0 (x1,x2,x0.2.1,((List.length x0.2.1):Int),0,[])
def ze3:(zb × (Int × ((Option ((zg × Unit)→Option ((List Int) × Unit))) × Unit)))→Option (Int × Int × Unit):=ziK (zlG K0)
abbrev zow:Fun:=⟨212,(ch [zq,tI,(.fn (ch [zn]) (ch [(.arr 4 tU)]))]),(ch [tU,tI]),0,ze3⟩
theorem zyj:Sq zow:=ml2 (d:=false) (S:=fun K=>ziK (zlG K)) Tryz.func212 (by kernel_rfl) (fun K=>tr1 (T:=ziK) (zu5 K K) fun (x0,x1,x2,())=>by kernel_rfl) rfl
def zcq:((List zj) × Unit)→Option ((Option zbC) × Unit):=fun (x0,()) =>
  Option.bind (zhE (x0,some qG,())) fun q0=>some (q0.1,())
abbrev ztT:Fun:=⟨155,(ch [(.sl zl)]),(ch [(.ptr vW)]),0,zcq⟩
theorem zDL:Sq ztT:=ms2 (d:=false) (K:=0) Tryz.func155 (by kernel_rfl) (funext fun (x0,())=>by kernel_rfl)
end
end Go.Proofs.YtejbgeokcpillaaGreatDoor
end
section
namespace Go.Proofs.YtejbgeokcpillaaGreatDoor
open Go.Ev
noncomputable section
def ze4:((Option zbC) × (zj × Unit))→Option ((List zj) × (Int × (Int × Unit))):=fun (x0,x1,()) =>
  Option.bind (zdC (x0,())) fun q0=>bif q0.2.1 != 0 then some ([],0,q0.2.1,()) else Option.bind (zaG (x0,q0.1,x1,())) fun q1=>some (q1.1,q0.1,q1.2.1,())
abbrev zox:Fun:=⟨156,(ch [(.ptr vW),zl]),(ch [(.sl zl),tI,tI]),0,ze4⟩
theorem zyk:Sq zox:=ms2 (d:=false) (K:=0) Tryz.func156 (by kernel_rfl) (funext fun (x0,x1,())=>by kernel_rfl)
def zr6:((List zj) × (Int × Unit))→Option ((List Int) × Unit):=fun (x0,x1,()) =>
  Option.bind (jK (x1,())) fun q0=>Option.bind (zjT (x0,q0.1,())) fun q1=>some (q1.1,())
abbrev zr7:Fun:=⟨49,(ch [(.sl zl),tI]),(ch [(.sl tI)]),0,zr6⟩
theorem zBR:Sq zr7:=ms2 (d:=false) (K:=0) Tryz.func49 (by kernel_rfl) (funext fun (x0,x1,())=>by kernel_rfl)
def zqi:((List zj) × (zL × Unit))→Option ((List Int) × Unit):=fun (x0,x1,()) =>
  Option.bind (zcS (x1,())) fun q0=>Option.bind (zjT (x0,q0.1,())) fun q1=>some (q1.1,())
abbrev zqj:Fun:=⟨53,(ch [(.sl zl),zC]),(ch [(.sl tI)]),0,zqi⟩
theorem zzS:Sq zqj:=ms2 (d:=false) (K:=0) Tryz.func53 (by kernel_rfl) (funext fun (x0,x1,())=>by kernel_rfl)
def zhG:(zb × (zb × Unit))→Option (Bool × Unit):=fun (x0,x1,()) =>
  bif x0.1 == x1.1 then Option.bind (zdy (x0.2.1,x1.2.1,some vU,())) fun q0=>bif q0.1 then Option.bind (zd5 (x0.2.2.1,x1.2.2.1,some zaF,())) fun q1=>bif q1.1 then Option.bind (zgt (x0.2.2.2.1,x1.2.2.2.1,())) fun q2=>bif q2.1 then Option.bind (zgv (x0.2.2.2.2.1,x1.2.2.2.2.1,())) fun q3=>bif q3.1 then Option.bind (zaF (x0.2.2.2.2.2.1,x1.2.2.2.2.2.1,())) fun q4=>bif q4.1 then some (true,()) else some (false,()) else some (false,()) else some (false,()) else some (false,()) else some (false,()) else some (false,())
abbrev zr8:Fun:=⟨70,(ch [zq,zq]),(ch [.bool]),0,zhG⟩
theorem zBS:Sq zr8:=ms2 (d:=false) (K:=0) Tryz.func70 (by kernel_rfl) (funext fun (x0,x1,())=>by kernel_rfl)
abbrev L3:List Fun:=ztP :: zqg :: zwL :: zot :: zou :: zkk :: zr5 :: ztQ :: ztR :: zqh :: zkl :: zkm :: zmS :: zmT :: zlC :: zlD :: zmU :: zlE :: zlF :: zkn :: zko :: zwP :: zkp :: ztS :: zow :: ztT :: zox :: zr7 :: zqj :: zr8 :: L2
theorem h3:Sds Tryz.prog E0 L3:=⟨zDH,zzQ,zFp,zyf,zyg,zto,zBQ,zDI,zDJ,zzR,ztp,ztq,zwM,zwN,zu0,zu1,zwO,zu2,zu3,ztr,zts,zFq,ztt,zDK,zyj,zDL,zyk,zBR,zzS,zBS,h2⟩
theorem ms3 {d:Bool} {F:Fun} {f:Go.Func} {K:Nat} (hf:Tryz.prog.funcs[F.id]? = some f) (ho:qX f = true) (h:evF (En E0 d L3) K f F.md F.a F.r = F.spec):Sd Tryz.prog E0 F:=mkS h3 hf ho h
theorem ml3 {d:Bool} {F:Fun} {f:Go.Func} {S:Nat→F.a.I→Option F.r.I} (hf:Tryz.prog.funcs[F.id]? = some f) (ho:qX f = true) (h:∀ K,evF (En E0 d L3) K f F.md F.a F.r = S K) (e:S K0 = F.spec):Sd Tryz.prog E0 F:=mkS h3 hf ho ((h K0).trans e)
abbrev Es3:Env:=En E0 false L3
abbrev zaZ:Type:=Int × ze
abbrev zu6:zaZ→St:=fun (v4,o0)=>St.mk [(1,.bp 0 []),(4,.dat tI v4)] [.bx (.dat zy o0) false]
def zdE (k0:zaZ→Option (Bool × Unit)):zaZ→Option (Bool × Unit):=fun (v4,o0) =>
  bif decide (v4 < ((List.length o0.1):Int)) then inR (wI (v4 - 1)) ((List.length o0.1):Int) (inR v4 ((List.length o0.1):Int) (Option.bind (zi6 (List.getD o0.1 (Int.toNat (wI (v4 - 1))) (zd zB),ix qN o0.1 v4,())) fun q2=>bif decide (q2.1 ≥ 0) then some (false,()) else k0 (wI (v4 + 1),o0))) else some (true,())
abbrev zgz (K:Nat):zaZ→Option (Bool × Unit):=zm zdE K
theorem zu7 (K:Nat):∀ n,evV Es3 K Tryz.f170 0 (ch [.bool]) [1,1,1,0,1,0] [] zu6 n = zm zdE n:=zw fun n0 (v4,o0)=>by kernel_rfl
def ze5 (L0:zaZ→Option (Bool × Unit)):(ze × Unit)→Option (Bool × Unit):=fun (x0,()) =>
  Option.bind (qj (((List.length x0.1):Int),1,8,())) fun q0=>bif q0.1 then bif decide (0 < ((List.length x0.1):Int)) then bif !eqI zB (ix qN x0.1 0) (zd zB) then some (false,()) else Option.bind (yb (x0.1,some zdz,())) fun q1=>bif q1.1 then some (false,()) else L0 (1,x0) else none else some (false,())
def vw:(ze × Unit)→Option (Bool × Unit):=ze5 (zgz K0)
abbrev zoy:Fun:=⟨170,(ch [zy]),(ch [.bool]),0,vw⟩
theorem zyl:Sq zoy:=ml3 (d:=false) (S:=fun K=>ze5 (zgz K)) Tryz.func170 (by kernel_rfl) (fun K=>tr1 (T:=ze5) (zu7 K K) fun (x0,())=>by kernel_rfl) rfl
def yR:(ByteArray × Unit)→Option (Bool × Unit):=fun (x0,()) =>
  bif decide ((↑(ByteArray.size x0):Int) < 1) then some (false,()) else bif decide ((↑(ByteArray.size x0):Int) > 12) then some (false,()) else bif decide (0 < (↑(ByteArray.size x0):Int)) then Option.bind (zeo ((↑(UInt8.toNat (List.getD (Array.toList (ByteArray.data x0)) (Int.toNat 0) 0)):Int),())) fun q0=>bif q0.1 then Option.bind (zkz (x0,some zeY,())) fun q1=>bif q1.1 then some (true,()) else some (false,()) else some (false,()) else none
abbrev zr9:Fun:=⟨154,(ch [.str]),(ch [.bool]),0,yR⟩
theorem zBT:Sq zr9:=ms3 (d:=false) (K:=0) Tryz.func154 (by kernel_rfl) (funext fun (x0,())=>by kernel_rfl)
def zi9:(ByteArray × Unit)→Option (Bool × Unit):=fun (x0,()) =>
  bif decide ((↑(ByteArray.size x0):Int) ≥ 1) then bif decide ((↑(ByteArray.size x0):Int) ≤ 40) then Option.bind (zkz (x0,some zhe,())) fun q0=>bif q0.1 then Option.bind (zeZ (x0,ByteArray.mk #[32],())) fun q1=>bif ByteArray.toList q1.1 == ByteArray.toList x0 then some (true,()) else some (false,()) else some (false,()) else some (false,()) else some (false,())
abbrev ztU:Fun:=⟨273,(ch [.str]),(ch [.bool]),0,zi9⟩
theorem zDM:Sq ztU:=ms3 (d:=false) (K:=0) Tryz.func273 (by kernel_rfl) (funext fun (x0,())=>by kernel_rfl)
def zeb:(zt × Unit)→Option (Bool × Unit):=fun (x0,()) =>
  bif x0.1 then Option.bind (zi7 (x0,())) fun q0=>bif q0.1 then some (false,()) else some (true,()) else bif !eqI zx x0 (zd zx) then some (true,()) else some (false,())
abbrev zmV:Fun:=⟨187,(ch [zx]),(ch [.bool]),0,zeb⟩
theorem zwQ:Sq zmV:=ms3 (d:=false) (K:=0) Tryz.func187 (by kernel_rfl) (funext fun (x0,())=>by kernel_rfl)
def zkB:(zp × Unit)→Option (Bool × Unit):=fun (x0,()) =>
  Option.bind (zfS (x0.2.2.2.1,x0.2.2.2.2.2.2.2.1,x0.2.2.2.2.2.2.1,())) fun q0=>bif q0.2.1 == 0 then bif q0.1 == x0.2.2.2.2.2.2.2.2.1 then Option.bind (zjs (x0.2.1,())) fun q1=>bif q1.1 then Option.bind (zjs (x0.2.2.1,())) fun q2=>bif q2.1 then Option.bind (jb (x0.2.2.2.2.1,())) fun q3=>bif q3.1 then Option.bind (jb (x0.2.2.2.2.2.1,())) fun q4=>bif q4.1 then bif x0.2.2.2.2.1 != x0.2.2.2.2.2.1 then bif decide (x0.2.2.2.2.2.2.2.2.2.1 ≥ 0) then some (true,()) else some (false,()) else some (false,()) else some (false,()) else some (false,()) else some (false,()) else some (false,()) else some (false,()) else some (false,())
abbrev zwR:Fun:=⟨191,(ch [zo]),(ch [.bool]),0,zkB⟩
theorem zFr:Sq zwR:=ms3 (d:=false) (K:=0) Tryz.func191 (by kernel_rfl) (funext fun (x0,())=>by kernel_rfl)
def zja:(zH × Unit)→Option (Bool × Unit):=fun (x0,()) =>
  bif decide (x0.1 > 4611686018427387904) then some (false,()) else Option.bind (zdp (x0.2.1,())) fun q0=>bif q0.1 then Option.bind (zdp (x0.2.2.1,())) fun q1=>bif q1.1 then Option.bind (zdp (x0.2.2.2.1,())) fun q2=>bif q2.1 then Option.bind (zdp (x0.2.2.2.2.2.2.2.2.2.1,())) fun q3=>bif q3.1 then bif x0.2.2.2.2.1 == 3 then bif eqI zv x0 (x0.1,x0.2.1,x0.2.2.1,x0.2.2.2.1,x0.2.2.2.2.1,(zd zv).2.2.2.2.2.1,(zd zv).2.2.2.2.2.2.1,(zd zv).2.2.2.2.2.2.2.1,(zd zv).2.2.2.2.2.2.2.2.1,x0.2.2.2.2.2.2.2.2.2.1,(zd zv).2.2.2.2.2.2.2.2.2.2) then some (true,()) else some (false,()) else Option.bind (zfS (x0.2.2.2.2.1,x0.2.2.2.2.2.2.2.1,x0.2.2.2.2.2.2.2.2.1,())) fun q4=>bif q4.2.1 == 0 then bif x0.2.2.2.2.2.2.2.2.2.1 == 0 then bif x0.2.2.2.2.2.1 != x0.2.2.2.2.2.2.1 then Option.bind (jb (x0.2.2.2.2.2.1,())) fun q5=>bif q5.1 then Option.bind (jb (x0.2.2.2.2.2.2.1,())) fun q6=>bif q6.1 then some (true,()) else some (false,()) else some (false,()) else some (false,()) else some (false,()) else some (false,()) else some (false,()) else some (false,()) else some (false,()) else some (false,())
abbrev ztV:Fun:=⟨192,(ch [zv]),(ch [.bool]),0,zja⟩
theorem zDN:Sq ztV:=ms3 (d:=false) (K:=0) Tryz.func192 (by kernel_rfl) (funext fun (x0,())=>by kernel_rfl)
def zjU:(qI × (Int × Unit))→Option ((Option ((zL × Unit)→Option (Bool × Unit))) × Unit):=fun (x0,x1,()) =>
  some (some fun z=>vL (z.1,some x0,some x1,()),())
abbrev zqk:Fun:=⟨121,(ch [qa,tI]),(ch [(.fn (ch [zC]) (ch [.bool]))]),0,zjU⟩
theorem zzT:Sq zqk:=ms3 (d:=false) (K:=0) Tryz.func121 (by kernel_rfl) (funext fun (x0,x1,())=>by kernel_rfl)
abbrev ve:Type:=(List zg) × Int × Int × qI
abbrev zu8:ve→St:=fun (v10,v11,v12,o0)=>St.mk [(1,.bp 0 []),(10,.dat (.sl zn) v10),(11,.dat tI v11),(12,.dat tI v12)] [.bx (.dat qa o0) true]
abbrev zdF:Type:=(List zg) × Int × Int × qI
abbrev zu9:zdF→St:=fun (v10,v11,v12,o0)=>St.mk [(1,.bp 0 []),(10,.dat (.sl zn) v10),(11,.dat tI v11),(12,.dat tI v12)] [.bx (.dat qa o0) false]
def qM (k1:ve→Option (Bool × Unit)):ve→Option (Bool × Unit):=fun (v10,v11,v12,o0) =>
  bif decide (v12 < v11) then inR v12 ((List.length v10):Int) (Option.bind (yw ((ix zf v10 v12).2.2.1,some fun z=>zaT (z.1,some o0,()),())) fun q3=>bif q3.1 then Option.bind (yx ((ix zf v10 v12).2.2.2.1,some fun z=>vd (z.1,some o0,some v12,()),())) fun q4=>bif q4.1 then Option.bind (qA ((ix zf v10 v12).2.2.2.2.1,some fun z=>qw (z.1,some o0,()),())) fun q5=>bif q5.1 then k1 (v10,v11,wI (v12 + 1),o0) else some (false,()) else Option.bind (qA ((ix zf v10 v12).2.2.2.2.1,some fun z=>qw (z.1,some o0,()),())) fun q6=>bif q6.1 then some (false,()) else some (false,()) else Option.bind (yx ((ix zf v10 v12).2.2.2.1,some fun z=>vd (z.1,some o0,some v12,()),())) fun q7=>bif q7.1 then Option.bind (qA ((ix zf v10 v12).2.2.2.2.1,some fun z=>qw (z.1,some o0,()),())) fun q8=>bif q8.1 then some (false,()) else some (false,()) else Option.bind (qA ((ix zf v10 v12).2.2.2.2.1,some fun z=>qw (z.1,some o0,()),())) fun q9=>bif q9.1 then some (false,()) else some (false,())) else some (true,())
theorem zva (K:Nat):∀ n,evV Es3 K Tryz.f66 0 (ch [.bool]) [1,0,1,0] [] zu8 n = zm qM n:=zw fun n1 (v10,v11,v12,o0)=>by kernel_rfl
def zlH (k1:ve→Option (Bool × Unit)):zdF→Option (Bool × Unit):=fun (v10,v11,v12,o0) =>
  bif decide (v12 < v11) then inR v12 ((List.length v10):Int) (Option.bind (yw ((ix zf v10 v12).2.2.1,some fun z=>zaT (z.1,some o0,()),())) fun q0=>bif q0.1 then Option.bind (yx ((ix zf v10 v12).2.2.2.1,some fun z=>vd (z.1,some o0,some v12,()),())) fun q1=>bif q1.1 then Option.bind (qA ((ix zf v10 v12).2.2.2.2.1,some fun z=>qw (z.1,some o0,()),())) fun q2=>bif q2.1 then k1 (v10,v11,wI (v12 + 1),o0) else some (false,()) else Option.bind (qA ((ix zf v10 v12).2.2.2.2.1,some fun z=>qw (z.1,some o0,()),())) fun q10=>bif q10.1 then some (false,()) else some (false,()) else Option.bind (yx ((ix zf v10 v12).2.2.2.1,some fun z=>vd (z.1,some o0,some v12,()),())) fun q11=>bif q11.1 then Option.bind (qA ((ix zf v10 v12).2.2.2.2.1,some fun z=>qw (z.1,some o0,()),())) fun q12=>bif q12.1 then some (false,()) else some (false,()) else Option.bind (qA ((ix zf v10 v12).2.2.2.2.1,some fun z=>qw (z.1,some o0,()),())) fun q13=>bif q13.1 then some (false,()) else some (false,())) else some (true,())
abbrev zlI (K:Nat):zdF→Option (Bool × Unit):=zwd zlH qM K
theorem zvb (K:Nat):∀ n,evV Es3 K Tryz.f66 0 (ch [.bool]) [1,0,1,0] [] zu9 n = zwd zlH qM n:=zGQ (zva K) fun n0 (v10,v11,v12,o0)=>by kernel_rfl
def ziL (L0:zdF→Option (Bool × Unit)):(qI × Unit)→Option (Bool × Unit):=fun (x0,()) =>
  L0 (x0.2.1.2.1,((List.length x0.2.1.2.1):Int),0,x0)
def zaH:(qI × Unit)→Option (Bool × Unit):=ziL (zlI K0)
abbrev zoz:Fun:=⟨66,(ch [qa]),(ch [.bool]),0,zaH⟩
theorem zym:Sq zoz:=ml3 (d:=false) (S:=fun K=>ziL (zlI K)) Tryz.func66 (by kernel_rfl) (fun K=>tr1 (T:=ziL) (zvb K K) fun (x0,())=>by kernel_rfl) rfl
abbrev zbS:Type:=(List zg) × Int × Int × (List Int) × Int × Int × zg
abbrev zmW:zbS→St:=fun (v14,v15,v16,v55,v56,v57,o0)=>St.mk [(4,.bp 0 []),(14,.dat (.sl zn) v14),(15,.dat tI v15),(16,.dat tI v16),(55,.dat (.sl tI) v55),(56,.dat tI v56),(57,.dat tI v57)] [.bx (.dat zn o0) false]
abbrev zbT:Type:=(Option zbB) × (List zg) × Int × Int × (List zj) × Int × Int × zg
abbrev zmX:zbT→St:=fun (v5,v14,v15,v16,v24,v25,v26,o0)=>St.mk [(4,.bp 0 []),(5,.dat (.ptr vD) v5),(14,.dat (.sl zn) v14),(15,.dat tI v15),(16,.dat tI v16),(24,.dat (.sl zl) v24),(25,.dat tI v25),(26,.dat tI v26)] [.bx (.dat zn o0) false]
abbrev jt:Type:=(List zg) × Int × Int
abbrev yZ:jt→St:=fun (v14,v15,v16)=>St.mk [(14,.dat (.sl zn) v14),(15,.dat tI v15),(16,.dat tI v16)] []
def zbU (k0:jt→Option (Bool × Unit)) (k2:zbS→Option (Bool × Unit)):zbS→Option (Bool × Unit):=fun (v14,v15,v16,v55,v56,v57,o0) =>
  bif decide (v57 < v56) then inR v57 ((List.length v55):Int) (inR (ix (0:Int) v55 v57) ((List.length o0.2.2.2.2.1):Int) (inR (ix (0:Int) v55 v57) ((List.length o0.2.2.2.2.1):Int) (bif decide ((List.getD o0.2.2.2.2.1 (Int.toNat (ix (0:Int) v55 v57)) (zd zx)).2.2.2.1.2.2.1 ≥ ((List.length o0.2.2.1):Int)) then some (false,()) else bif decide ((List.getD o0.2.2.2.2.1 (Int.toNat (ix (0:Int) v55 v57)) (zd zx)).2.2.2.2.1.2.2.1 ≥ ((List.length o0.2.2.1):Int)) then some (false,()) else bif decide ((List.getD o0.2.2.2.2.1 (Int.toNat (ix (0:Int) v55 v57)) (zd zx)).2.2.2.1.2.2.1 ≥ 0) then inR (List.getD o0.2.2.2.2.1 (Int.toNat (ix (0:Int) v55 v57)) (zd zx)).2.2.2.1.2.2.1 ((List.length o0.2.2.1):Int) (bif (List.getD o0.2.2.1 (Int.toNat (List.getD o0.2.2.2.2.1 (Int.toNat (ix (0:Int) v55 v57)) (zd zx)).2.2.2.1.2.2.1) (zd zl)).2.2.1 != 3 then some (false,()) else inR (List.getD o0.2.2.2.2.1 (Int.toNat (ix (0:Int) v55 v57)) (zd zx)).2.2.2.1.2.2.1 ((List.length o0.2.2.1):Int) (bif (List.getD o0.2.2.1 (Int.toNat (List.getD o0.2.2.2.2.1 (Int.toNat (ix (0:Int) v55 v57)) (zd zx)).2.2.2.1.2.2.1) (zd zl)).2.2.2.1 != ix (0:Int) v55 v57 then some (false,()) else k2 (v14,v15,v16,v55,v56,wI (v57 + 1),o0))) else k2 (v14,v15,v16,v55,v56,wI (v57 + 1),o0)))) else k0 (v14,v15,wI (v16 + 1))
abbrev zbV (K:Nat) (k0:jt→Option (Bool × Unit)):zbS→Option (Bool × Unit):=zm (fun k2=>zbU k0 k2) K
theorem zwS (K:Nat) (n0:Nat):∀ n,evV Es3 K Tryz.f67 0 (ch [.bool]) [1,0,1,0,0,1,1,0,0,1,1,1,1,0] [n0] zmW n = zm (fun k2=>zbU (evV Es3 K Tryz.f67 0 (ch [.bool]) [1,0,1,0] [] yZ n0) k2) n:=zw fun n2 (v14,v15,v16,v55,v56,v57,o0)=>by kernel_rfl
def y0 (L2:zbS→Option (Bool × Unit)) (k0:jt→Option (Bool × Unit)) (k1:zbT→Option (Bool × Unit)):zbT→Option (Bool × Unit):=fun (v5,v14,v15,v16,v24,v25,v26,o0) =>
  bif decide (v26 < v25) then inR v26 ((List.length v24):Int) (bif (ix zO v24 v26).2.2.1 == 3 then Option.bind (vK (v5,(ix zO v24 v26).2.2.2.1,())) fun q1=>bif q1.1 then inR (ix zO v24 v26).2.2.2.1 ((List.length o0.2.2.2.2.1):Int) (bif (List.getD o0.2.2.2.2.1 (Int.toNat (ix zO v24 v26).2.2.2.1) (zd zx)).2.2.2.1.2.2.1 != v26 then some (false,()) else k1 (v5,v14,v15,v16,v24,v25,wI (v26 + 1),o0)) else some (false,()) else k1 (v5,v14,v15,v16,v24,v25,wI (v26 + 1),o0)) else Option.bind (zcC (v5,())) fun q2=>L2 (v14,v15,v16,q2.1,((List.length q2.1):Int),0,o0)
abbrev zbW (K:Nat) (k0:jt→Option (Bool × Unit)):zbT→Option (Bool × Unit):=zm (fun k1=>y0 (zbV K k0) k0 k1) K
theorem zwT (K:Nat) (n0:Nat):∀ n,evV Es3 K Tryz.f67 0 (ch [.bool]) [1,0,1,0,0,1,1,0,0,1,1,0,1,0] [n0] zmX n = zm (fun k1=>y0 (zbV K (evV Es3 K Tryz.f67 0 (ch [.bool]) [1,0,1,0] [] yZ n0)) (evV Es3 K Tryz.f67 0 (ch [.bool]) [1,0,1,0] [] yZ n0) k1) n:=zdb (B:=fun L2 k1=>y0 L2 (evV Es3 K Tryz.f67 0 (ch [.bool]) [1,0,1,0] [] yZ n0) k1) (V1:=fun n1=>evV Es3 K Tryz.f67 0 (ch [.bool]) [1,0,1,0,0,1,1,0,0,1,1,1,1,0] [n0] zmW K) (W1:=fun k1=>(zbV K (evV Es3 K Tryz.f67 0 (ch [.bool]) [1,0,1,0] [] yZ n0))) (fun n1=>zwS K n0 K) fun n1 (v5,v14,v15,v16,v24,v25,v26,o0)=>by kernel_rfl
def y3 (L1:zbT→Option (Bool × Unit)) (k0:jt→Option (Bool × Unit)):jt→Option (Bool × Unit):=fun (v14,v15,v16) =>
  bif decide (v16 < v15) then inR v16 ((List.length v14):Int) (Option.bind (yu ((ix zf v14 v16).2.2.2.2.1,some vG,())) fun q0=>L1 (q0.1,v14,v15,v16,(ix zf v14 v16).2.2.1,((List.length (ix zf v14 v16).2.2.1):Int),0,ix zf v14 v16)) else some (true,())
abbrev zmY (K:Nat):jt→Option (Bool × Unit):=zm (fun k0=>y3 (zbW K k0) k0) K
theorem zwU (K:Nat):∀ n,evV Es3 K Tryz.f67 0 (ch [.bool]) [1,0,1,0] [] yZ n = zm (fun k0=>y3 (zbW K k0) k0) n:=zdb (B:=fun L1 k0=>y3 L1 k0) (V1:=fun n0=>evV Es3 K Tryz.f67 0 (ch [.bool]) [1,0,1,0,0,1,1,0,0,1,1,0,1,0] [n0] zmX K) (W1:=fun k0=>(zbW K k0)) (fun n0=>zwT K n0 K) fun n0 (v14,v15,v16)=>by kernel_rfl
def zjV (L0:jt→Option (Bool × Unit)):(qI × Unit)→Option (Bool × Unit):=fun (x0,()) =>
  L0 (x0.2.1.2.1,((List.length x0.2.1.2.1):Int),0)
def zdI:(qI × Unit)→Option (Bool × Unit):=zjV (zmY K0)
abbrev zql:Fun:=⟨67,(ch [qa]),(ch [.bool]),0,zdI⟩
theorem zzU:Sq zql:=ml3 (d:=false) (S:=fun K=>zjV (zmY K)) Tryz.func67 (by kernel_rfl) (fun K=>tr1 (T:=zjV) (zwU K K) fun (x0,())=>by kernel_rfl) rfl
def zhH:((List zp) × Unit)→Option ((List Int) × Unit):=fun (x0,()) =>
  Option.bind (zkA (x0,())) fun q0=>Option.bind (zfx (q0.1,())) fun q1=>some (q1.1,())
abbrev zsa:Fun:=⟨288,(ch [(.sl zo)]),(ch [(.sl tI)]),0,zhH⟩
theorem zBU:Sq zsa:=ms3 (d:=false) (K:=0) Tryz.func288 (by kernel_rfl) (funext fun (x0,())=>by kernel_rfl)
abbrev zcX:Type:=(List zt) × Int × (List Int) × Int × Int × List Int
abbrev zyn:zcX→St:=fun (v0,v1,v14,v15,v16,o0)=>St.mk [(0,.dat (.sl zx) v0),(1,.dat tI v1),(6,.ow 0),(14,.dat (.sl tI) v14),(15,.dat tI v15),(16,.dat tI v16)] [.row tU o0 false]
def zcY (k0:zcX→Option (Int × (Int × Unit))):zcX→Option (Int × (Int × Unit)):=fun (v0,v1,v14,v15,v16,o0) =>
  bif decide (v16 < v15) then inR v16 ((List.length v14):Int) (inR (ix (0:Int) v14 v16) ((List.length v0):Int) (bif (List.getD v0 (Int.toNat (ix (0:Int) v14 v16)) (zd zx)).2.2.2.1.1 == v1 then inR (ix (0:Int) v14 v16) ((List.length v0):Int) (bif decide (List.length o0 + List.length (zi (List.replicate 1 (0:Int)) 0 (List.getD v0 (Int.toNat (ix (0:Int) v14 v16)) (zd zx)).2.2.2.1.2.1) ≤ lim) then k0 (v0,v1,v14,v15,wI (v16 + 1),o0 ++ zi (List.replicate 1 (0:Int)) 0 (List.getD v0 (Int.toNat (ix (0:Int) v14 v16)) (zd zx)).2.2.2.1.2.1) else none) else k0 (v0,v1,v14,v15,wI (v16 + 1),o0))) else Option.bind (ze0 (o0,())) fun q3=>some (q3.1,q3.2.1,())
abbrev zoA (K:Nat):zcX→Option (Int × (Int × Unit)):=zm zcY K
theorem zyo (K:Nat):∀ n,evV Es3 K Tryz.f210 0 (ch [tU,tI]) [1,1,1,0,1,0] [] zyn n = zm zcY n:=zw fun n0 (v0,v1,v14,v15,v16,o0)=>by kernel_rfl
def zhI (L0:zcX→Option (Int × (Int × Unit))):((List zt) × (Int × Unit))→Option (Int × (Int × Unit)):=fun (x0,x1,()) =>
  Option.bind (jb (x1,())) fun q0=>bif q0.1 then Option.bind (zi8 (x0,())) fun q1=>Option.bind (zcC (q1.1,())) fun q2=>L0 (x0,x1,q2.1,((List.length q2.1):Int),0,[]) else some (0,1,())
def zhJ:((List zt) × Int × Unit)→Option (Int × Int × Unit):=zhI (zoA K0)
abbrev zsb:Fun:=⟨210,(ch [(.sl zx),tI]),(ch [tU,tI]),0,zhJ⟩
theorem zBV:Sq zsb:=ml3 (d:=false) (S:=fun K=>zhI (zoA K)) Tryz.func210 (by kernel_rfl) (fun K=>tr1 (T:=zhI) (zyo K K) fun (x0,x1,())=>by kernel_rfl) rfl
def zhK:(zb × (Int × Unit))→Option (Int × (Int × Unit)):=fun (x0,x1,()) =>
  Option.bind (jb (x1,())) fun q0=>bif q0.1 then Option.bind (ze3 (x0,x1,some ziC,())) fun q1=>bif q1.2.1 != 0 then some (0,q1.2.1,()) else Option.bind (ze3 (x0,x1,some ziD,())) fun q2=>bif q2.2.1 != 0 then some (0,q2.2.1,()) else Option.bind (zhk (q1.1,q2.1,())) fun q3=>some (q3.1,q3.2.1,()) else some (0,1,())
abbrev zsc:Fun:=⟨138,(ch [zq,tI]),(ch [tU,tI]),0,zhK⟩
theorem zBW:Sq zsc:=ms3 (d:=false) (K:=0) Tryz.func138 (by kernel_rfl) (funext fun (x0,x1,())=>by kernel_rfl)
abbrev L4:List Fun:=zoy :: zr9 :: ztU :: zmV :: zwR :: ztV :: zqk :: zoz :: zql :: zsa :: zsb :: zsc :: L3
theorem h4:Sds Tryz.prog E0 L4:=⟨zyl,zBT,zDM,zwQ,zFr,zDN,zzT,zym,zzU,zBU,zBV,zBW,h3⟩
theorem ms4 {d:Bool} {F:Fun} {f:Go.Func} {K:Nat} (hf:Tryz.prog.funcs[F.id]? = some f) (ho:qX f = true) (h:evF (En E0 d L4) K f F.md F.a F.r = F.spec):Sd Tryz.prog E0 F:=mkS h4 hf ho h
theorem ml4 {d:Bool} {F:Fun} {f:Go.Func} {S:Nat→F.a.I→Option F.r.I} (hf:Tryz.prog.funcs[F.id]? = some f) (ho:qX f = true) (h:∀ K,evF (En E0 d L4) K f F.md F.a F.r = S K) (e:S K0 = F.spec):Sd Tryz.prog E0 F:=mkS h4 hf ho ((h K0).trans e)
abbrev Es4:Env:=En E0 false L4
def zbX:(qL × Unit)→Option (Bool × Unit):=fun (x0,()) =>
  Option.bind (yR (x0.1,())) fun q0=>bif q0.1 then Option.bind (yR (x0.2.1,())) fun q1=>bif q1.1 then Option.bind (qj (x0.2.2.1,0,3,())) fun q2=>bif q2.1 then some (false,()) else some (true,()) else some (true,()) else some (true,())
abbrev zjE:Fun:=⟨256,(ch [qK]),(ch [.bool]),0,zbX⟩
theorem zsd:Sq zjE:=ms4 (d:=false) (K:=0) Tryz.func256 (by kernel_rfl) (funext fun (x0,())=>by kernel_rfl)
def ze6:(qY × Unit)→Option (Bool × Unit):=fun (x0,()) =>
  bif x0.1 then Option.bind (yR (x0.2.1,())) fun q0=>bif q0.1 then bif x0.1 then some (false,()) else bif !ByteArray.toList x0.2.1 == ByteArray.toList (ByteArray.mk #[]) then some (true,()) else some (false,()) else some (true,()) else bif x0.1 then some (false,()) else bif !ByteArray.toList x0.2.1 == ByteArray.toList (ByteArray.mk #[]) then some (true,()) else some (false,())
abbrev zoB:Fun:=⟨179,(ch [qg]),(ch [.bool]),0,ze6⟩
theorem zyp:Sq zoB:=ms4 (d:=false) (K:=0) Tryz.func179 (by kernel_rfl) (funext fun (x0,())=>by kernel_rfl)
def zf9:(zj × Unit)→Option (Bool × Unit):=fun (x0,()) =>
  bif x0.1 then Option.bind (yR (x0.2.1,())) fun q0=>bif q0.1 then Option.bind (zeU (x0,())) fun q1=>Option.bind (jD (q1.1,())) fun q2=>bif q2.1 then some (false,()) else some (true,()) else some (true,()) else bif !eqI zl x0 (zd zl) then some (true,()) else some (false,())
abbrev zqm:Fun:=⟨183,(ch [zl]),(ch [.bool]),0,zf9⟩
theorem zzV:Sq zqm:=ms4 (d:=false) (K:=0) Tryz.func183 (by kernel_rfl) (funext fun (x0,())=>by kernel_rfl)
def zhL:(qn × Unit)→Option (Bool × Unit):=fun (x0,()) =>
  bif x0.1 then Option.bind (ziI (x0,())) fun q0=>bif q0.1 then Option.bind (zi9 (x0.2.2.2.2.1,())) fun q1=>bif q1.1 then some (false,()) else some (true,()) else some (true,()) else bif !eqI z3 x0 (zd z3) then some (true,()) else some (false,())
abbrev zse:Fun:=⟨185,(ch [z3]),(ch [.bool]),0,zhL⟩
theorem zBX:Sq zse:=ms4 (d:=false) (K:=0) Tryz.func185 (by kernel_rfl) (funext fun (x0,())=>by kernel_rfl)
def zga:((List zt) × Unit)→Option (Bool × Unit):=fun (x0,()) =>
  Option.bind (qV (x0,some zeb,())) fun q0=>bif q0.1 then some (false,()) else some (true,())
abbrev zqn:Fun:=⟨108,(ch [(.sl zx)]),(ch [.bool]),0,zga⟩
theorem zzW:Sq zqn:=ms4 (d:=false) (K:=0) Tryz.func108 (by kernel_rfl) (funext fun (x0,())=>by kernel_rfl)
abbrev zcZ:Type:=Int × (List zp) × Int × Int × List (Int × Int)
abbrev zyq:zcZ→St:=fun (v4,v8,v9,v10,o0)=>St.mk [(3,.om 0),(4,.dat tI v4),(8,.dat (.sl zo) v8),(9,.dat tI v9),(10,.dat tI v10)] [.mp tI tI o0]
def zc0 (k0:zcZ→Option (Bool × Unit)):zcZ→Option (Bool × Unit):=fun (v4,v8,v9,v10,o0) =>
  bif decide (v10 < v9) then inR v10 ((List.length v8):Int) (bif (ix qm v8 v10).1 then Option.bind (zkB (ix qm v8 v10,())) fun q0=>bif q0.1 then bif (ix qm v8 v10).1 then bif (ix qm v8 v10).1 then k0 (wI (v4 + 1),v8,v9,wI (v10 + 1),yp tI o0 (ix qm v8 v10).2.2.2.2.2.2.2.2.2.1 (wI (zcd tI (0:Int) o0 (ix qm v8 v10).2.2.2.2.2.2.2.2.2.1 + 1))) else k0 (v4,v8,v9,wI (v10 + 1),o0) else bif !eqI zo (ix qm v8 v10) (zd zo) then some (false,()) else bif (ix qm v8 v10).1 then k0 (wI (v4 + 1),v8,v9,wI (v10 + 1),yp tI o0 (ix qm v8 v10).2.2.2.2.2.2.2.2.2.1 (wI (zcd tI (0:Int) o0 (ix qm v8 v10).2.2.2.2.2.2.2.2.2.1 + 1))) else k0 (v4,v8,v9,wI (v10 + 1),o0) else some (false,()) else bif (ix qm v8 v10).1 then bif (ix qm v8 v10).1 then k0 (wI (v4 + 1),v8,v9,wI (v10 + 1),yp tI o0 (ix qm v8 v10).2.2.2.2.2.2.2.2.2.1 (wI (zcd tI (0:Int) o0 (ix qm v8 v10).2.2.2.2.2.2.2.2.2.1 + 1))) else k0 (v4,v8,v9,wI (v10 + 1),o0) else bif !eqI zo (ix qm v8 v10) (zd zo) then some (false,()) else bif (ix qm v8 v10).1 then k0 (wI (v4 + 1),v8,v9,wI (v10 + 1),yp tI o0 (ix qm v8 v10).2.2.2.2.2.2.2.2.2.1 (wI (zcd tI (0:Int) o0 (ix qm v8 v10).2.2.2.2.2.2.2.2.2.1 + 1))) else k0 (v4,v8,v9,wI (v10 + 1),o0)) else bif ((List.length o0):Int) == v4 then some (true,()) else some (false,())
abbrev zoC (K:Nat):zcZ→Option (Bool × Unit):=zm zc0 K
theorem zyr (K:Nat):∀ n,evV Es4 K Tryz.f110 0 (ch [.bool]) [1,1,1,0,1,0] [] zyq n = zm zc0 n:=zw fun n0 (v4,v8,v9,v10,o0)=>by kernel_rfl
def zlJ (L0:zcZ→Option (Bool × Unit)):((List zp) × Unit)→Option (Bool × Unit):=fun (x0,()) =>
  L0 (0,x0,((List.length x0):Int),0,[])
def zlK:((List zp) × Unit)→Option (Bool × Unit):=zlJ (zoC K0)
abbrev zsf:Fun:=⟨110,(ch [(.sl zo)]),(ch [.bool]),0,zlK⟩
theorem zBY:Sq zsf:=ml4 (d:=false) (S:=fun K=>zlJ (zoC K)) Tryz.func110 (by kernel_rfl) (fun K=>tr1 (T:=zlJ) (zyr K K) fun (x0,())=>by kernel_rfl) rfl
abbrev zbY:Type:=(List zH) × (List zH) × Int × Int
abbrev zwV:zbY→St:=fun (v0,v5,v6,v7)=>St.mk [(0,.dat (.sl zv) v0),(5,.dat (.sl zv) v5),(6,.dat tI v6),(7,.dat tI v7)] []
def zbZ (k0:zbY→Option (Bool × Unit)):zbY→Option (Bool × Unit):=fun (v0,v5,v6,v7) =>
  bif decide (v7 < v6) then inR v7 ((List.length v5):Int) (Option.bind (zja (ix zg6 v5 v7,())) fun q0=>bif q0.1 then bif decide (v7 > 0) then inR (wI (v7 - 1)) ((List.length v0):Int) (Option.bind (zf8 (List.getD v0 (Int.toNat (wI (v7 - 1))) (zd zv),ix zg6 v5 v7,())) fun q1=>bif decide (q1.1 ≥ 0) then some (false,()) else k0 (v0,v5,v6,wI (v7 + 1))) else k0 (v0,v5,v6,wI (v7 + 1)) else some (false,())) else some (true,())
abbrev zmZ (K:Nat):zbY→Option (Bool × Unit):=zm zbZ K
theorem zwW (K:Nat):∀ n,evV Es4 K Tryz.f111 0 (ch [.bool]) [1,0,1,0] [] zwV n = zm zbZ n:=zw fun n0 (v0,v5,v6,v7)=>by kernel_rfl
def zjW (L0:zbY→Option (Bool × Unit)):((List zH) × Unit)→Option (Bool × Unit):=fun (x0,()) =>
  L0 (x0,x0,((List.length x0):Int),0)
def zjX:((List zH) × Unit)→Option (Bool × Unit):=zjW (zmZ K0)
abbrev zqo:Fun:=⟨111,(ch [(.sl zv)]),(ch [.bool]),0,zjX⟩
theorem zzX:Sq zqo:=ml4 (d:=false) (S:=fun K=>zjW (zmZ K)) Tryz.func111 (by kernel_rfl) (fun K=>tr1 (T:=zjW) (zwW K K) fun (x0,())=>by kernel_rfl) rfl
abbrev zb0:Type:=(List zg) × Int × Int × qI
abbrev zwX:zb0→St:=fun (v10,v11,v12,o0)=>St.mk [(1,.bp 0 []),(10,.dat (.sl zn) v10),(11,.dat tI v11),(12,.dat tI v12)] [.bx (.dat qa o0) false]
def zb1 (k0:zb0→Option (Bool × Unit)):zb0→Option (Bool × Unit):=fun (v10,v11,v12,o0) =>
  bif decide (v12 < v11) then inR v12 ((List.length v10):Int) (Option.bind (zjU (o0,v12,())) fun q0=>Option.bind (zgy ((ix zf v10 v12).2.1,some fun z=>zd8 (z.1,some q0.1,()),())) fun q1=>bif q1.1 then Option.bind (yw ((ix zf v10 v12).2.2.1,some fun z=>zbF (z.1,some q0.1,()),())) fun q2=>bif q2.1 then Option.bind (zhF ((ix zf v10 v12).2.2.2.2.2.2.1,q0.1,())) fun q3=>bif q3.1 then k0 (v10,v11,wI (v12 + 1),o0) else some (false,()) else some (false,()) else Option.bind (yw ((ix zf v10 v12).2.2.1,some fun z=>zbF (z.1,some q0.1,()),())) fun q4=>bif q4.1 then some (false,()) else some (false,())) else some (true,())
abbrev zm0 (K:Nat):zb0→Option (Bool × Unit):=zm zb1 K
theorem zwY (K:Nat):∀ n,evV Es4 K Tryz.f65 0 (ch [.bool]) [1,0,1,0] [] zwX n = zm zb1 n:=zw fun n0 (v10,v11,v12,o0)=>by kernel_rfl
def zjY (L0:zb0→Option (Bool × Unit)):(qI × Unit)→Option (Bool × Unit):=fun (x0,()) =>
  L0 (x0.2.1.2.1,((List.length x0.2.1.2.1):Int),0,x0)
def zdJ:(qI × Unit)→Option (Bool × Unit):=zjY (zm0 K0)
abbrev zqp:Fun:=⟨65,(ch [qa]),(ch [.bool]),0,zdJ⟩
theorem zzY:Sq zqp:=ml4 (d:=false) (S:=fun K=>zjY (zm0 K)) Tryz.func65 (by kernel_rfl) (fun K=>tr1 (T:=zjY) (zwY K K) fun (x0,())=>by kernel_rfl) rfl
abbrev zdK:Type:=(List zp) × Int × (List Int) × Int × Int × List Int
abbrev zzZ:zdK→St:=fun (v0,v1,v13,v14,v15,o0)=>St.mk [(0,.dat (.sl zo) v0),(1,.dat tI v1),(6,.ow 0),(13,.dat (.sl tI) v13),(14,.dat tI v14),(15,.dat tI v15)] [.row tU o0 false]
def zdL (k0:zdK→Option (Int × (Int × Unit))):zdK→Option (Int × (Int × Unit)):=fun (v0,v1,v13,v14,v15,o0) =>
  bif decide (v15 < v14) then inR v15 ((List.length v13):Int) (inR (ix (0:Int) v13 v15) ((List.length v0):Int) (Option.bind (zf2 (List.getD v0 (Int.toNat (ix (0:Int) v13 v15)) (zd zo),())) fun q2=>bif q2.1 == v1 then inR (ix (0:Int) v13 v15) ((List.length v0):Int) (bif decide (List.length o0 + List.length (zi (List.replicate 1 (0:Int)) 0 (List.getD v0 (Int.toNat (ix (0:Int) v13 v15)) (zd zo)).2.2.2.2.2.2.2.2.1) ≤ lim) then k0 (v0,v1,v13,v14,wI (v15 + 1),o0 ++ zi (List.replicate 1 (0:Int)) 0 (List.getD v0 (Int.toNat (ix (0:Int) v13 v15)) (zd zo)).2.2.2.2.2.2.2.2.1) else none) else k0 (v0,v1,v13,v14,wI (v15 + 1),o0))) else Option.bind (ze0 (o0,())) fun q3=>some (q3.1,q3.2.1,())
abbrev zqq (K:Nat):zdK→Option (Int × (Int × Unit)):=zm zdL K
theorem zz0 (K:Nat):∀ n,evV Es4 K Tryz.f209 0 (ch [tU,tI]) [1,1,1,0,1,0] [] zzZ n = zm zdL n:=zw fun n0 (v0,v1,v13,v14,v15,o0)=>by kernel_rfl
def zjb (L0:zdK→Option (Int × (Int × Unit))):((List zp) × (Int × Unit))→Option (Int × (Int × Unit)):=fun (x0,x1,()) =>
  Option.bind (jb (x1,())) fun q0=>bif q0.1 then Option.bind (zhH (x0,())) fun q1=>L0 (x0,x1,q1.1,((List.length q1.1):Int),0,[]) else some (0,1,())
def zjc:((List zp) × Int × Unit)→Option (Int × Int × Unit):=zjb (zqq K0)
abbrev ztW:Fun:=⟨209,(ch [(.sl zo),tI]),(ch [tU,tI]),0,zjc⟩
theorem zDO:Sq ztW:=ml4 (d:=false) (S:=fun K=>zjb (zqq K)) Tryz.func209 (by kernel_rfl) (fun K=>tr1 (T:=zjb) (zz0 K K) fun (x0,x1,())=>by kernel_rfl) rfl
abbrev L5:List Fun:=zjE :: zoB :: zqm :: zse :: zqn :: zsf :: zqo :: zqp :: ztW :: L4
theorem h5:Sds Tryz.prog E0 L5:=⟨zsd,zyp,zzV,zBX,zzW,zBY,zzX,zzY,zDO,h4⟩
theorem ms5 {d:Bool} {F:Fun} {f:Go.Func} {K:Nat} (hf:Tryz.prog.funcs[F.id]? = some f) (ho:qX f = true) (h:evF (En E0 d L5) K f F.md F.a F.r = F.spec):Sd Tryz.prog E0 F:=mkS h5 hf ho h
theorem ml5 {d:Bool} {F:Fun} {f:Go.Func} {S:Nat→F.a.I→Option F.r.I} (hf:Tryz.prog.funcs[F.id]? = some f) (ho:qX f = true) (h:∀ K,evF (En E0 d L5) K f F.md F.a F.r = S K) (e:S K0 = F.spec):Sd Tryz.prog E0 F:=mkS h5 hf ho ((h K0).trans e)
abbrev Es5:Env:=En E0 false L5
def jE:(ze × Unit)→Option (Bool × Unit):=fun (x0,()) =>
  Option.bind (qj (((List.length x0.2.2.1):Int),1,8,())) fun q0=>bif q0.1 then Option.bind (zat (x0.2.2.1,some zbX,())) fun q1=>bif q1.1 then some (false,()) else Option.bind (zfm (x0,())) fun q2=>Option.bind (zk8 (q2.1,())) fun q3=>bif q3.1 then some (true,()) else some (false,()) else some (false,())
abbrev zlL:Fun:=⟨172,(ch [zy]),(ch [.bool]),0,jE⟩
theorem zvc:Sq zlL:=ms5 (d:=false) (K:=0) Tryz.func172 (by kernel_rfl) (funext fun (x0,())=>by kernel_rfl)
def zhM:((List qY) × Unit)→Option (Bool × Unit):=fun (x0,()) =>
  Option.bind (zcp (x0,some ze6,())) fun q0=>bif q0.1 then some (false,()) else some (true,())
abbrev zsg:Fun:=⟨104,(ch [(.sl qg)]),(ch [.bool]),0,zhM⟩
theorem zBZ:Sq zsg:=ms5 (d:=false) (K:=0) Tryz.func104 (by kernel_rfl) (funext fun (x0,())=>by kernel_rfl)
def zbn:((List zj) × Unit)→Option (Bool × Unit):=fun (x0,()) =>
  Option.bind (je (x0,some zf9,())) fun q0=>bif q0.1 then some (false,()) else some (true,())
abbrev zqr:Fun:=⟨106,(ch [(.sl zl)]),(ch [.bool]),0,zbn⟩
theorem zz1:Sq zqr:=ms5 (d:=false) (K:=0) Tryz.func106 (by kernel_rfl) (funext fun (x0,())=>by kernel_rfl)
def zhN:((List qn) × Unit)→Option (Bool × Unit):=fun (x0,()) =>
  Option.bind (jf (x0,some zhL,())) fun q0=>bif q0.1 then some (false,()) else some (true,())
abbrev zsh:Fun:=⟨107,(ch [(.sl z3)]),(ch [.bool]),0,zhN⟩
theorem zB0:Sq zsh:=ms5 (d:=false) (K:=0) Tryz.func107 (by kernel_rfl) (funext fun (x0,())=>by kernel_rfl)
abbrev zc1:Type:=Int × (List zg) × Int × Int × (List (List Int)) × Int × Int × List Int
abbrev zoD:zc1→St:=fun (v1,v31,v32,v33,v52,v53,v54,o0)=>St.mk [(1,.dat tI v1),(8,.ow 0),(31,.dat (.sl zn) v31),(32,.dat tI v32),(33,.dat tI v33),(52,.dat (.sl (.arr 4 tU)) v52),(53,.dat tI v53),(54,.dat tI v54)] [.row tU o0 false]
abbrev yz:Type:=Int × (List zg) × Int × Int × List Int
abbrev zoE:yz→St:=fun (v1,v31,v32,v33,o0)=>St.mk [(1,.dat tI v1),(8,.ow 0),(31,.dat (.sl zn) v31),(32,.dat tI v32),(33,.dat tI v33)] [.row tU o0 false]
def zc2 (k0:yz→Option (Int × (Int × Unit))) (k1:zc1→Option (Int × (Int × Unit))):zc1→Option (Int × (Int × Unit)):=fun (v1,v31,v32,v33,v52,v53,v54,o0) =>
  bif decide (v54 < v53) then inR v54 ((List.length v52):Int) (inR v1 (↑4:Int) (bif decide (List.length o0 + List.length (zi (List.replicate 1 (0:Int)) 0 (List.getD (List.getD v52 (Int.toNat v54) (zd (.arr 4 tU))) (Int.toNat v1) (0:Int))) ≤ lim) then k1 (v1,v31,v32,v33,v52,v53,wI (v54 + 1),o0 ++ zi (List.replicate 1 (0:Int)) 0 (List.getD (List.getD v52 (Int.toNat v54) (zd (.arr 4 tU))) (Int.toNat v1) (0:Int))) else none)) else k0 (v1,v31,v32,wI (v33 + 1),o0)
abbrev zc3 (K:Nat) (k0:yz→Option (Int × (Int × Unit))):zc1→Option (Int × (Int × Unit)):=zm (fun k1=>zc2 k0 k1) K
theorem zys (K:Nat) (n0:Nat):∀ n,evV Es5 K Tryz.f137 0 (ch [tU,tI]) [1,1,1,1,1,0,1,0,0,1,1,0,0,1,1,1,1,1,0] [n0] zoD n = zm (fun k1=>zc2 (evV Es5 K Tryz.f137 0 (ch [tU,tI]) [1,1,1,1,1,0,1,0] [] zoE n0) k1) n:=zw fun n1 (v1,v31,v32,v33,v52,v53,v54,o0)=>by kernel_rfl
def zaI (L1:zc1→Option (Int × (Int × Unit))) (k0:yz→Option (Int × (Int × Unit))):yz→Option (Int × (Int × Unit)):=fun (v1,v31,v32,v33,o0) =>
  bif decide (v33 < v32) then inR v33 ((List.length v31):Int) (Option.bind (zhJ ((ix zf v31 v33).2.2.2.2.1,v1,())) fun q2=>bif q2.2.1 != 0 then some (0,q2.2.1,()) else bif decide (List.length o0 + List.length (zi (List.replicate 1 (0:Int)) 0 q2.1) ≤ lim) then L1 (v1,v31,v32,v33,(ix zf v31 v33).2.2.2.2.2.1,((List.length (ix zf v31 v33).2.2.2.2.2.1):Int),0,o0 ++ zi (List.replicate 1 (0:Int)) 0 q2.1) else none) else Option.bind (ze0 (o0,())) fun q3=>some (q3.1,q3.2.1,())
abbrev zoF (K:Nat):yz→Option (Int × (Int × Unit)):=zm (fun k0=>zaI (zc3 K k0) k0) K
theorem zyt (K:Nat):∀ n,evV Es5 K Tryz.f137 0 (ch [tU,tI]) [1,1,1,1,1,0,1,0] [] zoE n = zm (fun k0=>zaI (zc3 K k0) k0) n:=zdb (B:=fun L1 k0=>zaI L1 k0) (V1:=fun n0=>evV Es5 K Tryz.f137 0 (ch [tU,tI]) [1,1,1,1,1,0,1,0,0,1,1,0,0,1,1,1,1,1,0] [n0] zoD K) (W1:=fun k0=>(zc3 K k0)) (fun n0=>zys K n0 K) fun n0 (v1,v31,v32,v33,o0)=>by kernel_rfl
def zhO (L0:yz→Option (Int × (Int × Unit))):(zb × (Int × Unit))→Option (Int × (Int × Unit)):=fun (x0,x1,()) =>
  Option.bind (jb (x1,())) fun q0=>bif q0.1 then Option.bind (zjc (x0.2.2.2.1,x1,())) fun q1=>bif q1.2.1 != 0 then some (0,q1.2.1,()) else L0 (x1,x0.2.1,((List.length x0.2.1):Int),0,[q1.1]) else some (0,1,())
def zhP:(zb × Int × Unit)→Option (Int × Int × Unit):=zhO (zoF K0)
abbrev zsi:Fun:=⟨137,(ch [zq,tI]),(ch [tU,tI]),0,zhP⟩
theorem zB1:Sq zsi:=ml5 (d:=false) (S:=fun K=>zhO (zoF K)) Tryz.func137 (by kernel_rfl) (fun K=>tr1 (T:=zhO) (zyt K K) fun (x0,x1,())=>by kernel_rfl) rfl
abbrev L6:List Fun:=zlL :: zsg :: zqr :: zsh :: zsi :: L5
theorem h6:Sds Tryz.prog E0 L6:=⟨zvc,zBZ,zz1,zB0,zB1,h5⟩
theorem ms6 {d:Bool} {F:Fun} {f:Go.Func} {K:Nat} (hf:Tryz.prog.funcs[F.id]? = some f) (ho:qX f = true) (h:evF (En E0 d L6) K f F.md F.a F.r = F.spec):Sd Tryz.prog E0 F:=mkS h6 hf ho h
theorem ml6 {d:Bool} {F:Fun} {f:Go.Func} {S:Nat→F.a.I→Option F.r.I} (hf:Tryz.prog.funcs[F.id]? = some f) (ho:qX f = true) (h:∀ K,evF (En E0 d L6) K f F.md F.a F.r = S K) (e:S K0 = F.spec):Sd Tryz.prog E0 F:=mkS h6 hf ho ((h K0).trans e)
abbrev Es6:Env:=En E0 false L6
abbrev zb2:Type:=Int × Int × ze × List (Option ((ze × Unit)→Option (Bool × Unit)))
abbrev zwZ:zb2→St:=fun (v6,v7,o0,o1)=>St.mk [(1,.bp 0 []),(5,.ow 1),(6,.dat tI v6),(7,.dat tI v7)] [.bx (.dat zy o0) false,.row (.fn (.pair zy .unit) (.pair .bool .unit)) o1 false]
def zec (k0:zb2→Option (Bool × Unit)):zb2→Option (Bool × Unit):=fun (v6,v7,o0,o1) =>
  bif decide (v7 < v6) then inR v7 ((List.length o1):Int) (Option.bind (List.getD o1 (Int.toNat v7) (zd (.fn (.pair zy .unit) (.pair .bool .unit)))) fun q0=>Option.bind (q0 (o0,())) fun q1=>bif q1.1 then k0 (v6,wI (v7 + 1),o0,o1) else some (false,())) else some (true,())
abbrev zm1 (K:Nat):zb2→Option (Bool × Unit):=zm zec K
theorem zw0 (K:Nat):∀ n,evV Es6 K Tryz.f94 0 (ch [.bool]) [1,0,1,0] [] zwZ n = zm zec n:=zw fun n0 (v6,v7,o0,o1)=>by kernel_rfl
def zjZ (L0:zb2→Option (Bool × Unit)):(ze × Unit)→Option (Bool × Unit):=fun (x0,()) =>
  L0 (((List.length (zi (zi (zi (zi (zi (zi (List.replicate 6 (zd (.fn (.pair zy .unit) (.pair .bool .unit)))) 0 (some vw)) 1 (some vZ)) 2 (some jE)) 3 (some vu)) 4 (some vv)) 5 (some yQ))):Int),0,x0,[some vw,some vZ,some jE,some vu,some vv,some yQ])
def zaa:(ze × Unit)→Option (Bool × Unit):=zjZ (zm1 K0)
abbrev zqs:Fun:=⟨94,(ch [zy]),(ch [.bool]),0,zaa⟩
theorem zz2:Sq zqs:=ml6 (d:=false) (S:=fun K=>zjZ (zm1 K)) Tryz.func94 (by kernel_rfl) (fun K=>tr1 (T:=zjZ) (zw0 K K) fun (x0,())=>by kernel_rfl) rfl
def zed:(zg × Unit)→Option (Bool × Unit):=fun (x0,()) =>
  Option.bind (zhM (x0.1,())) fun q0=>bif q0.1 then Option.bind (zlB (x0.2.1,())) fun q1=>bif q1.1 then Option.bind (zbn (x0.2.2.1,())) fun q2=>bif q2.1 then Option.bind (zhN (x0.2.2.2.1,())) fun q3=>bif q3.1 then Option.bind (zga (x0.2.2.2.2.1,())) fun q4=>bif q4.1 then some (true,()) else some (false,()) else some (false,()) else some (false,()) else some (false,()) else some (false,())
abbrev zm2:Fun:=⟨103,(ch [zn]),(ch [.bool]),0,zed⟩
theorem zw1:Sq zm2:=ms6 (d:=false) (K:=0) Tryz.func103 (by kernel_rfl) (funext fun (x0,())=>by kernel_rfl)
abbrev zb3:Type:=Int × Int × (List zg) × Int × Int × qI
abbrev zm3:zb3→St:=fun (v3,v10,v15,v16,v17,o0)=>St.mk [(1,.bp 0 []),(3,.dat tI v3),(10,.dat tI v10),(15,.dat (.sl zn) v15),(16,.dat tI v16),(17,.dat tI v17)] [.bx (.dat qa o0) false]
abbrev vM:Type:=Int × qI
abbrev zm4:vM→St:=fun (v10,o0)=>St.mk [(1,.bp 0 []),(10,.dat tI v10)] [.bx (.dat qa o0) false]
def zb4 (k0:vM→Option (Bool × Unit)) (k1:zb3→Option (Bool × Unit)):zb3→Option (Bool × Unit):=fun (v3,v10,v15,v16,v17,o0) =>
  bif decide (v17 < v16) then inR v17 ((List.length v15):Int) (inR v3 (↑4:Int) (inR v17 ((List.length o0.1.2.2.2.2.1):Int) (bif decide (List.getD (ix zf v15 v17).2.2.2.2.2.2.2.1 (Int.toNat v3) (0:Int) > (ix jU o0.1.2.2.2.2.1 v17).2.2.2.2.2.1) then some (false,()) else k1 (v3,v10,v15,v16,wI (v17 + 1),o0)))) else Option.bind (zhP (o0.2.1,v3,())) fun q0=>Option.bind (zhK (o0.2.1,v3,())) fun q1=>bif q0.2.1 != 0 then some (false,()) else bif q1.2.1 != 0 then some (false,()) else bif q0.1 != q1.1 then some (false,()) else k0 (wI (v10 + 1),o0)
abbrev zb5 (K:Nat) (k0:vM→Option (Bool × Unit)):zb3→Option (Bool × Unit):=zm (fun k1=>zb4 k0 k1) K
theorem zw2 (K:Nat) (n0:Nat):∀ n,evV Es6 K Tryz.f68 0 (ch [.bool]) [1,0,1,0,0,1,1,0,0,1,0,1,0] [n0] zm3 n = zm (fun k1=>zb4 (evV Es6 K Tryz.f68 0 (ch [.bool]) [1,0,1,0] [] zm4 n0) k1) n:=zw fun n1 (v3,v10,v15,v16,v17,o0)=>by kernel_rfl
def zb6 (L1:zb3→Option (Bool × Unit)) (k0:vM→Option (Bool × Unit)):vM→Option (Bool × Unit):=fun (v10,o0) =>
  bif decide (v10 < 4) then L1 (v10,v10,o0.2.1.2.1,((List.length o0.2.1.2.1):Int),0,o0) else some (true,())
abbrev zm5 (K:Nat):vM→Option (Bool × Unit):=zm (fun k0=>zb6 (zb5 K k0) k0) K
theorem zw3 (K:Nat):∀ n,evV Es6 K Tryz.f68 0 (ch [.bool]) [1,0,1,0] [] zm4 n = zm (fun k0=>zb6 (zb5 K k0) k0) n:=zdb (B:=fun L1 k0=>zb6 L1 k0) (V1:=fun n0=>evV Es6 K Tryz.f68 0 (ch [.bool]) [1,0,1,0,0,1,1,0,0,1,0,1,0] [n0] zm3 K) (W1:=fun k0=>(zb5 K k0)) (fun n0=>zw2 K n0 K) fun n0 (v10,o0)=>by kernel_rfl
def zj0 (L0:vM→Option (Bool × Unit)):(qI × Unit)→Option (Bool × Unit):=fun (x0,()) =>
  L0 (0,x0)
def zdM:(qI × Unit)→Option (Bool × Unit):=zj0 (zm5 K0)
abbrev zqt:Fun:=⟨68,(ch [qa]),(ch [.bool]),0,zdM⟩
theorem zz3:Sq zqt:=ml6 (d:=false) (S:=fun K=>zj0 (zm5 K)) Tryz.func68 (by kernel_rfl) (fun K=>tr1 (T:=zj0) (zw3 K K) fun (x0,())=>by kernel_rfl) rfl
def zhQ:((List zj) × (ByteArray × (Int × Unit)))→Option ((List zj) × (Int × (Int × Unit))):=fun (x0,x1,x2,()) =>
  Option.bind (zbn (x0,())) fun q0=>bif q0.1 then Option.bind (jD ((1,x2,(zd qi).2.2),())) fun q1=>bif q1.1 then Option.bind (yR (x1,())) fun q2=>bif q2.1 then Option.bind (zcq (x0,())) fun q3=>Option.bind (zkx ((true,x1,(zd zl).2.2),(1,x2,(zd qi).2.2),())) fun q4=>Option.bind (ze4 (q3.1,q4.1,())) fun q5=>some q5 else some ([],0,2,()) else some ([],0,1,()) else some ([],0,1,())
abbrev zsj:Fun:=⟨73,(ch [(.sl zl),.str,tI]),(ch [(.sl zl),tI,tI]),0,zhQ⟩
theorem zB2:Sq zsj:=ms6 (d:=false) (K:=0) Tryz.func73 (by kernel_rfl) (funext fun (x0,x1,x2,())=>by kernel_rfl)
def za0:((List zj) × (Int × (qF × (qF × Unit))))→Option ((List zj) × (Int × Unit)):=fun (x0,x1,x2,x3,()) =>
  Option.bind (zbn (x0,())) fun q0=>bif q0.1 then Option.bind (jD (x2,())) fun q1=>bif q1.1 then Option.bind (jD (x3,())) fun q2=>bif q2.1 then Option.bind (zcq (x0,())) fun q3=>Option.bind (ze1 (q3.1,x1,())) fun q4=>bif q4.1 then inR x1 ((List.length x0):Int) (Option.bind (zeU (ix zO x0 x1,())) fun q5=>bif !eqI qi q5.1 x2 then some ([],3,()) else Option.bind (zcq (x0,())) fun q6=>inR x1 ((List.length x0):Int) (Option.bind (zkx (ix zO x0 x1,x3,())) fun q7=>Option.bind (zaG (q6.1,x1,q7.1,())) fun q8=>some q8)) else some ([],3,()) else some ([],1,()) else some ([],1,()) else some ([],1,())
abbrev zsk:Fun:=⟨158,(ch [(.sl zl),tI,qi,qi]),(ch [(.sl zl),tI]),0,za0⟩
theorem zB3:Sq zsk:=ms6 (d:=false) (K:=0) Tryz.func158 (by kernel_rfl) (funext fun (x0,x1,x2,x3,())=>by kernel_rfl)
abbrev L7:List Fun:=zqs :: zm2 :: zqt :: zsj :: zsk :: L6
theorem h7:Sds Tryz.prog E0 L7:=⟨zz2,zw1,zz3,zB2,zB3,h6⟩
theorem ms7 {d:Bool} {F:Fun} {f:Go.Func} {K:Nat} (hf:Tryz.prog.funcs[F.id]? = some f) (ho:qX f = true) (h:evF (En E0 d L7) K f F.md F.a F.r = F.spec):Sd Tryz.prog E0 F:=mkS h7 hf ho h
theorem ml7 {d:Bool} {F:Fun} {f:Go.Func} {S:Nat→F.a.I→Option F.r.I} (hf:Tryz.prog.funcs[F.id]? = some f) (ho:qX f = true) (h:∀ K,evF (En E0 d L7) K f F.md F.a F.r = S K) (e:S K0 = F.spec):Sd Tryz.prog E0 F:=mkS h7 hf ho ((h K0).trans e)
abbrev Es7:Env:=En E0 false L7
abbrev Ed7:Env:=En E0 true L7
end
end Go.Proofs.YtejbgeokcpillaaGreatDoor
end
