import Derived.Test.YtokcjmkikhgkeaaGreatDoorMrc
import Derived.Carry
import Derived.OpenShut
import Derived.Test.YtokcjmkikhgkeaaGreatDoorProg
set_option linter.unusedSimpArgs false
set_option linter.unusedVariables false
section
namespace Go.Ev
open Go.RowKit
section
variable {P:Program} {nt:Up} {F0 F G:FH} {w0 w:World} {st st':St} {m:MM} {a:Act} {E:Env} {v:AV} {u:Value}
def zmV (ids:Nat→Option Nat) (h:List Obj):(b:Ty)→Nat→b.I→List AV→Prop
  | .pair (.sl σ) b,i,x,v :: vs=>(∃ id,v = .ow id ∧ ids i = some id ∧ atN h id = some (mkO σ (bif σ.deep then some (List.length x.1) else none) x.1)) ∧ zmV ids h b (i + 1) x.2 vs
  | .pair a b,i,x,v :: vs=>v = .dat a x.1 ∧ zmV ids h b (i + 1) x.2 vs
  | .unit,_,_,[]=>True
  | _,_,_,_=>False
theorem zmV.ids {ids ids':Nat→Option Nat} {h:List Obj}:∀ {b:Ty} {i:Nat} {x:b.I} {vs:List AV},(∀ f,i ≤ f→ids' f = ids f)→zmV ids h b i x vs→zmV ids' h b i x vs:=by
  intro b
  induction b with
  | unit=>intro i x vs _ ho; cases vs <;> exact ho
  | pair t b _ ihb =>
    intro i x vs hi ho
    cases vs with
    | nil=>cases t <;> exact ho.elim
    | cons v vs =>
      cases t with
      | sl σ =>
        obtain ⟨⟨id,h1,h2,h3⟩,h4⟩:=ho
        exact ⟨⟨id,h1,by rw [hi i (Nat.le_refl _)]; exact h2,h3⟩,ihb (fun f hf=>hi f (by omega)) h4⟩
      | _=>exact ⟨ho.1,ihb (fun f hf=>hi f (by omega)) ho.2⟩
  | _=>intro i x vs _ ho; cases vs <;> exact ho.elim
theorem zmV.heap {ids:Nat→Option Nat} {h h':List Obj}:∀ {b:Ty} {i:Nat} {x:b.I} {vs:List AV},(∀ f id,ids f = some id→atN h' id = atN h id)→zmV ids h b i x vs→zmV ids h' b i x vs:=by
  intro b
  induction b with
  | unit=>intro i x vs _ ho; cases vs <;> exact ho
  | pair t b _ ihb =>
    intro i x vs hi ho
    cases vs with
    | nil=>cases t <;> exact ho.elim
    | cons v vs =>
      cases t with
      | sl σ =>
        obtain ⟨⟨id,h1,h2,h3⟩,h4⟩:=ho
        exact ⟨⟨id,h1,h2,by rw [hi _ _ h2]; exact h3⟩,ihb hi h4⟩
      | _=>exact ⟨ho.1,ihb hi ho.2⟩
  | _=>intro i x vs _ ho; cases vs <;> exact ho.elim
theorem zFg {h h0 h1:List Obj} (hdr:∀ i τ xs k,atN h i = some (.drow τ xs k)→τ.deep = true) {t:Ty} {x:t.I} (hz:zts h0 t v = some (x,h1)) (l:yF h0 h) :
    (v = .dat t x ∧ t.dl = false ∧ h1 = h0) ∨ ∃ (σ:Ty) (xs:List σ.I) (id:Nat),(⟨t,x⟩:(τ:Ty) × τ.I) = ⟨.sl σ,xs⟩ ∧ v = .ow id ∧ atN h id = some (mkO σ (bif σ.deep then some (List.length xs) else none) xs) ∧ atN h0 id ≠ some .gone ∧ (∃ o,atN h0 id = some o) ∧ h1 = zi h0 id .gone:=by
  cases v with
  | dat τ y =>
    simp only [zts] at hz
    obtain ⟨hdl,hz⟩:=qo hz
    split at hz
    · rename_i z hc
      cases hz
      obtain ⟨rfl,rfl⟩:=zM hc
      exact .inl ⟨rfl,hdl,rfl⟩
    · cases hz
  | ow id =>
    simp only [zts] at hz
    right
    split at hz
    · rename_i τ xs ho
      obtain ⟨hd,hz⟩:=qo hz
      split at hz
      · rename_i z hc
        cases hz
        obtain ⟨e,rfl⟩:=zM hc
        subst e
        refine ⟨τ,xs,id,rfl,rfl,?_,(by rw [ho]; intro e; cases e),⟨_,ho⟩,rfl⟩
        rw [l.at ho (by intro e; cases e),hd]
        rfl
      · cases hz
    · rename_i τ xs n ho
      split at hz
      · rename_i z hc
        obtain ⟨hn,hz⟩:=zb hz
        cases hz
        obtain ⟨e,rfl⟩:=zM hc
        subst e
        have hat:=l.at ho (by intro e; cases e)
        refine ⟨τ,xs,id,rfl,rfl,?_,(by rw [ho]; intro e; cases e),⟨_,ho⟩,rfl⟩
        rw [hat,hdr _ _ _ _ hat,of_decide_eq_true hn]
        rfl
      · cases hz
    · cases hz
  | _=>cases hz
theorem zx9 {h:List Obj} (hdr:∀ i τ xs k,atN h i = some (.drow τ xs k)→τ.deep = true):∀ {b:Ty} {vs:List AV} {x:b.I} {h0 h1:List Obj} (i:Nat),ownC b vs h0 = some (x,h1)→yF h0 h →
    ∃ ids:Nat→Option Nat,zmV ids h b i x vs ∧ yF h1 h ∧ (∀ f id,ids f = some id→i ≤ f ∧ atN h0 id ≠ some .gone ∧ atN h1 id = some .gone ∧ ∃ σ k xs,atN h id = some (mkO σ k xs)) ∧ (∀ j,atN h0 j = some .gone→atN h1 j = some .gone) ∧
      ∀ f f' id,ids f = some id→ids f' = some id→f = f':=by
  intro b
  induction b with
  | unit =>
    intro vs x h0 h1 i hz l
    cases vs with
    | nil=>cases hz; exact ⟨fun _=>none,trivial,l,fun f id e=>(by cases e),fun _ h=>h,fun f f' id e=>(by cases e)⟩
    | cons _ _=>cases hz
  | pair t b _ ihb =>
    intro vs x h0 h1 i hz l
    cases vs with
    | nil=>cases hz
    | cons v vs =>
      simp only [ownC] at hz
      split at hz
      · rename_i y h2 hy
        split at hz
        · rename_i ys h3 hys
          cases hz
          rcases zFg hdr hy l with ⟨rfl,hdl,rfl⟩ | ⟨σ,xs,id,e,rfl,hat,hng,⟨o,ho⟩,rfl⟩
          · obtain ⟨ids,g1,g2,g3,g4,g5⟩:=ihb (i + 1) hys l
            refine ⟨ids,?_,g2,fun f id hf=>⟨by have:=(g3 f id hf).1; omega,(g3 f id hf).2⟩,g4,g5⟩
            cases t with
            | sl σ=>cases hdl
            | _=>exact ⟨rfl,g1⟩
          · cases e
            obtain ⟨ids,g1,g2,g3,g4,g5⟩:=ihb (i + 1) hys (l.gone ho)
            have hid:atN (zi h0 id .gone) id = some .gone:=yo ho
            have hids:∀ f,i + 1 ≤ f→(if f = i then some id else ids f) = ids f:=fun f hf=>by rw [if_neg (by omega)]
            refine ⟨fun f=>if f = i then some id else ids f,⟨⟨id,rfl,if_pos rfl,hat⟩,g1.ids hids⟩,g2,fun f id' hf=>?_,fun j hj=>?_,fun f f' id' hf hf'=>?_⟩
            · by_cases e:f = i
              · simp only [e,if_true,Option.some.injEq] at hf
                subst hf
                exact ⟨by omega,hng,g4 _ hid,σ,_,_,hat⟩
              · simp only [e,if_false] at hf
                obtain ⟨k1,k2,k3,k4⟩:=g3 f id' hf
                refine ⟨by omega,fun hg=>k2 ?_,k3,k4⟩
                by_cases e2:id = id'
                · rw [← e2]; exact hid
                · rw [qn e2]; exact hg
            · refine g4 j ?_
              by_cases e2:id = j
              · rw [← e2]; exact hid
              · rw [qn e2]; exact hj
            · by_cases e:f = i <;> by_cases e':f' = i
              · omega
              · simp only [e,if_true,Option.some.injEq] at hf
                simp only [e',if_false] at hf'
                subst hf
                exact absurd hid (g3 f' _ hf').2.1
              · simp only [e,if_false] at hf
                simp only [e',if_true,Option.some.injEq] at hf'
                subst hf'
                exact absurd hid (g3 f _ hf).2.1
              · simp only [e,if_false] at hf
                simp only [e',if_false] at hf'
                exact g5 f f' id' hf hf'
        · cases hz
      · cases hz
  | _=>intro vs x h0 h1 i hz l; cases vs <;> cases hz
def MM.ofI (m:MM) (ids:Nat→Option Nat):Nat→Nat→List Nat→Option (Nat × Nat):=fun f=>match ids f with | some id=>m.d id | none=>fun _ _=>none
theorem MM.ofI_some {m:MM} {ids:Nat→Option Nat} {f j:Nat} {p:List Nat} {b:Nat × Nat} (h:m.ofI ids f j p = some b):∃ id,ids f = some id ∧ m.d id j p = some b:=by
  unfold MM.ofI at h
  cases hi:ids f with
  | none=>rw [hi] at h; cases h
  | some id=>rw [hi] at h; exact ⟨id,rfl,h⟩
theorem zC0 (h:Rel P nt F0 w0 st m F a w) {ids:Nat→Option Nat}:∀ {b:Ty} {i:Nat} {x:b.I} {vs:List AV} {cs:List Value},zmV ids st.h b i x vs→zS P st.h m F b vs cs→zgU P F w (fun f=>(ids f).bind m) (m.ofI ids) b i x cs:=by
  intro b
  induction b with
  | unit =>
    intro i x vs cs ho hv
    cases vs with
    | nil=>exact hv
    | cons _ _=>exact hv.elim
  | pair t b _ ihb =>
    intro i x vs cs ho hv
    cases vs with
    | nil=>exact hv.elim
    | cons v vs =>
      obtain ⟨c,d,rfl,h1,h2⟩:=hv
      cases t with
      | sl σ =>
        obtain ⟨⟨id,rfl,hi,hat⟩,h4⟩:=ho
        obtain ⟨σ',u,e1,rfl,hs,_⟩:=h1
        cases e1
        refine ⟨u,d,rfl,⟨fun j p bk n hp=>?_,?_⟩,ihb h4 h2⟩
        · obtain ⟨id',hi',hp⟩:=MM.ofI_some hp
          rw [hi] at hi'; cases hi'
          obtain ⟨⟨o,g1,g2⟩,_⟩:=h.dok _ _ _ _ _ hp
          rw [hat] at g1
          cases g1
          cases hd:σ.deep with
          | false=>rw [hd] at g2; cases g2
          | true =>
            rw [hd] at g2
            simp only [cond_true,mkO,Obj.deepAt,decide_eq_true_eq] at g2
            exact ⟨rfl,g2⟩
        · have hq:=zC.owAt hat (znn _ _ _) hs
          show match (ids i).bind m with | some (b,n)=>_ | none=>_
          rw [hi,Option.bind_some]
          cases hmi:m id with
          | none =>
            rw [hmi] at hq
            exact ⟨zzY (h.obs _ _ hat) hmi,hq.2⟩
          | some bn =>
            obtain ⟨bk,n⟩:=bn
            rw [hmi] at hq
            obtain ⟨cap,g1,g2,g3⟩:=hq
            refine ⟨cap,g1,g2,g3,?_⟩
            have:=zoA (h.obs _ _ hat) hmi
            have hd:m.ofI ids i = m.d id:=by unfold MM.ofI; rw [hi]
            rw [hd]
            exact this
      | _ =>
        obtain ⟨rfl,h4⟩:=ho
        exact ⟨c,d,rfl,h1.2,ihb h4 h2⟩
  | _=>intro i x vs cs ho; cases vs <;> exact ho.elim
theorem zC1 (h:Rel P nt F0 w0 st m F a w) {ids:Nat→Option Nat} (hat:∀ f id,ids f = some id→∃ σ k xs,atN st.h id = some (mkO σ k xs)) (hinj:∀ f f' id,ids f = some id→ids f' = some id→f = f'):zzL F w w0.heap.size (fun f=>(ids f).bind m) (m.ofI ids):=by
  refine ⟨fun f b n hf=>?_,fun f j p b n hp=>?_,fun f f' b n n' hf hf'=>?_,fun f j p b n f' j' p' n' hp hp'=>?_,fun f b n f' j p n' hf hp=>?_⟩
  · obtain ⟨id,hi,hf⟩:=Option.bind_eq_some_iff.1 hf
    obtain ⟨σ,k,xs,ho⟩:=hat f id hi
    obtain ⟨el,cs,c,d,_,_,_,hF,_⟩:=zoA (h.obs _ _ ho) hf
    have:=h.rng _ _ _ hf
    exact ⟨this.2.1,this.2.2,hF⟩
  · obtain ⟨id,hi,hp⟩:=MM.ofI_some hp
    have:=h.dok _ _ _ _ _ hp
    exact ⟨this.2.1,this.2.2.1,this.2.2.2.1⟩
  · obtain ⟨id,hi,hf⟩:=Option.bind_eq_some_iff.1 hf
    obtain ⟨id',hi',hf'⟩:=Option.bind_eq_some_iff.1 hf'
    have:=h.inj _ _ _ _ _ hf hf'
    subst this
    exact hinj _ _ _ hi hi'
  · obtain ⟨id,hi,hp⟩:=MM.ofI_some hp
    obtain ⟨id',hi',hp'⟩:=MM.ofI_some hp'
    obtain ⟨rfl,e2,e3⟩:=h.din _ _ _ _ _ _ _ _ _ hp hp'
    exact ⟨hinj _ _ _ hi hi',e2,e3⟩
  · obtain ⟨id,hi,hf⟩:=Option.bind_eq_some_iff.1 hf
    obtain ⟨id',hi',hp⟩:=MM.ofI_some hp
    exact (h.dok _ _ _ _ _ hp).2.2.2.2 _ _ hf
theorem zGb {ρ:Type} {h:List Obj} {σ:Ty} {v:AV} {k:σ.I→List Obj→Option ρ}:zDd h σ v k = (zts h σ v).bind fun p=>k p.1 p.2:=by
  unfold zDd zts
  cases v with
  | dat τ x =>
    simp only
    cases τ.dl with
    | true=>rfl
    | false=>simp only [cond_false]; cases qI τ σ x <;> rfl
  | ow id =>
    simp only
    cases atN h id with
    | none=>rfl
    | some o =>
      cases o with
      | row τ xs f =>
        cases f with
        | true=>rfl
        | false =>
          simp only
          cases τ.deep with
          | true=>rfl
          | false=>simp only [cond_false]; cases qI (.sl τ) σ xs <;> rfl
      | drow τ xs n =>
        simp only
        cases qI (.sl τ) σ xs with
        | none=>rfl
        | some x=>simp only; cases decide (n = List.length xs) <;> rfl
      | _=>rfl
  | _=>rfl
theorem zAg {ρ:Type}:∀ {σ:Ty} {vs:List AV} {h:List Obj} {k:σ.I→List Obj→Option ρ},zuS σ vs h k = (ownC σ vs h).bind fun p=>k p.1 p.2:=by
  intro σ
  induction σ with
  | unit=>intro vs h k; cases vs <;> rfl
  | pair a b _ ihb =>
    intro vs h k
    cases vs with
    | nil=>rfl
    | cons v vs =>
      simp only [zuS,ownC,zGb,ihb]
      cases zts h a v with
      | none=>rfl
      | some p =>
        obtain ⟨x,h1⟩:=p
        simp only [Option.bind_some]
        cases ownC b vs h1 <;> rfl
  | _=>intro vs h k; cases vs <;> rfl
theorem zFh {md:Nat} {r:Ty} {y:r.I} {vs:List AV} {us:List Value} (h:Rel P nt F0 w0 st m F a w) (hv:jp P st.h m F vs us) (hz:zDe md r vs st = some y) :
    ∃ F',F0.grow F' w0.heap.size ∧ F'.ok w ∧ zij P F' w w0.heap.size md r y us:=by
  unfold zDe at hz
  split at hz
  ·
    rename_i b c v vs
    split at hz
    · rename_i x h1 hx
      split at hz
      · rename_i p hp
        cases hz
        obtain ⟨u,r,rfl,hv1,hv2⟩:=hv
        obtain ⟨id,k,rfl,hat,rfl,hkr⟩:∃ id k,v = .ow id ∧ atN st.h id = some (mkO b k x) ∧ h1 = zi st.h id .gone ∧ (k = none ∨ k = some 0):=by
          unfold zED at hx
          split at hx
          · rename_i id
            split at hx
            · rename_i τ xs ho
              split at hx
              · rename_i z hc
                cases hx
                obtain ⟨e,rfl⟩:=zM hc
                cases e
                exact ⟨id,none,rfl,ho,rfl,.inl rfl⟩
              · cases hx
            · rename_i τ xs n ho
              split at hx
              · rename_i z hc
                obtain ⟨hn,hx⟩:=zb hx
                cases hx
                obtain ⟨e,rfl⟩:=zM hc
                cases e
                have hn:n = 0:=of_decide_eq_true hn
                subst hn
                exact ⟨id,some 0,rfl,ho,rfl,.inr rfl⟩
              · cases hx
            · cases hx
          · cases hx
        obtain ⟨st2fr,st2h⟩:=st
        have l:yF (zi st2h id .gone) st2h:=(yF.refl st2h).gone hat
        obtain ⟨h',e1,e2,e3⟩:=zmU l (show jx false c vs ⟨st2fr,zi st2h id .gone⟩ = some (p.1,p.2) from hp)
        obtain ⟨m',F',g1,g2,g3⟩:=zdR e1 h hv2
        have hat':atN h' id = some (mkO b k x):=by rw [(e3.2 id (yo hat)).2]; exact hat
        have hq:=zC.owAt hat' (znn _ _ _) (show zC P h' m' F' (.ow id) u from hv1.ext g3)
        refine ⟨F',g1.gro,g1.fok,?_⟩
        simp only [zij]
        refine ⟨u,r,rfl,g2,?_⟩
        cases hmi:m' id with
        | none =>
          rw [hmi] at hq
          exact .inr ⟨zzY (g1.obs _ _ hat') hmi,hq.2⟩
        | some bn =>
          obtain ⟨bk,n⟩:=bn
          rw [hmi] at hq
          obtain ⟨cap,k1,k2,k3⟩:=hq
          obtain ⟨el,cs,cc,d,f1,f2,f3,f4,f5⟩:=zoA (g1.obs _ _ hat') hmi
          refine .inl ⟨bk,cap,el,cs,cc,d,k3,k2,(g1.rng _ _ _ hmi).2.1,f1,f4,by rw [f2,k1],f3,?_⟩
          rcases hkr with rfl | rfl
          · exact f5
          · exact zY.toL (fun j x c _ _ hx=>by unfold DE at hx; rw [if_neg (by omega)] at hx; exact hx) (show zY (DE P F' w (m'.d id) b 0) 0 x cc from f5)
      · cases hz
    · cases hz
  ·
    rename_i b c c' vs us'
    obtain ⟨hbc,hz⟩:=zb hz
    simp only [decide_eq_true_eq] at hbc
    rw [zAg] at hz
    obtain ⟨⟨x,h1⟩,hx,hz⟩:=Option.bind_eq_some_iff.1 hz
    · split at hz
      · rename_i p hp
        cases hz
        obtain ⟨u,r,rfl,hv1,hv2⟩:=hv
        obtain ⟨cs,rfl,hfs⟩:=(show zB P st.h m F (.fld c' vs) u from hv1)
        subst hbc
        obtain ⟨ids,k1,k2,k3,k4,k5⟩:=zx9 (fun i τ xs k ho=>(h.drowk ho).2) 0 hx (yF.refl _)
        obtain ⟨st2fr,st2h⟩:=st
        obtain ⟨h',e1,e2,e3⟩:=zmU k2 (show jx false c us' ⟨st2fr,h1⟩ = some (p.1,p.2) from hp)
        obtain ⟨m',F',g1,g2,g3⟩:=zdR e1 h hv2
        have hkeep:∀ f id,ids f = some id→atN h' id = atN st2h id:=fun f id hf=>(e3.2 id (k3 f id hf).2.2.1).2
        refine ⟨F',g1.gro,g1.fok,?_⟩
        simp only [zij]
        refine ⟨.agg cs,r,cs,_,_,rfl,g2,rfl,zC0 g1 (k1.heap hkeep) (hfs.ext g3),zC1 g1 (fun f id hf=>?_) k5⟩
        obtain ⟨σ,k,xs,ho⟩:=(k3 f id hf).2.2.2
        exact ⟨σ,k,xs,by rw [hkeep f id hf]; exact ho⟩
      · cases hz
  ·
    rename_i b c v us'
    rw [zAg] at hz
    obtain ⟨⟨x,h1⟩,hx,hz⟩:=Option.bind_eq_some_iff.1 hz
    · split at hz
      · rename_i p hp
        cases hz
        obtain ⟨u,r,rfl,hv1,hv2⟩:=hv
        obtain ⟨ids,k1,k2,k3,k4,k5⟩:=zx9 (fun i τ xs k ho=>(h.drowk ho).2) 0 hx (yF.refl _)
        obtain ⟨⟨id,rfl,hi0,hat0⟩,_⟩:=(show (∃ id,v = .ow id ∧ ids 0 = some id ∧ atN st.h id = some (mkO b _ x.1)) ∧ _ from k1)
        have hT:zaL st.h id = some b:=by rw [zrU hat0,znn]; rfl
        have hfs:zS P st.h m F (.pair (.sl b) .unit) [.ow id] [u]:=⟨[u],[],rfl,vz.ofRow hT (show zC P st.h m F (.ow id) u from hv1),rfl⟩
        obtain ⟨st2fr,st2h⟩:=st
        obtain ⟨h',e1,e2,e3⟩:=zmU k2 (show jx false c us' ⟨st2fr,h1⟩ = some (p.1,p.2) from hp)
        obtain ⟨m',F',g1,g2,g3⟩:=zdR e1 h hv2
        have hkeep:∀ f id,ids f = some id→atN h' id = atN st2h id:=fun f id hf=>(e3.2 id (k3 f id hf).2.2.1).2
        refine ⟨F',g1.gro,g1.fok,?_⟩
        simp only [zij]
        refine ⟨u,r,_,_,rfl,g2,zC0 g1 (k1.heap hkeep) (hfs.ext g3),zC1 g1 (fun f id hf=>?_) k5⟩
        obtain ⟨σ,k,xs,ho⟩:=(k3 f id hf).2.2.2
        exact ⟨σ,k,xs,by rw [hkeep f id hf]; exact ho⟩
      · cases hz
  ·
    split at hz
    · rename_i p hp
      cases hz
      obtain ⟨m',F',g1,g2,_⟩:=zdR (x:=p.1) (st':=p.2) hp h hv
      exact ⟨F',g1.gro,g1.fok,g2⟩
    · cases hz
  · cases hz
theorem zFi (hm:P.follows .mixedOrders = true) (hE:EnvOk P G E) {fi:FuncId} {f:Func} (hf:P.funcs[fi]? = some f) {K md:Nat} {a r:Ty} {x:a.I} {y:r.I} (he:evF E K f md a r x = some y)
    {F0:FH} {w:World} {vs:List Value} (hG:G.le F0) (hk:F0.ok w) (hr:RepA P F0 a x vs) :
    Calls P fi vs.toArray w fun e w'=>∃ us F',e = .returned (zom us) ∧ Below w.heap.size w w' ∧ F0.grow F' w.heap.size ∧ F'.ok w' ∧ zij P F' w' w.heap.size md r y us:=by
  unfold evF at he
  cases hb:f.body with
  | none=>rw [hb] at he; cases he
  | some c =>
    rw [hb] at he
    simp only at he
    have hE':EnvOk P G { E with nt:=f.ntmps }:=⟨hE.types,hE.funs,hE.glob,hE.ext,hE.hnd⟩
    refine calls_of_wp hf hb ?_
    refine zCZ (nt:=⟨f.ntmps,[],F0⟩) (F0:=F0) (w0:=w) (.inr rfl) hm hE' hG rfl c (r:=y) ?_ ⟨_,F0,Rel.enter hk hr f.ntmps⟩ he
    rintro e st a' w' ⟨m,F,h⟩ hfin
    have hdone:(cond ((f.results.toList.map (zcu { E with nt:=f.ntmps } st)).all Option.isSome) (zDe md r ((f.results.toList.map (zcu { E with nt:=f.ntmps } st)).filterMap id) st) none) = some y →
        a'.defers = [] ∧ ∃ v,(results f a'.tmps).run P w' = .ok v w' ∧ ∃ us F',Ending.returned v = .returned (zom us) ∧ Below w.heap.size w w' ∧ F0.grow F' w.heap.size ∧ F'.ok w' ∧ zij P F' w' w.heap.size md r y us:=by
      intro hfin
      obtain ⟨h1,h2⟩:=zb hfin
      obtain ⟨us,h3,h4⟩:=zsX hE' h (zjy h1)
      obtain ⟨F',g1,g2,g3⟩:=zFh h h4 h2
      exact ⟨h.dfr,_,h3,us,F',rfl,h.bel,g1,g2,g3⟩
    cases e with
    | normal=>exact hdone hfin
    | ret=>exact hdone hfin
    | exit id=>cases hfin
theorem jp.one {h:List Obj}:∀ {vs:List AV} {us:List Value},jp P h m F vs us→vs.all AV.one = true→ziM P h m F vs us
  | [],_,e,_=>e
  | v :: vs,_,⟨u,r,e,h1,h2⟩,ho=>by
    simp only [List.all_cons,Bool.and_eq_true] at ho
    rw [zh.eq1 (by rintro ws rfl; cases ho.1)] at h1
    exact ⟨u,r,e,h1,jp.one h2 ho.2⟩
theorem zvr:∀ {vs:List AV} {us:List Value} {h:List Obj} {m:MM} {F:FH} {i t:Nat} {v:AV},look (slots vs i) t = some v→jp P h m F vs us→i ≤ t ∧ ∃ u,us[t - i]? = some u ∧ zh P h m F v u
  | [],_,_,_,_,_,_,_,h,_=>by simp [slots,look] at h
  | x :: vs,_,hp,m,F,i,t,v,h,⟨u,r,rfl,h1,h2⟩=>by
    simp only [slots] at h
    by_cases e:i = t
    · subst e
      simp only [look,beq_self,cond_true,Option.some.injEq] at h
      subst h
      exact ⟨Nat.le_refl _,u,by simp,h1⟩
    · simp only [look,zaN e,cond_false] at h
      obtain ⟨g1,u',g2,g3⟩:=zvr h h2
      refine ⟨by omega,u',?_,g3⟩
      rw [show t - i = (t - (i + 1)) + 1 by omega,List.getElem?_cons_succ]
      exact g2
theorem zGT (hm:P.follows .mixedOrders = true) (hE:EnvOk P G E) {fi:FuncId} {f:Func} (hf:P.funcs[fi]? = some f) (hn:(f.name == "runtime.NumGoroutine") = false) (hb':f.body.isNone = false):zHd P G fi (zHm E f):=by
  refine ⟨⟨f,hf,hn,hb'⟩,fun args h h' v he nt F0 w0 fr m F a w vs hG hr hv=>?_⟩
  change zoH E f (AV × List Obj) args h (fun v h=>some (v,h)) = some (v,h') at he
  unfold zoH at he
  cases hb:f.body with
  | none=>rw [hb] at he; cases he
  | some c =>
    rw [hb] at he
    simp only at he
    have hE':EnvOk P G (inE E f):=⟨hE.types,hE.funs,hE.glob,hE.ext,hE.hnd⟩
    refine calls_of_wp hf hb ?_
    let up:List (AV × Value):=fr.filterMap (fun p=>(look fr p.1).map fun v=>(v,a.tmps.getD p.1 undef)) ++ nt.up
    have hup:∀ v u,(v,u) ∈ up→zh P h m F v u:=by
      intro v u hv
      rcases List.mem_append.1 hv with hv | hv
      · obtain ⟨p,hp,e⟩:=List.mem_filterMap.1 hv
        obtain ⟨v',h1,h2⟩:=Option.map_eq_some_iff.1 e
        cases h2
        exact hr.fr _ _ h1
      · exact hr.up v u hv
    have hst:Rel P ⟨f.ntmps,up,F⟩ F0 w0 ⟨slots args 0,h⟩ m F { tmps:=vs.toArray ++ Array.replicate (f.ntmps - vs.toArray.size) undef,defers:=[] } w:=by
      refine ⟨by simp; omega,fun t v ht=>?_,hup,.refl F,hr.obs,hr.inj,hr.rng,hr.dok,hr.din,hr.fok,hr.gro,hr.bel,rfl⟩
      obtain ⟨_,u,h2,h3⟩:=zvr ht hv
      rw [Nat.sub_zero] at h2
      have hlt:=(List.getElem?_eq_some_iff.1 h2).1
      have:(vs.toArray ++ Array.replicate (f.ntmps - vs.toArray.size) undef).getD t undef = u:=by
        rw [Array.getD_eq_getD_getElem?,Array.getElem?_append_left (by simpa using hlt)]
        simp [h2]
      rw [this]
      exact h3
    refine zCZ (nt:=⟨f.ntmps,up,F⟩) (F0:=F0) (w0:=w0) (.inl rfl) hm hE' hG rfl c (r:=(v,h')) ?_ ⟨m,F,hst⟩ he
    rintro e st a' w' ⟨m',F',h2⟩ hfin
    have hdone:(cond ((f.results.toList.map (zcu (inE E f) st)).all Option.isSome && ((f.results.toList.map (zcu (inE E f) st)).filterMap id).all AV.one) (some (unT ((f.results.toList.map (zcu (inE E f) st)).filterMap id),st.h)) none) = some (v,h') →
        a'.defers = [] ∧ ∃ v1,(results f a'.tmps).run P w' = .ok v1 w' ∧ ∃ u m' F',Ending.returned v1 = .returned u ∧ F.le F' ∧ Rel P nt F0 w0 ⟨fr,h'⟩ m' F' a w' ∧ zh P h' m' F' v u:=by
      intro hfin
      obtain ⟨g1,g2⟩:=zb hfin
      rw [Bool.and_eq_true] at g1
      cases g2
      obtain ⟨us,g3,g4⟩:=zsX hE' h2 (zjy g1.1)
      refine ⟨h2.dfr,_,g3,_,m',F',rfl,h2.lo,⟨hr.nt,fun t v ht=>?_,fun v u hv=>h2.up v u (List.mem_append.2 (.inr hv)),hr.lo.trans h2.lo,h2.obs,h2.inj,h2.rng,h2.dok,h2.din,h2.fok,h2.gro,h2.bel,hr.dfr⟩,zcF (jp.one g4 g1.2)⟩
      have hmem:∀ (l:List (Nat × AV)),look l t = some v→∃ p ∈ l,p.1 = t:=by
        intro l
        induction l with
        | nil=>intro h; simp [look] at h
        | cons p l ih =>
          intro h
          obtain ⟨k,y⟩:=p
          simp only [look] at h
          cases hb:Nat.beq k t with
          | true=>exact ⟨(k,y),by simp,Nat.eq_of_beq_eq_true hb⟩
          | false=>rw [hb] at h; obtain ⟨p,hp,e⟩:=ih h; exact ⟨p,by simp [hp],e⟩
      obtain ⟨p,hp,rfl⟩:=hmem fr ht
      exact h2.up v _ (List.mem_append.2 (.inl (List.mem_filterMap.2 ⟨p,hp,by rw [ht]; rfl⟩)))
    cases e with
    | normal=>exact hdone hfin
    | ret=>exact hdone hfin
    | exit id=>cases hfin
end
end Go.Ev
end
section
namespace Go.Ev
open Go.RowKit Go.ChangeShapes
def InR:(τ:Ty)→τ.I→Prop
  | .int k,n=>(Lit.int k n).wf = true
  | .str,s=>ByteArray.size s ≤ maxLen
  | .pair a b,x=>InR a x.1 ∧ InR b x.2
  | .st a,x=>InR a x
  | .arr n a,xs=>List.length xs = n ∧ ∀ x ∈ (show List a.I from xs),InR a x
  | .sl a,xs=>List.length xs ≤ maxLen ∧ ∀ x ∈ (show List a.I from xs),InR a x
  | _,_=>True
def Ty.data:Ty→Bool
  | .bool | .int _ | .str | .unit=>true
  | .pair a b=>a.data && b.data
  | .st a=>a.data
  | .arr _ a=>a.data
  | .sl a=>a.data
  | _=>false
mutual
def dbk {H:Type}:DataW H→Nat
  | .slice elems _=>zfx elems + 1
  | .agg parts=>zfx parts + 1
  | _=>1
def zfx {H:Type}:List (DataW H)→Nat
  | []=>0
  | d :: r=>dbk d + zfx r
end
def bkI:(τ:Ty)→τ.I→Nat
  | .unit,_=>0
  | .pair a b,x=>bkI a x.1 + bkI b x.2
  | .st a,x=>bkI a x + 1
  | .arr _ a,xs=>(List.map (bkI a) xs).sum + 1
  | .sl a,xs=>(List.map (bkI a) xs).sum + 1
  | _,_=>1
theorem zr4 {H:Type} (d:DataW H):1 ≤ dbk d:=by cases d <;> simp [dbk]
section
variable {P:Program} {H:Type} {enc:TypeId × Value→H} {w:World} {base:Nat} {sp:Nat→Bool} {held:Bool}
theorem zAh {a:Addr} {j:Nat} {v:Value} (h:w.cell? (a.add j) = some v) (h0:a.spot = none ∨ j = 0):a.spot = none ∧ ∃ c el fz,w.heap[a.block]? = some (.cells c el fz) ∧ c[a.off + j]? = some v:=by
  have hs:a.spot = none:=by
    rcases h0 with h0 | rfl
    · exact h0
    · have:a.add 0 = a:=by unfold Addr.add; rfl
      rw [this] at h
      unfold World.cell? at h
      split at h
      · cases hsp:a.spot with
        | none=>rfl
        | some x=>rw [hsp] at h; simp at h
      · cases h
  refine ⟨hs,?_⟩
  rw [zoq hs] at h
  unfold World.cell? at h
  simp only at h
  split at h
  · rename_i c el fz hk
    exact ⟨c,el,fz,hk,by simpa using h⟩
  · cases h
theorem zAi {a:Addr} {n:Nat} {cs:List Value} (h:w.cells? base a n = some cs) (hn:0 < n):∃ c,FH.of w a.block = some c ∧ a.spot = none ∧ ∀ (j:Nat) (v:Value),cs[j]? = some v→c[a.off + j]? = some v:=by
  obtain ⟨hb,hl,hc⟩:=World.cells?_some h
  have h0:=hc 0 hn
  rw [List.getElem?_eq_getElem (by omega)] at h0
  obtain ⟨hs,c,el,fz,hk,_⟩:=zAh h0 (.inr rfl)
  refine ⟨c,by simp [FH.of,hk],hs,fun j v hv=>?_⟩
  have hj:=(List.getElem?_eq_some_iff.1 hv).1
  have:=hc j (by omega)
  rw [hv] at this
  obtain ⟨_,c',_,_,hk',h2⟩:=zAh this (.inl hs)
  rw [hk] at hk'
  cases hk'
  exact h2
theorem zC2 {ad:Addr} {n:Nat} (hn:0 < n) {c:Array Value} (hs:ad.spot = none) (hc:FH.of w ad.block = some c):∀ (m i0:Nat) (css:List (List Value)),((List.range' i0 m).mapM fun i=>w.cells? base (ad.add (i * n)) n) = some css →
    ∀ (j:Nat) (v:Value),css.flatten[j]? = some v→c[ad.off + i0 * n + j]? = some v
  | 0,i0,css,h,j,v,hj=>by simp at h; subst h; simp at hj
  | m + 1,i0,css,h,j,v,hj=>by
    rw [List.range'_succ,List.mapM_cons] at h
    simp only [Option.bind_eq_bind,Option.bind_eq_some_iff,Option.pure_def,Option.some.injEq] at h
    obtain ⟨cs,h1,css',h2,rfl⟩:=h
    have hl:=(World.cells?_some h1).2.1
    obtain ⟨c',h3,_,h5⟩:=zAi h1 hn
    rw [zoq hs] at h3 h5
    simp only at h3 h5
    rw [hc] at h3
    cases h3
    rw [List.flatten_cons] at hj
    by_cases hjn:j < n
    · rw [List.getElem?_append_left (by omega)] at hj
      exact h5 j v hj
    · rw [List.getElem?_append_right (by omega),hl] at hj
      have:=zC2 hn hs hc m (i0 + 1) css' h2 (j - n) v hj
      rw [show ad.off + i0 * n + j = ad.off + (i0 + 1) * n + (j - n) by rw [Nat.add_mul]; omega]
      exact this
theorem ztH {α:Type} {R:α→List Value→Prop} {f:Nat→Option (List Value)} {g:List Value→Option (DataW H × List MemPlace)} {I:α→Prop} {bk:α→Nat} (hg:∀ cs y,g cs = some y→∃ x,R x cs ∧ I x ∧ bk x ≤ dbk y.1) :
    ∀ (l:List Nat) (ys:List (DataW H × List MemPlace)),(l.mapM fun i=>(f i).bind g) = some ys→∃ (xs:List α) (css:List (List Value)),xs.length = l.length ∧ l.mapM f = some css ∧ zq R xs css.flatten ∧ (∀ x ∈ xs,I x) ∧ (xs.map bk).sum ≤ zfx (ys.map (·.1))
  | [],ys,h=>⟨[],[],rfl,rfl,rfl,by simp,Nat.zero_le _⟩
  | i :: l,ys,h=>by
    rw [List.mapM_cons] at h
    simp only [Option.bind_eq_bind,Option.bind_eq_some_iff,Option.pure_def,Option.some.injEq] at h
    obtain ⟨y,⟨cs,hcs,hy⟩,ys',h2,rfl⟩:=h
    obtain ⟨x,hx,hI,hk⟩:=hg cs y hy
    obtain ⟨xs,css,h3,h4,h5,h6,h7⟩:=ztH hg l ys' h2
    refine ⟨x :: xs,cs :: css,by simp [h3],?_,⟨cs,css.flatten,rfl,hx,h5⟩,?_,by simp only [List.map_cons,List.sum_cons,zfx]; omega⟩
    · rw [List.mapM_cons,hcs,h4]; rfl
    · intro z hz
      rcases List.mem_cons.1 hz with rfl | hz
      · exact hI
      · exact h6 z hz
theorem zns {cs:List Value} {n:Nat}:∀ (m i0:Nat) (css:List (List Value)),(i0 + m) * n ≤ cs.length→((List.range' i0 m).mapM fun i=>some ((cs.drop (i * n)).take n)) = some css→css.flatten = (cs.drop (i0 * n)).take (m * n)
  | 0,i0,css,_,h=>by simp at h; subst h; simp
  | m + 1,i0,css,hl,h=>by
    rw [List.range'_succ,List.mapM_cons] at h
    simp only [Option.bind_eq_bind,Option.bind_some,Option.bind_eq_some_iff,Option.pure_def,Option.some.injEq] at h
    obtain ⟨css',h2,rfl⟩:=h
    have:=zns m (i0 + 1) css' (by rw [show i0 + 1 + m = i0 + (m + 1) by omega]; exact hl) h2
    rw [List.flatten_cons,this,Nat.add_mul i0 1 n,Nat.one_mul,← List.drop_drop,show (m + 1) * n = n + m * n by rw [Nat.add_mul]; omega,List.take_add]
theorem zGc:∀ (τ:Ty),τ.data = true →
    (∀ (fuel:Nat) (t:TypeId) (cs:List Value) (x:DataW H × List MemPlace),τ.np = true→zU P t τ→DataW.trod enc P w base sp held fuel t cs = some x→∃ y,Rep P (FH.of w) τ y cs ∧ InR τ y ∧ bkI τ y ≤ dbk x.1) ∧
    (∀ (fuel:Nat) (fs:List Field) (off:Nat) (cs:List Value) (xs:List (DataW H × List MemPlace)),(tyB P τ).2 fs off = true→(fs.mapM fun f=>DataW.trod enc P w base sp held fuel f.type ((cs.drop f.offset).take (P.cellsOf f.type))) = some xs→cs.length = off + nc τ→∃ y,Rep P (FH.of w) τ y (cs.drop off) ∧ InR τ y ∧ bkI τ y ≤ zfx (xs.map (·.1))):=by
  intro τ
  induction τ with
  | unit =>
    intro _
    refine ⟨fun fuel t cs x _ h=>(by cases h),fun fuel fs off cs xs h _ hl=>⟨(),?_,trivial,Nat.zero_le _⟩⟩
    show cs.drop off = []
    rw [List.drop_eq_nil_iff]
    simp only [nc] at hl
    omega
  | bool =>
    intro _
    refine ⟨fun fuel t cs x _ h hx=>?_,fun fuel fs off cs xs h=>(by cases h)⟩
    have hu:P.underlying t = some .bool:=by
      simp only [zU,tyB,Bool.and_eq_true] at h
      have:=h.2
      split at this
      · assumption
      · cases this
    cases fuel with
    | zero=>simp [DataW.trod] at hx
    | succ fuel =>
      unfold DataW.trod at hx
      rw [hu] at hx
      split at hx <;> first | (cases hx; done) | skip
      all_goals first | exact ⟨_,rfl,trivial,zr4 _⟩ | (rename_i hh; simp at hh)
  | int k =>
    intro _
    refine ⟨fun fuel t cs x _ h hx=>?_,fun fuel fs off cs xs h=>(by cases h)⟩
    have hu:P.underlying t = some (.int k):=by
      simp only [zU,tyB,Bool.and_eq_true] at h
      have:=h.2
      split at this
      · simp only [decide_eq_true_eq] at this; subst this; assumption
      · cases this
    cases fuel with
    | zero=>simp [DataW.trod] at hx
    | succ fuel =>
      unfold DataW.trod at hx
      rw [hu] at hx
      split at hx <;> first | (cases hx; done) | skip
      · rename_i hh; cases hh
      · rename_i k1 k2 n hh
        cases hh
        split at hx
        · rename_i hc; obtain ⟨rfl,hw⟩:=hc; exact ⟨n,rfl,hw,zr4 _⟩
        · cases hx
      all_goals (rename_i hh; simp at hh)
  | str =>
    intro _
    refine ⟨fun fuel t cs x _ h hx=>?_,fun fuel fs off cs xs h=>(by cases h)⟩
    have hu:P.underlying t = some .string:=by
      simp only [zU,tyB,Bool.and_eq_true] at h
      have:=h.2
      split at this
      · assumption
      · cases this
    cases fuel with
    | zero=>simp [DataW.trod] at hx
    | succ fuel =>
      unfold DataW.trod at hx
      rw [hu] at hx
      split at hx <;> first | (cases hx; done) | skip
      all_goals first
        | (rename_i hh; simp at hh; done)
        | (rename_i s hh; split at hx; · rename_i hc; exact ⟨s,rfl,hc,zr4 _⟩
           · cases hx)
        | skip
  | pair a b iha ihb =>
    intro hd
    simp only [Ty.data,Bool.and_eq_true] at hd
    refine ⟨fun fuel t cs x _ h hx=>?_,fun fuel fs off cs xs h hx hl=>?_⟩
    · rename_i hnp; cases hnp
    · cases fs with
      | nil=>cases h
      | cons f fs =>
        simp only [tyB,Bool.and_eq_true] at h
        obtain ⟨⟨⟨⟨h1,h2⟩,h3⟩,_⟩,h4⟩:=h
        obtain rfl:=Nat.eq_of_beq_eq_true h1
        obtain ⟨i,hi,hsz⟩:=zU.size h2 (Ty.np_spec h3.2)
        rw [List.mapM_cons] at hx
        simp only [Option.bind_eq_bind,Option.bind_eq_some_iff,Option.pure_def,Option.some.injEq] at hx
        obtain ⟨x1,hx1,xs2,hx2,rfl⟩:=hx
        have hcells:P.cellsOf f.type = nc a:=by unfold Program.cellsOf; rw [hi]; exact hsz
        rw [hcells] at hx1
        obtain ⟨y1,g1,g2,b1⟩:=(iha hd.1).1 fuel f.type _ x1 h3.2 h2 hx1
        simp only [nc] at hl
        obtain ⟨y2,g3,g4,b2⟩:=(ihb hd.2).2 fuel fs (f.offset + nc a) cs xs2 h4 hx2 (by omega)
        refine ⟨(y1,y2),⟨_,_,?_,g1,g3⟩,⟨g2,g4⟩,by simp only [bkI,List.map_cons,zfx]; omega⟩
        rw [← List.drop_drop,List.take_append_drop]
  | st a iha =>
    intro hd
    refine ⟨fun fuel t cs x _ h hx=>?_,fun fuel fs off cs xs h=>(by cases h)⟩
    obtain ⟨fs,hu,hf,_⟩:=zU.st h
    obtain ⟨i,hi,hsz⟩:=zU.size h (by intro a b e; cases e)
    have hcells:P.cellsOf t = nc a:=by unfold Program.cellsOf; rw [hi]; exact hsz
    cases fuel with
    | zero=>simp [DataW.trod] at hx
    | succ fuel =>
      unfold DataW.trod at hx
      rw [hu] at hx
      simp only at hx
      split at hx
      · rename_i hl
        simp only [Option.map_eq_some_iff] at hx
        obtain ⟨xs,hx,rfl⟩:=hx
        obtain ⟨y,g1,g2,b1⟩:=(iha hd).2 fuel fs.toList 0 cs xs hf hx (by omega)
        exact ⟨y,g1,g2,by simp only [bkI,dbk]; omega⟩
      · cases hx
  | arr n a iha =>
    intro hd
    refine ⟨fun fuel t cs x _ h hx=>?_,fun fuel fs off cs xs h=>(by cases h)⟩
    obtain ⟨e,hu,he,hpos,hnp,_⟩:=zU.arr h
    obtain ⟨i,hi,hsz⟩:=zU.size h (by intro a b e; cases e)
    obtain ⟨ie,hie,hsze⟩:=zU.size he (Ty.np_spec hnp)
    have hcells:P.cellsOf t = n * nc a:=by unfold Program.cellsOf; rw [hi]; exact hsz
    have hcellse:P.cellsOf e = nc a:=by unfold Program.cellsOf; rw [hie]; exact hsze
    cases fuel with
    | zero=>simp [DataW.trod] at hx
    | succ fuel =>
      unfold DataW.trod at hx
      rw [hu] at hx
      simp only at hx
      split at hx
      · rename_i hl
        simp only [Option.map_eq_some_iff] at hx
        obtain ⟨xs,hx,rfl⟩:=hx
        rw [hcellse] at hx
        obtain ⟨ys,css,h1,h2,h3,h4,h5⟩:=ztH (bk:=bkI a) (f:=fun i=>some ((cs.drop (i * nc a)).take (nc a))) (g:=DataW.trod enc P w base sp held fuel e) (R:=Rep P (FH.of w) a) (I:=InR a) (fun cs y hy=>(iha hd).1 fuel e cs y hnp he hy) (List.range n) xs hx
        rw [List.range_eq_range'] at h2
        have:=zns n 0 css (by rw [Nat.zero_add]; omega) h2
        rw [this] at h3
        simp only [Nat.zero_mul,List.drop_zero] at h3
        rw [List.take_of_length_le (by omega)] at h3
        refine ⟨ys,⟨by simpa using h1,h3⟩,⟨by simpa using h1,h4⟩,by simp only [bkI,dbk]; omega⟩
      · cases hx
  | sl a iha =>
    intro hd
    refine ⟨fun fuel t cs x _ h hx=>?_,fun fuel fs off cs xs h=>(by cases h)⟩
    obtain ⟨e,hu,he,hpos,hnp⟩:=zU.sl h
    obtain ⟨ie,hie,hsze⟩:=zU.size he (Ty.np_spec hnp)
    have hcellse:P.cellsOf e = nc a:=by unfold Program.cellsOf; rw [hie]; exact hsze
    cases fuel with
    | zero=>simp [DataW.trod] at hx
    | succ fuel =>
      unfold DataW.trod at hx
      rw [hu] at hx
      split at hx <;> first | (cases hx; done) | skip
      all_goals first
        | (rename_i hh; cases hh; done)
        | exact ⟨[],⟨_,0,rfl,Nat.le_refl _,fun hne=>absurd rfl hne⟩,⟨Nat.zero_le _,fun x hx=>(by cases hx)⟩,zr4 _⟩
        | skip
      rename_i e' ad len cap heq
      simp only [Option.some.injEq,TypeDesc.slice.injEq] at heq
      subst heq
      simp only at hx
      split at hx
      · rename_i hc
        simp only [Option.bind_eq_some_iff] at hx
        obtain ⟨elems,hx,hx2⟩:=hx
        rw [hcellse] at hx
        obtain ⟨ys,css,h1,h2,h3,h4,h5⟩:=ztH (bk:=bkI a) (f:=fun i=>w.cells? base (ad.add (i * nc a)) (nc a)) (g:=DataW.trod enc P w base sp held fuel e) (R:=Rep P (FH.of w) a) (I:=InR a) (fun cs y hy=>(iha hd).1 fuel e cs y hnp he hy) (List.range len) elems hx
        rw [List.length_range] at h1
        refine ⟨ys,⟨some ad,cap,by rw [h1],by rw [h1]; exact hc.2.1,fun hne=>?_⟩,⟨(show ys.length ≤ maxLen by omega),h4⟩,?_⟩
        rotate_left
        · obtain ⟨rest,-,rfl⟩:=Option.map_eq_some_iff.1 hx2
          simp only [bkI,dbk]; omega
        have hlen:0 < len:=by
          rw [← h1]
          exact List.length_pos_iff.2 hne
        rw [List.range_eq_range'] at h2
        obtain ⟨m,rfl⟩:∃ m,len = m + 1:=⟨len - 1,by omega⟩
        have h2':=h2
        rw [List.range'_succ,List.mapM_cons] at h2'
        simp only [Option.bind_eq_bind,Option.bind_eq_some_iff,Option.pure_def,Option.some.injEq] at h2'
        obtain ⟨cs0,g1,_⟩:=h2'
        rw [Nat.zero_mul,show ad.add 0 = ad from rfl] at g1
        obtain ⟨c,g2,g3,g4⟩:=zAi g1 hpos
        refine ⟨ad,css.flatten,rfl,⟨g3,c,g2,fun j v hv=>?_⟩,h3⟩
        have:=zC2 hpos g3 g2 (m + 1) 0 css h2 j v hv
        simpa using this
      · cases hx
  | ptr a=>intro hd; cases hd
  | fn a b=>intro hd; cases hd
def tyL (P:Program):Ty→List TypeId→Bool
  | .unit,[]=>true
  | .pair a b,t :: ts=>(tyB P a).1 t && a.np && a.data && tyL P b ts
  | _,_=>false
theorem zsY:∀ {τ:Ty} {ts:List TypeId} {vs:List Value} {ds:List (DataW H)} {ps:List MemPlace},tyL P τ ts = true→DataW.TrodAll enc P w base sp held ts vs ds ps→(∀ (j:Nat) (t:TypeId) (v:Value),ts[j]? = some t→vs[j]? = some v→∃ W r b,Value.okWide P W r b t v) →
    ∃ x,RepA P (FH.of w) τ x vs ∧ InR τ x ∧ bkI τ x ≤ zfx ds
  | .unit,[],[],[],ps,_,_,_=>⟨(),rfl,trivial,Nat.zero_le _⟩
  | .pair a b,t :: ts,v :: vs,d :: ds,ps,h,hr,hf=>by
    simp only [tyL,Bool.and_eq_true] at h
    obtain ⟨⟨⟨h1,h2⟩,h3⟩,h4⟩:=h
    obtain ⟨p,q,⟨fuel,h5⟩,h6,_⟩:=hr
    obtain ⟨y,g1,g2,b1⟩:=(zGc a h3).1 fuel t v.cells.toList (d,p) h2 h1 h5
    obtain ⟨x,g3,g4,b2⟩:=zsY h4 h6 fun j t v ht hv=>hf (j + 1) t v (by simpa using ht) (by simpa using hv)
    refine ⟨(y,x),⟨v,vs,rfl,g1,?_,g3⟩,⟨g2,g4⟩,by simp only [bkI,zfx]; exact Nat.add_le_add b1 b2⟩
    obtain ⟨W,r,b0,hform⟩:=hf 0 t v rfl rfl
    obtain ⟨de,hu,hagg⟩:=zU.isAgg h1
    unfold Value.okWide at hform
    rw [hu] at hform
    rw [← hagg]
    have hno:∀ cs,v = .agg cs→Cell.okWide P W r b0 t v→(match de with | .struct _ | .array _ _=>true | _=>false) = false→False:=by
      rintro cs rfl hc hde
      unfold Cell.okWide at hc
      rw [hu] at hc
      cases de <;> simp [Cell.ok,hu] at hc hde
    cases de <;> simp only at hform hno ⊢
    case struct=>obtain ⟨cs,rfl,_⟩:=hform; rfl
    case array=>obtain ⟨cs,rfl,_⟩:=hform; rfl
    all_goals (cases v <;> first | rfl | exact (hno _ rfl hform trivial).elim)
  | .unit,[],[],_ :: _,_,_,h,_=>h.elim
  | .unit,[],_ :: _,_,_,_,h,_=>(by cases h)
  | .unit,_ :: _,_,_,_,h,_,_=>(by cases h)
  | .pair _ _,[],_,_,_,h,_,_=>(by cases h)
  | .pair _ _,_ :: _,[],_,_,_,h,_=>(by cases h)
  | .pair _ _,_ :: _,_ :: _,[],_,_,h,_=>(by cases h)
  | .bool,_,_,_,_,h,_,_=>(by cases h)
  | .int _,_,_,_,_,h,_,_=>(by cases h)
  | .str,_,_,_,_,h,_,_=>(by cases h)
  | .st _,_,_,_,_,h,_,_=>(by cases h)
  | .arr _ _,_,_,_,_,h,_,_=>(by cases h)
  | .sl _,_,_,_,_,h,_,_=>(by cases h)
  | .ptr _,_,_,_,_,h,_,_=>(by cases h)
  | .fn _ _,_,_,_,_,h,_,_=>(by cases h)
theorem zpo {W W':World} (hl:laidOutB P = true) (hb:Below W.heap.size W W'):∀ {ts:List TypeId} {vs:List Value} {ds:List (DataW H)} {ps:List MemPlace},
    (∀ t ∈ ts,P.readableRec t = true ∧ t < P.types.size)→DataW.TrodAll enc P W 0 (fun _=>true) true ts vs ds ps→(∀ x ∈ ps,x.block < W.heap.size)→∀ s:Nat→Bool,(∀ p ∈ ps,s p.block = true)→DataW.TrodAll enc P W' 0 s true ts vs ds ps
  | [],[],[],ps,_,h,_,s,_=>h
  | t :: ts,v :: vs,d :: ds,ps,ht,⟨p,q,h1,h2,e⟩,hlt,s,hs=>by
    subst e
    have h0:=ht t (by simp)
    refine ⟨p,q,?_,zpo hl hb (fun t' h'=>ht t' (by simp [h'])) h2 (fun x hx=>hlt x (by simp [hx])) s (fun x hx=>hs x (by simp [hx])),rfl⟩
    exact WideElems.Trod_stays hl h0.1 h0.2 h1 (fun x hx=>hb.same (hlt x (by simp [hx]))) (fun x hx=>hs x (by simp [hx]))
  | [],[],_ :: _,_,_,h,_,_,_=>h.elim
  | [],_ :: _,_,_,_,h,_,_,_=>h.elim
  | _ :: _,[],_,_,_,h,_,_,_=>h.elim
  | _ :: _,_ :: _,[],_,_,h,_,_,_=>h.elim
end
section
variable {P:Program} {H:Type} {enc:TypeId × Value→H}
theorem law_contract {fi:FuncId} {f:Func} {a:Ty} {tb:TypeId} {spec:ChangeSpec} {W:World} {base:Nat} {args:Array Value} {ds gs:List (DataW H)} {before:List MemPlace}
    (hl:laidOutB P = true) (hts:∀ t ∈ f.params.toList,P.readableRec t = true ∧ t < P.types.size) (hty:tyL P a f.params.toList = true) (hres:f.resultTypes = #[tb]) (hbool:P.underlying tb = some .bool) (hvars:spec.vars = [])
    (hfn:∀ ds:List (DataW H),ds.length = f.params.size→spec.fn H ds = { results:=[.lit (.bool true)],args:=ds })
    (hval:∀ (j:Nat) t v,f.params[j]? = some t→args[j]? = some v→Value.okWide P W .any base t v)
    (hW:DataW.Whole enc P f.params.toList spec.vars false W args.toList ds gs before)
    (hcall:∀ x,InR a x→bkI a x ≤ zfx ds→RepA P (FH.of W) a x args.toList→Calls P fi args W fun e W'=>e = .returned (.bool true) ∧ Below W.heap.size W W') :
    Calls P fi args W fun e W'=>∃ v,e = .returned v ∧ spec.post enc P f false true false false W args v W':=by
  have hW':=hW
  obtain ⟨p,q,hA,hV,rfl,hfz,hnd⟩:=hW
  rw [hvars] at hV
  obtain ⟨rfl,rfl⟩:=trodVars_none hV
  have hlt:∀ x ∈ p,x.block < W.heap.size:=fun x hx=>by simpa using hW'.lt x (by simp [hx])
  obtain ⟨x,hx,hin,hbk⟩:=zsY (w:=W) hty hA fun j t v ht hv=>⟨W,.any,base,hval j t v (by rw [← Array.getElem?_toList]; exact ht) (by rw [← Array.getElem?_toList]; exact hv)⟩
  have hlen:∀ {ts:List TypeId} {vs:List Value} {ds:List (DataW H)} {ps:List MemPlace},DataW.TrodAll enc P W 0 (fun _=>true) true ts vs ds ps→ds.length = ts.length:=by
    intro ts
    induction ts with
    | nil=>intro vs ds ps h; cases vs <;> cases ds <;> first | rfl | exact h.elim
    | cons t ts ih=>intro vs ds ps h; cases vs <;> cases ds <;> first | exact h.elim | (obtain ⟨_,_,_,h2,_⟩:=h; simp [ih h2])
  have hfn':=hfn ds (by rw [hlen hA]; simp)
  refine (hcall x hin hbk hx).mono fun e W' ⟨he,hb⟩=>?_
  subst he
  simp only [List.append_nil] at *
  refine ⟨_,rfl,ds,[],p,[],p,[],hW',?_,?_,?_,hb.frame _,fun h=>(by cases h)⟩
  · rw [List.append_nil,hfn',hres]
    exact trodAll_cons_mk (shut_bool hbool _) trodAll_mk0
  · rw [List.append_nil,hfn']
    exact zpo hl hb hts hA hlt _ (fun x hx=>by simpa using hlt x hx)
  · rw [List.append_nil,hfn',hvars]
    rfl
end
end Go.Ev
end
section
namespace Go.Ev
open Go.RowKit
section
variable {P:Program} {G:FH} {E:Env}
theorem zmQ.mk (hm:P.follows .mixedOrders = true) (hE:EnvOk P G E) {fi:FuncId} {f:Func} (hf:P.funcs[fi]? = some f) (hn:(f.name == "runtime.NumGoroutine") = false) (hb:f.body.isNone = false)
    {F:Fun} (h:∀ x y,F.spec x = some y→∃ K,evF E K f F.md F.a F.r x = some y):zmQ P G fi F:=by
  refine ⟨⟨f,hf,hn,hb⟩,fun x y hy F0 w vs hG hk hr=>?_⟩
  obtain ⟨K,he⟩:=h x y hy
  exact zFi hm hE hf he hG hk hr
theorem EnvOk.nil {types:TT} {nt:Nat} {dp:Bool} (ht:types.all (fun k τ=>(tyB P τ).1 k) = true) {glob:List (Nat × AV)} (hg:∀ g v,look glob g = some v→∃ τ x cs,v = .dat (.ptr τ) (some x) ∧ At G ⟨g,0,none⟩ cs ∧ Rep P G τ x cs) {ext:List (Nat × Bool)} {jn:List Nat} (hx:∀ f add,look ext f = some add→ExtOk P f add):EnvOk P G ⟨types,[],glob,nt,dp,ext,jn,fun _=>none,false,false⟩ :=
  ⟨fun t τ h=>TT.all_look ht h,fun f F h=>by simp [look] at h,hg,hx,fun f H h=>by cases h⟩
theorem EnvOk.deep (hE:EnvOk P G E) (d:Bool):EnvOk P G { E with deep:=d }:=⟨hE.types,hE.funs,hE.glob,hE.ext,hE.hnd⟩
theorem EnvOk.cons (hE:EnvOk P G E) {fi:FuncId} {F:Fun} (h:zmQ P G fi F):EnvOk P G { E with funs:=(fi,F) :: E.funs }:=by
  refine ⟨hE.types,fun f F' h'=>?_,hE.glob,hE.ext,hE.hnd⟩
  simp only [look] at h'
  cases hb:Nat.beq fi f with
  | true =>
    rw [hb] at h'
    simp only [cond_true,Option.some.injEq] at h'
    subst h'
    rw [← Nat.eq_of_beq_eq_true hb]
    exact h
  | false=>rw [hb] at h'; exact hE.funs f F' h'
end
end Go.Ev
end
section
namespace Go.Ev
theorem zAj {n:Nat} (h:n ≤ Go.maxLen):IntKind.wrap .i64 (n:Int) = (n:Int):=by
  unfold Go.maxLen at h
  exact IntWalk.i64_in _ (by omega)
def vC {α:Type} (p:α→Bool):List α→Int→Int
  | [],_=>-1
  | x :: xs,i=>cond (p x) i (vC p xs (i + 1))
theorem ztI {α:Type} {p:α→Bool}:∀ (xs:List α) (i:Int),0 ≤ i→decide (vC p xs i ≥ 0) = xs.any p
  | [],_,_=>rfl
  | x :: xs,i,h=>by
    have ih:=ztI (p:=p) xs (i + 1) (by omega)
    simp only [vC,List.any_cons]
    by_cases hp:p x = true
    · simp [hp,h]
    · simp only [Bool.not_eq_true] at hp
      simp only [hp,cond_false,Bool.false_or]
      exact ih
end Go.Ev
end
section
namespace Go.Ev
theorem zvs {i len:Nat} (h:i < len) (hl:len ≤ Go.maxLen):IntKind.wrap .i64 ((i:Int) + 1) = (i:Int) + 1:=by
  rw [show (i:Int) + 1 = ((i + 1:Nat):Int) by omega]
  exact zAj (by omega)
theorem zbA {α:Type} {l:List α} {i:Nat} (d:α) (h:i < l.length):l.drop i = l.getD i d :: l.drop (i + 1):=by
  rw [List.drop_eq_getElem_cons h]
  simp [List.getD,h]
theorem zGd {σ ρ:Type} {L:Nat→Int→σ→Option ρ} {len:Nat} (hl:len ≤ Go.maxLen) (F:Nat→σ→Option ρ) (I:Nat→σ→Prop)
    (hstep:∀ n i s,i < len→I i s→(∀ s',I (i + 1) s'→L n ((i:Int) + 1) s' = F (i + 1) s')→L (n + 1) (i:Int) s = F i s)
    (hend:∀ n s,I len s→L (n + 1) (len:Int) s = F len s) :
    ∀ (k i n:Nat) (s:σ),i + k = len→k < n→I i s→L n (i:Int) s = F i s:=by
  intro k
  induction k with
  | zero =>
    intro i n s hi hn hI
    obtain ⟨m,rfl⟩:∃ m,n = m + 1:=⟨n - 1,by omega⟩
    obtain rfl:i = len:=by omega
    exact hend m s hI
  | succ k ih =>
    intro i n s hi hn hI
    obtain ⟨m,rfl⟩:∃ m,n = m + 1:=⟨n - 1,by omega⟩
    refine hstep m i s (by omega) hI fun s' hI'=>?_
    have:=ih (i + 1) m s' (by omega) (by omega) hI'
    rw [show (i:Int) + 1 = ((i + 1:Nat):Int) by omega]
    exact this
theorem zFj {σ ρ:Type} {L:Nat→Int→σ→Option ρ} {len:Nat} (hl:len ≤ Go.maxLen) (F:Nat→σ→Option ρ) (I:Nat→σ→Prop)
    (hstep:∀ n i s,i < len→I i s→(∀ s',I (i + 1) s'→L n ((i:Int) + 1) s' = F (i + 1) s')→L (n + 1) (i:Int) s = F i s)
    (hend:∀ n s,I len s→L (n + 1) (len:Int) s = F len s) (n:Nat) (hn:len < n) (s:σ) (h0:I 0 s):L n 0 s = F 0 s :=
  zGd hl F I hstep hend len 0 n s (by omega) hn h0
end Go.Ev
end
section
namespace Go.Ev
abbrev Fnc (A R:Ty):Type:=A.I→Option R.I
def zl {σ ρ:Type} (B:(σ→Option ρ)→σ→Option ρ):Nat→σ→Option ρ
  | 0,_=>none
  | n + 1,s=>B (zl B n) s
noncomputable def evV {σ:Type} (E:Env) (K:Nat) (f:Func) (md:Nat) (R:Ty) (p ns:List Nat) (S:σ→St) (n:Nat):σ→Option R.I:=fun s=>evL E K f md R p ns n (S s)
theorem zAk {E:Env} {K:Nat} {f:Func} {md:Nat} {R:Ty} {p ns:List Nat} {st:St}:evL E K f md R p ns 0 st = none:=by
  unfold evL
  split
  · split <;> rfl
  · rfl
theorem zt {σ:Type} {E:Env} {K:Nat} {f:Func} {md:Nat} {R:Ty} {p ns:List Nat} {S:σ→St} {B:(σ→Option R.I)→σ→Option R.I}
    (h:∀ n s,evV E K f md R p ns S (n + 1) s = B (evV E K f md R p ns S n) s):∀ n,evV E K f md R p ns S n = zl B n
  | 0=>by funext s; exact zAk
  | n + 1=>by funext s; rw [h,zt h n]; rfl
theorem zgC {σ τ:Type} {E:Env} {K:Nat} {f:Func} {md:Nat} {R:Ty} {p ns:List Nat} {S:σ→St} {B:(τ→Option R.I)→(σ→Option R.I)→σ→Option R.I} {V1:Nat→τ→Option R.I} {W1:(σ→Option R.I)→τ→Option R.I}
    (h1:∀ n,V1 n = W1 (evV E K f md R p ns S n)) (h:∀ n s,evV E K f md R p ns S (n + 1) s = B (V1 n) (evV E K f md R p ns S n) s):∀ n,evV E K f md R p ns S n = zl (fun k=>B (W1 k) k) n :=
  zt fun n s=>by rw [← h1]; exact h n s
def zvt {σ τ ρ:Type} (B0:(τ→Option ρ)→σ→Option ρ) (B1:(τ→Option ρ)→τ→Option ρ):Nat→σ→Option ρ
  | 0,_=>none
  | n + 1,s=>B0 (zl B1 n) s
theorem zFk {σ τ:Type} {E:Env} {K:Nat} {f:Func} {md:Nat} {R:Ty} {p ns:List Nat} {S0:σ→St} {S1:τ→St} {B0:(τ→Option R.I)→σ→Option R.I} {B1:(τ→Option R.I)→τ→Option R.I}
    (h1:∀ n,evV E K f md R p ns S1 n = zl B1 n) (h:∀ n s,evV E K f md R p ns S0 (n + 1) s = B0 (evV E K f md R p ns S1 n) s):∀ n,evV E K f md R p ns S0 n = zvt B0 B1 n
  | 0=>by funext s; exact zAk
  | n + 1=>by funext s; rw [h,h1]; rfl
theorem tr1 {α X Y:Type} {T:α→X→Y} {V W:α} (h:V = W) {F:X→Y} (hx:∀ x,F x = T V x):F = T W:=by subst h; funext x; exact hx x
def En (E:Env) (d:Bool) (l:List Fun):Env:=⟨E.types,l.map fun F=>(F.id,F),E.glob,0,d,E.ext,[],fun _=>none,false,false⟩
def Ej (E:Env) (d:Bool) (js:List Nat) (l:List Fun):Env:=⟨E.types,l.map fun F=>(F.id,F),E.glob,0,d,E.ext,js,fun _=>none,false,js.any (Nat.beq 999999)⟩
def Sd (P:Program) (E:Env) (F:Fun):Prop:=∀ G,EnvOk P G E→zmQ P G F.id F
def Sds (P:Program) (E:Env):List Fun→Prop
  | []=>True
  | F :: l=>Sd P E F ∧ Sds P E l
def jI (f:Func):Bool:=!(f.name == "runtime.NumGoroutine") && !f.body.isNone
theorem Sds.env {P:Program} {E:Env} {l:List Fun} {d:Bool} {G:FH} (h:Sds P E l) (hE:EnvOk P G E):EnvOk P G (En E d l):=by
  refine ⟨hE.types,?_,hE.glob,hE.ext,fun f H h=>by cases h⟩
  intro f F hf
  have key:∀ l:List Fun,Sds P E l→look (l.map fun F=>(F.id,F)) f = some F→zmQ P G f F:=by
    intro l
    induction l with
    | nil=>intro _ h; cases h
    | cons F' l ih =>
      intro hs hl
      simp only [List.map_cons,look] at hl
      cases hb:Nat.beq F'.id f with
      | true =>
        rw [hb] at hl
        cases hl
        rw [← Nat.eq_of_beq_eq_true hb]
        exact hs.1 G hE
      | false=>rw [hb] at hl; exact ih hs.2 hl
  exact key l h hf
theorem Sds.envJ {P:Program} {E:Env} {l:List Fun} {d:Bool} {js:List Nat} {G:FH} (h:Sds P E l) (hE:EnvOk P G E):EnvOk P G (Ej E d js l) :=
  have h':=h.env (d:=d) hE
  ⟨h'.types,h'.funs,h'.glob,h'.ext,fun f H h=>by cases h⟩
theorem Sd.mk {P:Program} {E:Env} {l:List Fun} {d:Bool} {F:Fun} {f:Func} {K:Nat} (hm:P.follows .mixedOrders = true) (hl:Sds P E l) (hf:P.funcs[F.id]? = some f) (ho:jI f = true)
    (h:evF (En E d l) K f F.md F.a F.r = F.spec):Sd P E F:=by
  intro G hE
  unfold jI at ho
  simp only [Bool.and_eq_true,Bool.not_eq_true'] at ho
  exact zmQ.mk hm (hl.env hE) hf ho.1 ho.2 fun x y hy=>⟨K,by rw [h]; exact hy⟩
def FOk (P:Program):List (Nat × Func)→Prop
  | []=>True
  | p :: l=>(P.funcs[p.1]? = some p.2 ∧ jI p.2 = true) ∧ FOk P l
theorem FOk.look {P:Program}:∀ {l:List (Nat × Func)} {i:Nat} {f:Func},FOk P l→look l i = some f→P.funcs[i]? = some f ∧ jI f = true
  | (j,g) :: l,i,f,h,hl=>by
    simp only [Go.Ev.look] at hl
    cases hb:Nat.beq j i with
    | true=>rw [hb] at hl; cases hl; rw [← Nat.eq_of_beq_eq_true hb]; exact h.1
    | false=>rw [hb] at hl; exact FOk.look h.2 hl
theorem EnvOk.inl {P:Program} {G:FH} {E:Env} (hm:P.follows .mixedOrders = true) (hE:EnvOk P G E) {fs:List (Nat × Func)} (hfs:FOk P fs):∀ d,EnvOk P G (E.inl fs d)
  | 0=>hE
  | d + 1=>⟨hE.types,hE.funs,hE.glob,hE.ext,fun i H h=>by
    obtain ⟨fn,h1,rfl⟩:=Option.map_eq_some_iff.1 h
    obtain ⟨h2,h3⟩:=hfs.look h1
    unfold jI at h3
    simp only [Bool.and_eq_true,Bool.not_eq_true'] at h3
    exact zGT hm (EnvOk.inl hm hE hfs d) h2 h3.1 h3.2⟩
theorem Sd.mkI {P:Program} {E:Env} {l:List Fun} {d:Bool} {js:List Nat} {fs:List (Nat × Func)} {n:Nat} {F:Fun} {f:Func} {K:Nat} (hm:P.follows .mixedOrders = true) (hl:Sds P E l) (hfs:FOk P fs) (hf:P.funcs[F.id]? = some f) (ho:jI f = true)
    (h:evF ((Ej E d js l).inl fs n) K f F.md F.a F.r = F.spec):Sd P E F:=by
  intro G hE
  unfold jI at ho
  simp only [Bool.and_eq_true,Bool.not_eq_true'] at ho
  exact zmQ.mk hm ((hl.envJ hE).inl hm hfs n) hf ho.1 ho.2 fun x y hy=>⟨K,by rw [h]; exact hy⟩
@[reducible] def ch:List Ty→Ty
  | []=>.unit
  | a :: l=>.pair a (ch l)
abbrev u0 {a0 a1:Type} (x:a0 × a1) (v:a0):a0 × a1:=(v,x.2)
abbrev u1 {a0 a1 a2:Type} (x:a0 × a1 × a2) (v:a1):a0 × a1 × a2:=(x.1,v,x.2.2)
abbrev u2 {a0 a1 a2 a3:Type} (x:a0 × a1 × a2 × a3) (v:a2):a0 × a1 × a2 × a3:=(x.1,x.2.1,v,x.2.2.2)
abbrev u5 {a0 a1 a2 a3 a4 a5 a6:Type} (x:a0 × a1 × a2 × a3 × a4 × a5 × a6) (v:a5):a0 × a1 × a2 × a3 × a4 × a5 × a6:=(x.1,x.2.1,x.2.2.1,x.2.2.2.1,x.2.2.2.2.1,v,x.2.2.2.2.2.2)
abbrev u7 {a0 a1 a2 a3 a4 a5 a6 a7 a8:Type} (x:a0 × a1 × a2 × a3 × a4 × a5 × a6 × a7 × a8) (v:a7):a0 × a1 × a2 × a3 × a4 × a5 × a6 × a7 × a8:=(x.1,x.2.1,x.2.2.1,x.2.2.2.1,x.2.2.2.2.1,x.2.2.2.2.2.1,x.2.2.2.2.2.2.1,v,x.2.2.2.2.2.2.2.2)
abbrev u8 {a0 a1 a2 a3 a4 a5 a6 a7 a8 a9:Type} (x:a0 × a1 × a2 × a3 × a4 × a5 × a6 × a7 × a8 × a9) (v:a8):a0 × a1 × a2 × a3 × a4 × a5 × a6 × a7 × a8 × a9:=(x.1,x.2.1,x.2.2.1,x.2.2.2.1,x.2.2.2.2.1,x.2.2.2.2.2.1,x.2.2.2.2.2.2.1,x.2.2.2.2.2.2.2.1,v,x.2.2.2.2.2.2.2.2.2)
def inR {ρ:Type} (i n:Int) (x:Option ρ):Option ρ:=cond (decide (0 ≤ i)) (cond (decide (i < n)) x none) none
theorem zFl {ρ:Type} {i n:Int} {x:Option ρ} (h0:0 ≤ i) (h1:i < n):inR i n x = x:=by unfold inR; rw [decide_eq_true h0,decide_eq_true h1]; rfl
abbrev ix {α:Type} (d:α) (l:List α) (i:Int):α:=List.getD l (Int.toNat i) d
def K0:Nat:=Go.maxLen + 2
theorem zzs {n:Nat} (h:n ≤ Go.maxLen):n < K0:=by unfold K0; omega
abbrev tI:Ty:=.int .i64
abbrev tU:Ty:=.int .u64
abbrev wI (n:Int):Int:=IntKind.wrap .i64 n
abbrev wU (n:Int):Int:=IntKind.wrap .u64 n
end Go.Ev
end
section
namespace Go.Ev
theorem yR {σ α ρ:Type} {B:(σ→Option ρ)→σ→Option ρ} {len:Nat} (hl:len ≤ Go.maxLen) (st:Int→α→σ) (F:Nat→α→Option ρ) (I:Nat→α→Prop)
    (hstep:∀ k (i:Nat) s,i < len→I i s→(∀ s',I (i + 1) s'→k (st (wI (i + 1)) s') = F (i + 1) s')→B k (st i s) = F i s)
    (hend:∀ k s,I len s→B k (st len s) = F len s) (s:α) (h0:I 0 s):zl B K0 (st 0 s) = F 0 s:=by
  refine zFj (L:=fun n i s=>zl B n (st i s)) hl F I (fun n i s hi hI h=>?_) (fun n s hI=>hend _ s hI) K0 (zzs hl) s h0
  refine hstep _ i s hi hI fun s' hI'=>?_
  rw [wI,zvs hi hl]
  exact h s' hI'
theorem z9 {α:Type} {l:List α} {i:Nat} {d:α} (h:i < l.length):l.getD i d ∈ l:=by
  rw [List.getD_eq_getElem?_getD,List.getElem?_eq_getElem h]
  exact List.getElem_mem h
theorem zO (p:Bool):some (p,()) = bif p then some (true,()) else some (false,()):=by cases p <;> rfl
theorem ztJ {σ α ρ:Type} {B:(σ→Option ρ)→σ→Option ρ} {l:List α} (d:α) {p:α→Bool} {fin bad:Option ρ} (st:Int→σ) (hl:l.length ≤ Go.maxLen)
    (hin:∀ k (i:Nat) x,i < l.length→l.getD i d = x→x ∈ l→B k (st i) = bif p x then k (st (wI (i + 1))) else bad) (hout:∀ k,B k (st l.length) = fin):zl B K0 (st 0) = bif l.all p then fin else bad:=by
  have:=yR (α:=Unit) (B:=B) hl (fun i _=>st i) (fun i _=>bif (l.drop i).all p then fin else bad) (fun _ _=>True) (fun k i s hi _ h=>?_) (fun k s _=>?_) () trivial
  · simpa using this
  · rw [hin k i _ hi rfl (z9 hi),h () trivial,zbA d hi,List.all_cons]
    cases p (l.getD i d) <;> rfl
  · rw [hout,List.drop_of_length_le (Nat.le_refl _)]; rfl
theorem zqO {σ α β ρ:Type} {B:(σ→Option ρ)→σ→Option ρ} {l:List β} (d:β) (st:Int→α→σ) (G:List β→α→Option ρ) (hl:l.length ≤ Go.maxLen)
    (hin:∀ k (i:Nat) x rest s,i < l.length→l.getD i d = x→x ∈ l→l.drop (i + 1) = rest→(∀ s',k (st (wI (i + 1)) s') = G rest s')→B k (st i s) = G (x :: rest) s) (hout:∀ k s,B k (st l.length s) = G [] s) (s:α):zl B K0 (st 0 s) = G l s:=by
  have:=yR (B:=B) hl st (fun i s=>G (l.drop i) s) (fun _ _=>True) (fun k i s hi _ h=>?_) (fun k s _=>?_) s trivial
  · simpa using this
  · rw [zbA d hi]
    exact hin k i _ _ s hi rfl (z9 hi) rfl fun s'=>h s' trivial
  · rw [hout,List.drop_of_length_le (Nat.le_refl _)]
def qj (p:Nat→Bool) (i:Nat):Nat→Bool
  | 0=>true
  | n + 1=>p i && qj p (i + 1) n
theorem jQ {p:Nat→Bool}:∀ {n i:Nat},qj p i n = true ↔ ∀ j,i ≤ j→j < i + n→p j = true
  | 0,i=>by simp only [qj,true_iff]; intro j h1 h2; omega
  | n + 1,i=>by
    simp only [qj,Bool.and_eq_true,jQ (n:=n)]
    constructor
    · rintro ⟨h1,h2⟩ j h3 h4
      by_cases e:j = i
      · subst e; exact h1
      · exact h2 j (by omega) (by omega)
    · intro h
      exact ⟨h i (Nat.le_refl i) (by omega),fun j h1 h2=>h j (by omega) (by omega)⟩
theorem vD {σ ρ:Type} {B:(σ→Option ρ)→σ→Option ρ} {i0 n:Nat} (hn:n ≤ Go.maxLen) (h0:i0 ≤ n) {p:Nat→Bool} {fin bad:Option ρ} (st:Int→σ)
    (hin:∀ k (i:Nat),i0 ≤ i→i < n→B k (st i) = bif p i then k (st (wI (i + 1))) else bad) (hout:∀ k,B k (st n) = fin):zl B K0 (st i0) = bif qj p i0 (n - i0) then fin else bad:=by
  have key:∀ (m i fuel:Nat),i0 ≤ i→i + m = n→m < fuel→zl B fuel (st i) = bif qj p i m then fin else bad:=by
    intro m
    induction m with
    | zero =>
      intro i fuel _ h1 h2
      obtain ⟨f,rfl⟩:∃ f,fuel = f + 1:=⟨fuel - 1,by omega⟩
      obtain rfl:i = n:=by omega
      exact hout _
    | succ m ih =>
      intro i fuel h1 h2 h3
      obtain ⟨f,rfl⟩:∃ f,fuel = f + 1:=⟨fuel - 1,by omega⟩
      show B (zl B f) (st i) = _
      rw [hin _ i h1 (by omega),wI,zvs (len:=n) (by omega) hn,show ((i:Int) + 1) = ((i + 1:Nat):Int) by omega,ih (i + 1) f (by omega) (by omega) (by omega)]
      simp only [qj]
      cases p i <;> rfl
  exact key (n - i0) i0 K0 (Nat.le_refl _) (by omega) (by have:=zzs hn; omega)
theorem zr5 {i:Nat} (h:1 ≤ i) (hi:i ≤ Go.maxLen):wI ((i:Int) - 1) = ((i - 1:Nat):Int):=by
  rw [show ((i:Int) - 1) = ((i - 1:Nat):Int) by omega]
  exact zAj (by omega)
section
variable {τ:Ty} {l:List τ.I} {g:τ.I × Unit→Option (Bool × Unit)} {p:τ.I→Bool}
theorem zE {ρ:Type} {i n:Nat} {x:Option ρ} (h:i < n):inR (i:Int) (n:Int) x = x:=zFl (by omega) (by omega)
theorem ltT {i n:Nat} (h:i < n):decide ((i:Int) < (n:Int)) = true:=decide_eq_true (by omega)
theorem ltF (n:Nat):decide ((n:Int) < (n:Int)) = false:=decide_eq_false (by omega)
theorem qu {α:Type} {d:α} {l:List α} {i:Nat}:ix d l (i:Int) = l.getD i d:=by rw [ix,Int.toNat_natCast]
theorem qH {B:((List τ.I × Option (τ.I × Unit→Option (Bool × Unit)) × Int × Int)→Option (Int × Unit))→(List τ.I × Option (τ.I × Unit→Option (Bool × Unit)) × Int × Int)→Option (Int × Unit)}
    (hB:∀ k l g n i,B k (l,g,n,i) = bif decide (i < n) then inR i (List.length l:Int) (Option.bind g fun q0=>Option.bind (q0 (ix (ze τ) l i,())) fun q1=>bif q1.1 then some (i,()) else k (l,g,n,wI (i + 1))) else some (-1,()))
    (hl:l.length ≤ Go.maxLen) (hp:∀ x ∈ l,g (x,()) = some (p x,())):zl B K0 (l,some g,(l.length:Int),0) = some (vC p l 0,()):=by
  have:=yR (α:=Unit) (B:=B) hl (fun i _=>(l,some g,(l.length:Int),i)) (fun i _=>some (vC p (l.drop i) i,())) (fun _ _=>True) (fun k i s hi _ h=>?_) (fun k s _=>?_) () trivial
  · simpa using this
  · rw [hB,ltT hi,zE hi,qu,Option.bind_some,hp _ (z9 hi),Option.bind_some,h () trivial,zbA (ze τ) hi]
    simp only [vC,cond_true]
    cases p (l.getD i (ze τ)) <;> rfl
  · rw [hB,ltF,List.drop_of_length_le (Nat.le_refl _)]; rfl
theorem qk {f:Fnc (.pair (.sl τ) (.pair (.fn (.pair τ .unit) (.pair .bool .unit)) .unit)) (.pair (.int .i64) .unit)} (hf:f (l,some g,()) = some (vC p l 0,())) :
    (Option.bind (f (l,some g,())) fun q0=>bif decide ((q0.1:Int) ≥ 0) then some (true,()) else some (false,())) = some (l.any p,()):=by
  rw [hf,Option.bind_some,ztI (p:=p) l 0 (Int.le_refl 0)]
  cases l.any p <;> rfl
theorem jU {α:Type} {l:List α} {p:α→Bool}:(!(l.any fun x=>!p x)) = l.all p:=by
  rw [List.not_any_eq_all_not]
  congr 1
  funext x
  simp
def eqL (τ:Ty) (a b:List τ.I):Bool:=decide (a.length = b.length) && (List.zip a b).all fun q=>eqI τ q.1 q.2
theorem zl9 (a b:Nat):((a:Int) != (b:Int)) = !decide (a = b):=by
  by_cases h:a = b
  · subst h; simp
  · have:(a:Int) ≠ (b:Int):=by omega
    simp [h,this]
theorem ztK {α β:Type} {d:α} {e:β}:∀ (a:List α) (b:List β) (i:Nat),i < a.length→i < b.length→(List.zip a b).getD i (d,e) = (a.getD i d,b.getD i e)
  | x :: a,y :: b,0,_,_=>rfl
  | x :: a,y :: b,i + 1,h1,h2=>ztK a b i (by simpa using h1) (by simpa using h2)
  | [],_,_,h,_=>by simp at h
  | _ :: _,[],_,_,h=>by simp at h
theorem zaB {B:((List τ.I × List τ.I × Int × Int)→Option (Bool × Unit))→(List τ.I × List τ.I × Int × Int)→Option (Bool × Unit)}
    (hB:∀ k a b n i,B k (a,b,n,i) = bif decide (i < n) then inR i (List.length a:Int) (inR i (List.length b:Int) (bif !eqI τ (ix (ze τ) a i) (ix (ze τ) b i) then some (false,()) else k (a,b,n,wI (i + 1)))) else some (true,()))
    {a b:List τ.I} (hl:a.length ≤ Go.maxLen):(bif ((List.length a:Int) != (List.length b:Int)) then some (false,()) else zl B K0 (a,b,(a.length:Int),0)) = some (eqL τ a b,()):=by
  rw [zl9]
  unfold eqL
  by_cases h:a.length = b.length
  · rw [decide_eq_true h]
    simp only [Bool.not_true,cond_false,Bool.true_and]
    have hz:(List.zip a b).length = a.length:=by rw [List.length_zip]; omega
    have hx:∀ i,i < a.length→(List.zip a b).getD i (ze τ,ze τ) = (a.getD i (ze τ),b.getD i (ze τ)):=fun i hi=>ztK a b i hi (by omega)
    have:=ztJ (B:=B) (l:=List.zip a b) (ze τ,ze τ) (p:=fun q=>eqI τ q.1 q.2) (fin:=some (true,())) (bad:=some (false,())) (fun i=>(a,b,(a.length:Int),i)) (by rw [hz]; exact hl) (fun k i x hi hx' _=>?_) (fun k=>?_)
    · rw [this]
      cases (List.zip a b).all fun q=>eqI τ q.1 q.2 <;> rfl
    · rw [hz] at hi
      rw [hx i hi] at hx'
      subst hx'
      rw [hB,ltT hi,zE hi,zE (by omega),qu,qu]
      simp only [cond_true]
      cases eqI τ (a.getD i (ze τ)) (b.getD i (ze τ)) <;> rfl
    · rw [hB,hz,ltF]; rfl
  · rw [decide_eq_false h]; rfl
theorem vY {x:Option (List τ.I × Unit)} (h:l.length ≤ lim) (hx:x = bif decide (List.length (List.replicate 0 (ze τ)) + List.length l ≤ lim) then some (List.replicate 0 (ze τ) ++ l,()) else none) :
    (bif List.isEmpty l then zdY (some ([],())) x else x) = some (l,()):=by
  have e:x = some (l,()):=by rw [hx,decide_eq_true (by simpa using h)]; rfl
  rw [e]
  cases l with
  | nil=>exact zE6 _
  | cons y l=>rfl
end
end Go.Ev
end
section
namespace Go.Proofs.YtokcjmkikhgkeaaGreatDoor
open Go.Ev
abbrev tMe:Ty:=.st (.pair (.int .i64) (.pair (.int .i64) (.pair (.int .i64) .unit)))
abbrev pMe:Type:=(Int × (Int × (Int × Unit)))
abbrev qD:Ty:=.st (.pair (.int .i64) (.pair (.int .i64) (.pair (.int .i64) (.pair (.int .i64) (.pair (.int .u64) .unit)))))
abbrev jR:Type:=(Int × (Int × (Int × (Int × (Int × Unit)))))
abbrev zy:Ty:=.st (.pair (.int .i64) (.pair (.int .u64) .unit))
abbrev zz:Type:=(Int × (Int × Unit))
abbrev qy:zz:=ze zy
abbrev zcH:Ty:=.st (.pair (.int .i64) (.pair (.int .i64) (.pair (.int .i64) (.pair (.int .i64) (.pair (.int .i64) (.pair (.int .u64) .unit))))))
abbrev zad:Type:=(Int × (Int × (Int × (Int × (Int × (Int × Unit))))))
abbrev qz:zad:=ze zcH
abbrev qN:Ty:=.st (.pair .str (.pair .str (.pair (.int .i64) (.pair .bool .unit))))
abbrev qO:Type:=(ByteArray × (ByteArray × (Int × (Bool × Unit))))
abbrev zda:qO:=ze qN
abbrev zaP:Ty:=.st (.pair (.int .i64) (.pair (.int .i64) .unit))
abbrev qb:Type:=(Int × (Int × Unit))
abbrev qR:qb:=ze zaP
abbrev qi:Ty:=.st (.pair .bool (.pair .str .unit))
abbrev ja:Type:=(Bool × (ByteArray × Unit))
abbrev zr6:ja:=ze qi
abbrev zX:Ty:=.st (.pair (.int .i64) (.pair (.int .i64) .unit))
abbrev vv:Type:=(Int × (Int × Unit))
abbrev zHV:vv:=ze zX
abbrev zm:Ty:=.st (.pair .bool (.pair (.int .i64) (.pair (.int .i64) (.pair (.int .i64) (.pair (.int .i64) (.pair (.int .i64) (.pair (.int .u64) (.pair (.int .u64) (.pair (.int .u64) (.pair (.int .i64) .unit))))))))))
abbrev zn:Type:=(Bool × (Int × (Int × (Int × (Int × (Int × (Int × (Int × (Int × (Int × Unit))))))))))
abbrev qp:zn:=ze zm
abbrev zr:Ty:=.st (.pair (.int .u64) (.pair (.int .i64) (.pair (.int .i64) (.pair (.int .i64) (.pair (.int .i64) (.pair (.int .i64) (.pair (.int .i64) (.pair (.int .u64) (.pair (.int .u64) (.pair (.int .i64) .unit))))))))))
abbrev zF:Type:=(Int × (Int × (Int × (Int × (Int × (Int × (Int × (Int × (Int × (Int × Unit))))))))))
abbrev zg1:zF:=ze zr
abbrev zW:Ty:=.st (.pair .bool (.pair zX (.pair zX (.pair (.int .i64) .unit))))
abbrev z8:Type:=(Bool × (vv × (vv × (Int × Unit))))
abbrev vE:z8:=ze zW
abbrev z4:Ty:=.st (.pair .bool (.pair (.int .i64) (.pair (.int .i64) (.pair (.int .i64) (.pair .str .unit)))))
abbrev qr:Type:=(Bool × (Int × (Int × (Int × (ByteArray × Unit)))))
abbrev zzt:qr:=ze z4
abbrev zV:Ty:=.st (.pair .bool (.pair .str (.pair (.int .i64) (.pair (.int .i64) (.pair zX .unit)))))
abbrev qc:Type:=(Bool × (ByteArray × (Int × (Int × (vv × Unit)))))
abbrev zdb:qc:=ze zV
abbrev zdc:Ty:=.st (.pair (.int .i64) (.pair (.int .u64) (.pair (.int .i64) .unit)))
abbrev zkc:Type:=(Int × (Int × (Int × Unit)))
abbrev zv:Ty:=.st (.pair .bool (.pair (.int .i64) (.pair (.int .i64) (.pair zdc (.pair zdc .unit)))))
abbrev zp:Type:=(Bool × (Int × (Int × (zkc × (zkc × Unit)))))
abbrev qV:zp:=ze zv
abbrev vF:Ty:=.st (.pair (.sl zv) (.pair (.fn (.pair zv .unit) (.pair .bool .unit)) .unit))
abbrev zbB:Type:=((List zp) × ((Option ((zp × Unit)→Option (Bool × Unit))) × Unit))
abbrev zr7:Ty:=.st (.pair (.int .i64) (.pair (.int .i64) (.pair zX .unit)))
abbrev zw2:Type:=(Int × (Int × (vv × Unit)))
abbrev yA:Ty:=.st (.pair (.sl zm) (.pair (.fn (.pair zm .unit) (.pair .bool .unit)) .unit))
abbrev zdd:Type:=((List zn) × ((Option ((zn × Unit)→Option (Bool × Unit))) × Unit))
abbrev zjQ:Ty:=.st (.pair (.int .u8) (.pair (.int .u8) .unit))
abbrev zw:Ty:=.st (.pair (.sl zy) (.pair (.sl (.int .i64)) (.pair (.sl qN) (.pair (.sl zaP) (.pair (.sl zcH) (.pair (.int .i64) (.pair (.int .i64) (.pair (.int .i64) (.pair (.int .i64) .unit)))))))))
abbrev zf:Type:=((List zz) × ((List Int) × ((List qO) × ((List qb) × ((List zad) × (Int × (Int × (Int × (Int × Unit)))))))))
abbrev zj:Ty:=.st (.pair (.sl qi) (.pair (.sl zW) (.pair (.sl zV) (.pair (.sl z4) (.pair (.sl zv) (.pair (.sl (.arr 4 (.int .u64))) (.pair (.sl zX) (.pair (.arr 4 (.int .u64)) (.pair (.arr 4 (.int .u64)) .unit)))))))))
abbrev zg:Type:=((List ja) × ((List z8) × ((List qc) × ((List qr) × ((List zp) × ((List (List Int)) × ((List vv) × ((List Int) × ((List Int) × Unit)))))))))
abbrev za:zg:=ze zj
abbrev zu:Ty:=.st (.pair (.int .u64) (.pair (.sl zj) (.pair (.sl (.sl (.int .i64))) (.pair (.sl zm) (.pair (.sl zr) (.pair (.sl (.int .i64)) .unit))))))
abbrev zd:Type:=(Int × ((List zg) × ((List (List Int)) × ((List zn) × ((List zF) × ((List Int) × Unit))))))
abbrev zfy:Ty:=.st (.pair (.fn (.pair (.ptr zu) .unit) (.pair (.int .i64) .unit)) .unit)
abbrev qe:Ty:=.st (.pair zw (.pair zu .unit))
abbrev qK:Type:=(zf × (zd × Unit))
def types:TT:=(.node (.node (.node (.node (.node (.node (.node (.node (.node .nil 1 (.fn .unit .unit) .nil) 2 (.int .i64) .nil) 3 (.int .i64) (.node .nil 4 .bool .nil)) 5 (.int .u8) (.node (.node .nil 6 (.int .u8) .nil) 7 (.st (.pair (.int .i64) (.pair (.int .i64) (.pair .bool (.pair (.int .u8) .unit))))) (.node .nil 8 (.st (.pair (.int .i64) (.pair (.int .i64) (.pair .bool (.pair (.int .u8) .unit))))) .nil))) 9 .str (.node (.node (.node (.node .nil 10 .str .nil) 11 .str .nil) 12 (.int .u64) (.node .nil 21 (.int .i32) .nil)) 22 (.sl zy) (.node (.node .nil 23 (.sl (.int .i64)) .nil) 24 (.sl qN) (.node .nil 25 (.sl zaP) .nil)))) 26 (.sl zcH) (.node (.node (.node (.node (.node .nil 27 (.st (.pair (.sl zy) (.pair (.sl (.int .i64)) (.pair (.sl qN) (.pair (.sl zaP) (.pair (.sl zcH) (.pair (.int .i64) (.pair (.int .i64) (.pair (.int .i64) (.pair (.int .i64) .unit)))))))))) .nil) 28 zw .nil) 29 (.int .u64) (.node .nil 30 (.sl zj) .nil)) 31 (.sl (.sl (.int .i64))) (.node (.node .nil 32 (.sl zm) .nil) 33 (.sl zr) (.node .nil 34 (.st (.pair (.int .u64) (.pair (.sl zj) (.pair (.sl (.sl (.int .i64))) (.pair (.sl zm) (.pair (.sl zr) (.pair (.sl (.int .i64)) .unit))))))) .nil))) 35 zu (.node (.node (.node .nil 36 (.st (.pair (.int .i64) (.pair (.int .i64) (.pair (.int .i64) .unit)))) .nil) 37 tMe (.node .nil 38 (.st (.pair (.int .i64) (.pair (.int .i64) (.pair (.int .i64) (.pair (.int .i64) (.pair (.int .u64) .unit)))))) .nil)) 39 qD (.node (.node .nil 40 (.int .i64) .nil) 42 (.fn (.pair zw (.pair zu (.pair tMe (.pair (.int .i64) (.pair (.int .i64) (.pair (.int .i64) (.pair (.int .u64) .unit))))))) (.pair zu (.pair (.int .i64) .unit))) (.node .nil 43 (.fn .unit (.pair .bool .unit)) .nil))))) 44 (.fn (.pair zw (.pair zu .unit)) (.pair .bool .unit)) (.node (.node (.node (.node (.node (.node .nil 45 (.fn (.pair zy (.pair zy .unit)) (.pair .bool .unit)) .nil) 46 (.st (.pair (.int .i64) (.pair (.int .u64) .unit))) .nil) 47 zy (.node .nil 48 (.arr 4 (.int .u64)) .nil)) 49 (.sl qi) (.node (.node .nil 50 (.sl zW) .nil) 51 (.sl zV) (.node .nil 52 (.sl z4) .nil))) 53 (.sl zv) (.node (.node (.node .nil 54 (.sl (.arr 4 (.int .u64))) .nil) 55 (.sl zX) (.node .nil 56 (.st (.pair (.sl qi) (.pair (.sl zW) (.pair (.sl zV) (.pair (.sl z4) (.pair (.sl zv) (.pair (.sl (.arr 4 (.int .u64))) (.pair (.sl zX) (.pair (.arr 4 (.int .u64)) (.pair (.arr 4 (.int .u64)) .unit)))))))))) .nil)) 57 zj (.node (.node .nil 58 (.fn (.pair zw (.pair zu (.pair tMe (.pair qD .unit)))) (.pair .bool .unit)) .nil) 59 (.fn (.pair zw (.pair zu (.pair tMe (.pair qD .unit)))) (.pair zu (.pair (.int .i64) .unit))) (.node .nil 60 (.fn (.pair zw (.pair zu (.pair tMe .unit))) (.pair .bool .unit)) .nil)))) 62 (.fn (.pair zu (.pair (.int .i64) .unit)) (.pair (.int .u64) (.pair (.int .i64) .unit))) (.node (.node (.node (.node (.node .nil 63 (.fn (.pair zy .unit) (.pair .bool .unit)) .nil) 64 (.fn (.pair zw (.pair zu (.pair zu (.pair zy .unit)))) (.pair .bool .unit)) .nil) 65 (.fn (.pair zw (.pair zu (.pair tMe (.pair qD (.pair zy .unit))))) (.pair .bool .unit)) (.node .nil 67 (.fn (.pair zw (.pair zu (.pair tMe .unit))) (.pair (.arr 4 (.int .u64)) (.pair (.int .i64) .unit))) .nil)) 68 (.fn (.pair zw (.pair zu (.pair zu (.pair tMe (.pair qD (.pair zy .unit)))))) (.pair .bool .unit)) (.node (.node .nil 69 (.fn (.pair zw (.pair zu (.pair tMe (.pair (.int .i64) (.pair (.int .u64) .unit))))) (.pair .bool .unit)) .nil) 70 (.fn (.pair zw (.pair (.int .i64) (.pair (.int .i64) .unit))) (.pair .bool .unit)) (.node .nil 71 (.fn (.pair zu (.pair (.sl zfy) .unit)) (.pair zu (.pair (.int .i64) .unit))) .nil))) 72 (.fn (.pair (.ptr zu) .unit) (.pair (.int .i64) .unit)) (.node (.node (.node .nil 73 (.st (.pair (.fn (.pair (.ptr zu) .unit) (.pair (.int .i64) .unit)) .unit)) .nil) 74 zfy (.node .nil 75 (.fn (.pair .bool (.pair (.int .i64) .unit)) (.pair zfy .unit)) .nil)) 76 (.fn (.pair (.int .i64) (.pair (.int .i64) (.pair (.int .i64) (.pair (.int .u64) .unit)))) (.pair zfy .unit)) (.node (.node .nil 77 (.fn .unit (.pair zw .unit)) .nil) 78 (.fn (.pair zw .unit) (.pair zu (.pair (.int .i64) .unit))) (.node .nil 79 (.fn (.pair zw (.pair zu (.pair tMe (.pair (.int .i64) (.pair (.int .u64) .unit))))) (.pair zu (.pair (.int .i64) .unit))) .nil)))))) 80 (.fn (.pair zw (.pair zu (.pair tMe (.pair (.int .i64) (.pair (.int .i64) (.pair (.int .u64) .unit)))))) (.pair zu (.pair (.int .i64) .unit))) (.node (.node (.node (.node (.node (.node (.node .nil 81 (.fn (.pair zw .unit) (.pair .bool .unit)) .nil) 82 (.fn (.pair zw (.pair zu (.pair (.int .i64) .unit))) (.pair .bool .unit)) .nil) 83 (.st (.pair (.int .i64) (.pair (.int .i64) (.pair (.int .i64) (.pair (.int .i64) (.pair (.int .i64) (.pair (.int .u64) .unit))))))) (.node .nil 84 zcH .nil)) 85 (.st (.pair zw (.pair zu .unit))) (.node (.node .nil 86 qe .nil) 87 (.sl (.fn .unit (.pair .bool .unit))) (.node .nil 88 (.fn (.pair (.int .i64) .unit) (.pair .bool .unit)) .nil))) 89 (.fn (.pair (.sl zm) (.pair (.int .i64) .unit)) (.pair (.int .u64) (.pair (.int .i64) .unit))) (.node (.node (.node (.node .nil 90 (.sl (.int .u64)) .nil) 91 (.fn (.pair (.sl zv) (.pair (.int .i64) .unit)) (.pair (.int .u64) (.pair (.int .i64) .unit))) .nil) 92 (.fn (.pair (.sl (.int .u64)) .unit) (.pair (.int .u64) (.pair (.int .i64) .unit))) (.node .nil 93 (.fn (.pair zw (.pair zu (.pair zy .unit))) (.pair zu (.pair (.int .i64) .unit))) .nil)) 94 (.fn (.pair zu (.pair zu .unit)) (.pair .bool .unit)) (.node (.node .nil 95 (.ptr (.arr 4 (.int .u64))) .nil) 96 (.fn (.pair (.ptr zu) (.pair (.int .i64) (.pair (.int .i64) .unit))) (.pair (.ptr (.arr 4 (.int .u64))) .unit)) (.node .nil 97 (.ptr zu) .nil)))) 98 (.fn (.pair zw (.pair (.int .i64) .unit)) (.pair .bool .unit)) (.node (.node (.node (.node (.node .nil 99 (.sl zfy) .nil) 100 (.fn (.pair zu .unit) (.pair zu .unit)) .nil) 101 (.fn (.pair (.arr 4 (.int .u64)) (.pair (.int .i64) (.pair (.int .u64) .unit))) (.pair (.arr 4 (.int .u64)) (.pair (.int .i64) .unit))) (.node .nil 102 (.st (.pair .str (.pair .str (.pair (.int .i64) (.pair .bool .unit))))) .nil)) 103 qN (.node (.node .nil 104 (.st (.pair (.int .i64) (.pair (.int .i64) .unit))) .nil) 105 zaP (.node .nil 106 (.fn (.pair zw .unit) (.pair (.sl (.sl (.int .i64))) .unit)) .nil))) 107 (.fn (.pair zw (.pair zcH .unit)) (.pair zj .unit)) (.node (.node (.node .nil 108 (.st (.pair .bool (.pair .str .unit))) .nil) 109 qi (.node .nil 110 (.fn (.pair (.sl zy) .unit) (.pair .bool .unit)) .nil)) 111 (.fn (.pair (.sl qN) .unit) (.pair .bool .unit)) (.node (.node .nil 112 (.fn (.pair (.sl zaP) (.pair (.sl zy) (.pair (.int .i64) .unit))) (.pair .bool .unit)) .nil) 113 (.fn (.pair (.sl zcH) .unit) (.pair .bool .unit)) (.node .nil 114 (.fn (.pair zw (.pair (.sl (.sl (.int .i64))) .unit)) (.pair .bool .unit)) .nil))))) 115 (.fn (.pair (.sl zm) .unit) (.pair .bool .unit)) (.node (.node (.node (.node (.node (.node .nil 116 (.fn (.pair (.sl zr) .unit) (.pair .bool .unit)) .nil) 117 (.fn (.pair zu (.pair zX .unit)) (.pair .bool .unit)) .nil) 118 (.st (.pair (.int .i64) (.pair (.int .i64) .unit))) (.node .nil 119 zX .nil)) 120 (.st (.pair .bool (.pair (.int .i64) (.pair (.int .i64) (.pair (.int .i64) (.pair (.int .i64) (.pair (.int .i64) (.pair (.int .u64) (.pair (.int .u64) (.pair (.int .u64) (.pair (.int .i64) .unit))))))))))) (.node (.node .nil 121 zm .nil) 122 (.st (.pair (.int .u64) (.pair (.int .i64) (.pair (.int .i64) (.pair (.int .i64) (.pair (.int .i64) (.pair (.int .i64) (.pair (.int .i64) (.pair (.int .u64) (.pair (.int .u64) (.pair (.int .i64) .unit))))))))))) (.node .nil 123 zr .nil))) 124 (.fn (.pair (.sl qi) .unit) (.pair .bool .unit)) (.node (.node (.node .nil 125 (.fn (.pair (.sl zW) .unit) (.pair .bool .unit)) .nil) 126 (.fn (.pair (.sl zV) .unit) (.pair .bool .unit)) (.node .nil 127 (.fn (.pair (.sl z4) .unit) (.pair .bool .unit)) .nil)) 128 (.fn (.pair (.sl zv) .unit) (.pair .bool .unit)) (.node (.node .nil 129 (.st (.pair .bool (.pair zX (.pair zX (.pair (.int .i64) .unit))))) .nil) 130 zW (.node .nil 131 (.fn (.pair zw (.pair zu (.pair zX (.pair (.int .i64) .unit)))) (.pair .bool .unit)) .nil)))) 132 (.fn (.pair zw (.pair zu (.pair (.int .i64) (.pair (.int .i64) .unit)))) (.pair .bool .unit)) (.node (.node (.node (.node (.node .nil 133 (.fn (.pair zw (.pair zj (.pair (.int .i64) .unit))) (.pair .bool .unit)) .nil) 134 (.st (.pair .bool (.pair (.int .i64) (.pair (.int .i64) (.pair (.int .i64) (.pair .str .unit)))))) .nil) 135 z4 (.node .nil 136 (.fn (.pair (.int .u64) (.pair (.int .u64) .unit)) (.pair (.int .u64) (.pair (.int .i64) .unit))) .nil)) 137 (.fn (.pair (.sl zj) (.pair (.fn (.pair zj .unit) (.pair .bool .unit)) .unit)) (.pair .bool .unit)) (.node (.node .nil 138 (.fn (.pair zj .unit) (.pair .bool .unit)) .nil) 139 (.fn (.pair (.sl zm) (.pair (.fn (.pair zm .unit) (.pair .bool .unit)) .unit)) (.pair .bool .unit)) (.node .nil 140 (.fn (.pair zm .unit) (.pair .bool .unit)) .nil))) 141 (.fn (.pair (.sl zr) (.pair (.fn (.pair zr .unit) (.pair .bool .unit)) .unit)) (.pair .bool .unit)) (.node (.node (.node .nil 142 (.fn (.pair zr .unit) (.pair .bool .unit)) .nil) 143 (.fn (.pair (.sl (.int .i64)) (.pair (.fn (.pair (.int .i64) .unit) (.pair .bool .unit)) .unit)) (.pair .bool .unit)) (.node .nil 144 (.fn (.pair zX .unit) (.pair .bool .unit)) .nil)) 145 (.fn (.pair (.int .i64) .unit) (.pair (.fn (.pair zX .unit) (.pair .bool .unit)) .unit)) (.node (.node .nil 146 (.fn (.pair (.sl zW) (.pair (.fn (.pair zW .unit) (.pair .bool .unit)) .unit)) (.pair .bool .unit)) .nil) 147 (.fn (.pair zW .unit) (.pair .bool .unit)) (.node .nil 148 (.fn (.pair (.sl zV) (.pair (.fn (.pair zV .unit) (.pair .bool .unit)) .unit)) (.pair .bool .unit)) .nil))))))) 149 (.st (.pair .bool (.pair .str (.pair (.int .i64) (.pair (.int .i64) (.pair zX .unit)))))) (.node (.node (.node (.node (.node (.node (.node (.node .nil 150 zV .nil) 151 (.fn (.pair zV .unit) (.pair .bool .unit)) .nil) 152 (.fn (.pair (.sl zX) (.pair (.fn (.pair zX .unit) (.pair .bool .unit)) .unit)) (.pair .bool .unit)) (.node .nil 153 (.fn (.pair (.sl z4) (.pair (.fn (.pair z4 .unit) (.pair .bool .unit)) .unit)) (.pair .bool .unit)) .nil)) 154 (.fn (.pair (.int .i64) (.pair (.int .i64) .unit)) (.pair .bool .unit)) (.node (.node .nil 155 (.fn (.pair z4 .unit) (.pair .bool .unit)) .nil) 156 (.fn (.pair (.sl zv) (.pair (.fn (.pair zv .unit) (.pair .bool .unit)) .unit)) (.pair .bool .unit)) (.node .nil 157 (.st (.pair (.int .i64) (.pair (.int .u64) (.pair (.int .i64) .unit)))) .nil))) 158 zdc (.node (.node (.node (.node .nil 159 (.st (.pair .bool (.pair (.int .i64) (.pair (.int .i64) (.pair zdc (.pair zdc .unit)))))) .nil) 160 zv .nil) 161 (.fn (.pair zv .unit) (.pair .bool .unit)) (.node .nil 162 (.ptr vF) .nil)) 163 (.fn (.pair (.sl zv) (.pair (.fn (.pair zv .unit) (.pair .bool .unit)) .unit)) (.pair (.ptr vF) .unit)) (.node (.node .nil 164 (.fn .unit (.pair (.sl (.int .i64)) .unit)) .nil) 165 (.fn (.pair (.sl zm) .unit) (.pair (.sl (.int .i64)) .unit)) (.node .nil 166 (.fn (.pair zm .unit) (.pair (.int .i64) .unit)) .nil)))) 167 (.fn (.pair (.sl zv) .unit) (.pair (.ptr vF) .unit)) (.node (.node (.node (.node (.node .nil 169 (.fn (.pair (.int .i64) .unit) (.pair zy (.pair (.int .i64) .unit))) .nil) 170 (.fn (.pair (.sl zj) (.pair (.sl zj) (.pair (.fn (.pair (.int .i64) .unit) (.pair .bool .unit)) .unit))) (.pair (.sl zj) .unit)) .nil) 171 (.fn (.pair (.sl (.sl (.int .i64))) (.pair (.sl (.sl (.int .i64))) (.pair (.fn (.pair (.int .i64) .unit) (.pair .bool .unit)) .unit))) (.pair (.sl (.sl (.int .i64))) .unit)) (.node .nil 172 (.fn (.pair (.sl (.int .i64)) (.pair (.sl (.int .i64)) (.pair (.fn (.pair (.int .i64) .unit) (.pair .bool .unit)) .unit))) (.pair (.sl (.int .i64)) .unit)) .nil)) 173 (.fn (.pair (.sl zj) (.pair (.sl zj) (.pair (.fn (.pair zj (.pair zj .unit)) (.pair .bool .unit)) .unit))) (.pair .bool .unit)) (.node (.node .nil 174 (.fn (.pair zj (.pair zj .unit)) (.pair .bool .unit)) .nil) 175 (.fn (.pair (.sl (.sl (.int .i64))) (.pair (.sl (.sl (.int .i64))) (.pair (.fn (.pair (.sl (.int .i64)) (.pair (.sl (.int .i64)) .unit)) (.pair .bool .unit)) .unit))) (.pair .bool .unit)) (.node .nil 176 (.fn (.pair (.sl (.int .i64)) (.pair (.sl (.int .i64)) .unit)) (.pair .bool .unit)) .nil))) 177 (.fn (.pair (.sl zm) (.pair (.sl zm) .unit)) (.pair .bool .unit)) (.node (.node (.node .nil 178 (.fn (.pair (.sl zr) (.pair (.sl zr) .unit)) (.pair .bool .unit)) .nil) 179 (.fn (.pair (.int .i64) (.pair (.int .i64) (.pair (.int .i64) .unit))) (.pair .bool .unit)) (.node .nil 180 (.fn (.pair (.sl zm) .unit) (.pair (.sl zm) .unit)) .nil)) 181 (.fn (.pair (.sl zr) .unit) (.pair (.sl zr) .unit)) (.node (.node .nil 182 (.fn (.pair (.sl (.int .i64)) .unit) (.pair (.sl (.int .i64)) .unit)) .nil) 183 (.fn (.pair (.sl (.sl (.int .i64))) .unit) (.pair (.sl (.sl (.int .i64))) .unit)) (.node .nil 184 (.fn (.pair (.sl zj) .unit) (.pair (.sl zj) .unit)) .nil))))) 185 (.fn (.pair (.sl qi) .unit) (.pair (.sl qi) .unit)) (.node (.node (.node (.node (.node (.node .nil 186 (.fn (.pair (.sl zW) .unit) (.pair (.sl zW) .unit)) .nil) 187 (.fn (.pair (.sl zV) .unit) (.pair (.sl zV) .unit)) .nil) 188 (.fn (.pair (.sl z4) .unit) (.pair (.sl z4) .unit)) (.node .nil 189 (.fn (.pair (.sl zv) .unit) (.pair (.sl zv) .unit)) .nil)) 190 (.fn (.pair (.sl (.arr 4 (.int .u64))) .unit) (.pair (.sl (.arr 4 (.int .u64))) .unit)) (.node (.node .nil 191 (.fn (.pair (.sl zX) .unit) (.pair (.sl zX) .unit)) .nil) 192 (.fn (.pair (.arr 4 (.int .u64)) (.pair (.int .i64) (.pair (.int .u64) (.pair (.fn (.pair (.int .u64) (.pair (.int .u64) .unit)) (.pair (.int .u64) (.pair (.int .i64) .unit))) .unit)))) (.pair (.arr 4 (.int .u64)) (.pair (.int .i64) .unit))) (.node .nil 193 (.sl (.fn (.pair zw .unit) (.pair .bool .unit))) .nil))) 194 (.fn (.pair zy (.pair zy .unit)) (.pair (.int .i64) .unit)) (.node (.node (.node .nil 195 (.fn (.pair .str .unit) (.pair .bool .unit)) .nil) 196 (.fn (.pair (.sl zy) (.pair zy .unit)) (.pair (.int .i64) .unit)) (.node .nil 197 (.fn (.pair (.int .i64) .unit) (.pair zy .unit)) .nil)) 198 (.fn (.pair zy (.pair (.int .i64) .unit)) (.pair .bool .unit)) (.node (.node .nil 199 (.fn (.pair (.sl zaP) (.pair (.int .i64) .unit)) (.pair .bool .unit)) .nil) 200 (.fn (.pair (.sl zm) (.pair (.int .i64) (.pair (.int .i64) .unit))) (.pair .bool .unit)) (.node .nil 201 (.fn (.pair zr (.pair zr .unit)) (.pair .bool .unit)) .nil)))) 202 (.fn (.pair zm (.pair (.int .i64) .unit)) (.pair (.int .u64) .unit)) (.node (.node (.node (.node (.node .nil 203 (.fn (.pair (.sl qi) (.pair (.fn (.pair qi .unit) (.pair .bool .unit)) .unit)) (.pair .bool .unit)) .nil) 204 (.fn (.pair qi .unit) (.pair .bool .unit)) .nil) 205 (.fn (.pair (.sl zW) (.pair zX (.pair (.int .i64) .unit))) (.pair (.int .i64) .unit)) (.node .nil 206 (.pair (.int .i64) (.int .i64)) .nil)) 207 (.fn (.pair zr (.pair zr .unit)) (.pair (.int .i64) .unit)) (.node (.node .nil 208 (.st (.pair (.sl zv) (.pair (.fn (.pair zv .unit) (.pair .bool .unit)) .unit))) .nil) 209 vF (.node .nil 210 (.fn (.pair zu (.pair (.int .i64) (.pair (.fn (.pair zj .unit) (.pair (.arr 4 (.int .u64)) .unit)) .unit))) (.pair (.int .u64) (.pair (.int .i64) .unit))) .nil))) 211 (.fn (.pair zj .unit) (.pair (.arr 4 (.int .u64)) .unit)) (.node (.node (.node .nil 212 (.ptr yA) .nil) 213 (.fn (.pair (.sl zm) .unit) (.pair (.ptr yA) .unit)) (.node .nil 215 (.fn (.pair (.int .u64) (.pair (.int .u64) (.pair (.int .u64) .unit))) (.pair (.int .u64) (.pair (.int .u64) .unit))) .nil)) 216 (.fn (.pair (.sl qi) (.pair (.sl qi) .unit)) (.pair .bool .unit)) (.node (.node .nil 217 (.fn (.pair (.sl zW) (.pair (.sl zW) .unit)) (.pair .bool .unit)) .nil) 218 (.fn (.pair (.sl zV) (.pair (.sl zV) .unit)) (.pair .bool .unit)) (.node .nil 219 (.fn (.pair (.sl z4) (.pair (.sl z4) .unit)) (.pair .bool .unit)) .nil)))))) 220 (.fn (.pair (.sl zv) (.pair (.sl zv) .unit)) (.pair .bool .unit)) (.node (.node (.node (.node (.node (.node (.node .nil 221 (.fn (.pair (.sl (.arr 4 (.int .u64))) (.pair (.sl (.arr 4 (.int .u64))) .unit)) (.pair .bool .unit)) .nil) 222 (.fn (.pair (.sl zX) (.pair (.sl zX) .unit)) (.pair .bool .unit)) .nil) 223 (.fn (.pair (.sl zy) (.pair (.fn (.pair zy .unit) (.pair .bool .unit)) .unit)) (.pair .bool .unit)) (.node .nil 224 (.fn (.pair qN .unit) (.pair .bool .unit)) .nil)) 225 (.fn (.pair (.sl qN) (.pair (.fn (.pair qN .unit) (.pair .bool .unit)) .unit)) (.pair .bool .unit)) (.node (.node .nil 226 (.fn (.pair (.sl .str) .unit) (.pair .bool .unit)) .nil) 227 (.sl .str) (.node .nil 228 (.fn (.pair zw .unit) (.pair (.sl .str) .unit)) .nil))) 229 (.fn (.pair (.sl zy) (.pair zy .unit)) (.pair .bool .unit)) (.node (.node (.node (.node .nil 230 (.fn (.pair zcH .unit) (.pair (.sl (.int .i64)) .unit)) .nil) 231 (.int .u64) .nil) 232 (.fn (.pair (.int .i64) (.pair (.int .u64) (.pair (.int .u64) .unit))) (.pair (.int .u64) (.pair (.int .i64) .unit))) (.node .nil 233 (.fn (.pair (.int .u8) .unit) (.pair .bool .unit)) .nil)) 234 (.fn (.pair zdc .unit) (.pair .bool .unit)) (.node (.node .nil 235 (.fn (.pair (.sl zj) (.pair (.fn (.pair zj .unit) (.pair .bool .unit)) .unit)) (.pair (.int .i64) .unit)) .nil) 236 (.fn (.pair (.sl qi) (.pair (.fn (.pair qi .unit) (.pair .bool .unit)) .unit)) (.pair (.int .i64) .unit)) (.node .nil 237 (.fn (.pair .str (.pair (.fn (.pair (.int .u8) .unit) (.pair .bool .unit)) .unit)) (.pair .bool .unit)) .nil)))) 238 (.fn (.pair (.sl zW) (.pair (.fn (.pair zW .unit) (.pair .bool .unit)) .unit)) (.pair (.int .i64) .unit)) (.node (.node (.node (.node (.node .nil 239 (.fn (.pair (.sl zV) (.pair (.fn (.pair zV .unit) (.pair .bool .unit)) .unit)) (.pair (.int .i64) .unit)) .nil) 240 (.st (.pair (.int .i64) (.pair (.int .i64) (.pair zX .unit)))) .nil) 241 zr7 (.node .nil 242 (.fn (.pair zV .unit) (.pair zr7 .unit)) .nil)) 243 (.fn (.pair (.sl z4) (.pair (.fn (.pair z4 .unit) (.pair .bool .unit)) .unit)) (.pair (.int .i64) .unit)) (.node (.node .nil 244 (.fn (.pair (.sl zv) (.pair (.fn (.pair zv .unit) (.pair .bool .unit)) .unit)) (.pair (.int .i64) .unit)) .nil) 245 (.fn (.pair (.sl (.int .i64)) (.pair (.fn (.pair (.int .i64) .unit) (.pair .bool .unit)) .unit)) (.pair (.int .i64) .unit)) (.node .nil 246 (.fn (.pair (.sl (.int .i64)) .unit) (.pair (.int .i64) .unit)) .nil))) 247 (.fn (.pair (.int .u64) (.pair (.int .u64) .unit)) (.pair (.int .i64) .unit)) (.node (.node (.node .nil 248 (.fn (.pair (.int .i64) (.pair (.int .i64) .unit)) (.pair (.int .i64) .unit)) .nil) 249 (.fn (.pair (.sl zm) (.pair (.fn (.pair zm .unit) (.pair .bool .unit)) .unit)) (.pair (.int .i64) .unit)) (.node .nil 250 (.fn (.pair (.sl zr) (.pair (.fn (.pair zr .unit) (.pair .bool .unit)) .unit)) (.pair (.int .i64) .unit)) .nil)) 251 (.fn (.pair (.sl zX) (.pair (.fn (.pair zX .unit) (.pair .bool .unit)) .unit)) (.pair (.int .i64) .unit)) (.node (.node .nil 252 (.fn (.pair (.sl zm) (.pair (.fn (.pair zm .unit) (.pair .bool .unit)) .unit)) (.pair (.ptr yA) .unit)) .nil) 253 (.st (.pair (.sl zm) (.pair (.fn (.pair zm .unit) (.pair .bool .unit)) .unit))) (.node .nil 254 yA .nil))))) 255 (.fn (.pair (.sl zy) (.pair (.fn (.pair zy .unit) (.pair .bool .unit)) .unit)) (.pair (.int .i64) .unit)) (.node (.node (.node (.node (.node (.node .nil 256 (.fn (.pair (.sl qN) (.pair (.fn (.pair qN .unit) (.pair .bool .unit)) .unit)) (.pair (.int .i64) .unit)) .nil) 257 (.pair .str (.int .i64)) .nil) 258 (.fn (.pair (.sl (.int .u8)) (.pair (.fn (.pair (.int .u8) .unit) (.pair .bool .unit)) .unit)) (.pair .bool .unit)) (.node .nil 259 (.sl (.int .u8)) .nil)) 260 (.fn (.pair .str (.pair .str .unit)) (.pair .str .unit)) (.node (.node .nil 261 (.fn (.pair (.int .u64) .unit) (.pair .bool .unit)) .nil) 262 (.fn (.pair (.sl (.int .u8)) (.pair (.fn (.pair (.int .u8) .unit) (.pair .bool .unit)) .unit)) (.pair (.int .i64) .unit)) (.node .nil 263 (.fn (.pair .str (.pair (.int .u8) .unit)) (.pair .str .unit)) .nil))) 264 (.arr 256 .bool) (.node (.node (.node .nil 265 (.arr 256 .bool) .nil) 267 (.fn (.pair .str .unit) (.pair (.arr 256 .bool) (.pair .bool .unit))) (.node .nil 268 (.fn (.pair .str (.pair (.ptr (.arr 256 .bool)) .unit)) (.pair .str .unit)) .nil)) 269 (.ptr (.arr 256 .bool)) (.node (.node .nil 270 (.fn (.pair (.int .u64) (.pair (.int .u64) .unit)) (.pair (.int .u64) (.pair (.int .u64) .unit))) .nil) 272 (.fn (.pair .str .unit) (.pair (.int .i32) (.pair (.int .i64) .unit))) (.node .nil 273 (.fn (.pair .str (.pair (.int .i32) .unit)) (.pair .bool .unit)) .nil)))) 274 (.fn (.pair .str (.pair (.int .i32) .unit)) (.pair (.int .i64) .unit)) (.node (.node (.node (.node (.node .nil 275 (.arr 256 (.int .u8)) .nil) 276 (.st (.pair (.int .u8) (.pair (.int .u8) .unit))) .nil) 277 zjQ (.node .nil 278 (.arr 16 zjQ) .nil)) 279 (.fn (.pair .str (.pair (.int .u8) .unit)) (.pair (.int .i64) .unit)) (.node (.node .nil 280 (.fn (.pair (.int .i32) .unit) (.pair .bool .unit)) .nil) 281 (.fn (.pair (.int .i64) .unit) (.pair (.int .i64) .unit)) (.node .nil 282 (.fn (.pair .str (.pair .str .unit)) (.pair (.int .i64) .unit)) .nil))) 283 (.fn .unit (.pair .str .unit)) (.node (.node (.node .nil 289 (.fn .unit (.pair (.int .i64) .unit)) .nil) 290 (.int .u32) (.node .nil 291 (.int .u8) .nil)) 292 (.int .u8) (.node (.node .nil 294 (.ptr (.int .u8)) .nil) 295 (.int .i32) (.node .nil 296 (.int .i32) .nil))))))))
def glob:List (Nat × AV):=[]
abbrev A_law30_MoneyRests:Ty:=(.pair zw (.pair zu (.pair tMe (.pair qD (.pair zy .unit)))))
def ext:List (Nat × Bool):=[(215,true),(223,false)]
def E0:Env:=⟨types,[],glob,0,false,ext,[],fun _=>none,false,false⟩
theorem zDM:Tryz.prog.follows .mixedOrders = true:=by kernel_rfl
theorem mkS {l:List Fun} {d:Bool} {F:Fun} {f:Go.Func} {K:Nat} (hl:Sds Tryz.prog E0 l) (hf:Tryz.prog.funcs[F.id]? = some f) (ho:jI f = true) (h:evF (En E0 d l) K f F.md F.a F.r = F.spec):Sd Tryz.prog E0 F:=Sd.mk zDM hl hf ho h
end Go.Proofs.YtokcjmkikhgkeaaGreatDoor
end
section
namespace Go.Proofs.YtokcjmkikhgkeaaGreatDoor
open Go.Ev
noncomputable section
abbrev Sq (F:Fun):Prop:=Sd Tryz.prog E0 F
def L0:List Fun:=[]
theorem h0:Sds Tryz.prog E0 L0:=trivial
theorem ms0 {d:Bool} {F:Fun} {f:Go.Func} {K:Nat} (hf:Tryz.prog.funcs[F.id]? = some f) (ho:jI f = true) (h:evF (En E0 d L0) K f F.md F.a F.r = F.spec):Sd Tryz.prog E0 F:=mkS h0 hf ho h
theorem ml0 {d:Bool} {F:Fun} {f:Go.Func} {S:Nat→F.a.I→Option F.r.I} (hf:Tryz.prog.funcs[F.id]? = some f) (ho:jI f = true) (h:∀ K,evF (En E0 d L0) K f F.md F.a F.r = S K) (e:S K0 = F.spec):Sd Tryz.prog E0 F:=mkS h0 hf ho ((h K0).trans e)
abbrev Es0:Env:=En E0 false L0
def zbm:(zz × Unit)→Option (Bool × Unit):=fun (x0,()) =>
  bif decide (x0.1 ≥ 0) then bif decide (x0.1 < 4) then some (true,()) else some (false,()) else some (false,())
abbrev zpp:Fun:=⟨14,(ch [zy]),(ch [.bool]),0,zbm⟩
theorem zyt:Sq zpp:=ms0 (d:=false) (K:=0) Tryz.func14 (by kernel_rfl) (funext fun (x0,())=>by kernel_rfl)
def ql:(Int × (Int × (Int × Unit)))→Option (Bool × Unit):=fun (x0,x1,x2,()) =>
  bif decide (x0 ≥ x1) then bif decide (x0 ≤ x2) then some (true,()) else some (false,()) else some (false,())
abbrev znt:Fun:=⟨136,(ch [tI,tI,tI]),(ch [.bool]),0,ql⟩
theorem zw3:Sq znt:=ms0 (d:=false) (K:=0) Tryz.func136 (by kernel_rfl) (funext fun (x0,x1,x2,())=>by kernel_rfl)
abbrev jX:Type:=(List zz) × (Option ((zz × Unit)→Option (Bool × Unit))) × Int × Int
abbrev zmW:jX→St:=fun (v0,v1,v7,v8)=>St.mk [(0,.dat (.sl zy) v0),(1,.dat (.fn (.pair zy .unit) (.pair .bool .unit)) v1),(7,.dat tI v7),(8,.dat tI v8)] []
def zcg (k0:jX→Option (Int × Unit)):jX→Option (Int × Unit):=fun (v0,v1,v7,v8) =>
  bif decide (v8 < v7) then inR v8 ((List.length v0):Int) (Option.bind v1 fun q0=>Option.bind (q0 (ix qy v0 v8,())) fun q1=>bif q1.1 then some (v8,()) else k0 (v0,v1,v7,wI (v8 + 1))) else some ((-1),())
abbrev zfz (K:Nat):jX→Option (Int × Unit):=zl zcg K
theorem zmX (K:Nat):∀ n,evV Es0 K Tryz.f276 0 (ch [tI]) [1,0,1,0] [] zmW n = zl zcg n:=zt fun n0 (v0,v1,v7,v8)=>by kernel_rfl
def zde (L0:jX→Option (Int × Unit)):((List zz) × ((Option ((zz × Unit)→Option (Bool × Unit))) × Unit))→Option (Int × Unit):=fun (x0,x1,()) =>
  L0 (x0,x1,((List.length x0):Int),0)
def zao:((List zz) × ((Option ((zz × Unit)→Option (Bool × Unit))) × Unit))→Option (Int × Unit):=zde (zfz K0)
abbrev zg2:Fun:=⟨276,(ch [(.sl zy),(.fn (ch [zy]) (ch [.bool]))]),(ch [tI]),0,zao⟩
theorem zoI:Sq zg2:=ml0 (d:=false) (S:=fun K=>zde (zfz K)) Tryz.func276 (by kernel_rfl) (fun K=>tr1 (T:=zde) (zmX K K) fun (x0,x1,())=>by kernel_rfl) rfl
def yS:(Int × Unit)→Option (Bool × Unit):=fun (x0,()) =>
  bif x0 != x0 then some (true,()) else some (false,())
abbrev zma:Fun:=⟨288,(ch [tI]),(ch [.bool]),0,yS⟩
theorem zvu:Sq zma:=ms0 (d:=false) (K:=0) Tryz.func288 (by kernel_rfl) (funext fun (x0,())=>by kernel_rfl)
def vf:(Int × Unit)→Option (Bool × Unit):=fun (x0,()) =>
  bif x0 != x0 then some (true,()) else some (false,())
abbrev zjb:Fun:=⟨287,(ch [tU]),(ch [.bool]),0,vf⟩
theorem zqP:Sq zjb:=ms0 (d:=false) (K:=0) Tryz.func287 (by kernel_rfl) (funext fun (x0,())=>by kernel_rfl)
abbrev zcI:Type:=Int × (List Int) × Int × Int
abbrev zw4:zcI→St:=fun (v3,v6,v7,v8)=>St.mk [(3,.dat tI v3),(6,.dat (.sl tI) v6),(7,.dat tI v7),(8,.dat tI v8)] []
def qW (k0:zcI→Option (Int × Unit)):zcI→Option (Int × Unit):=fun (v3,v6,v7,v8) =>
  bif decide (v8 < v7) then inR v8 ((List.length v6):Int) (bif ix (0:Int) v6 v8 != v3 then some (ix (0:Int) v6 v8,()) else k0 (v3,v6,v7,wI (v8 + 1))) else some (v3,())
abbrev znu (K:Nat):zcI→Option (Int × Unit):=zl qW K
theorem zw5 (K:Nat):∀ n,evV Es0 K Tryz.f266 0 (ch [tI]) [1,1,0,1,0] [] zw4 n = zl qW n:=zt fun n0 (v3,v6,v7,v8)=>by kernel_rfl
def zkO (L0:zcI→Option (Int × Unit)):((List Int) × Unit)→Option (Int × Unit):=fun (x0,()) =>
  L0 (0,x0,((List.length x0):Int),0)
def zcJ:((List Int) × Unit)→Option (Int × Unit):=zkO (znu K0)
abbrev zqQ:Fun:=⟨266,(ch [(.sl tI)]),(ch [tI]),0,zcJ⟩
theorem zAl:Sq zqQ:=ml0 (d:=false) (S:=fun K=>zkO (znu K)) Tryz.func266 (by kernel_rfl) (fun K=>tr1 (T:=zkO) (zw5 K K) fun (x0,())=>by kernel_rfl) rfl
abbrev vG:Type:=(List Int) × (Option ((Int × Unit)→Option (Bool × Unit))) × Int × Int
abbrev zoJ:vG→St:=fun (v0,v1,v7,v8)=>St.mk [(0,.dat (.sl tI) v0),(1,.dat (.fn (.pair tI .unit) (.pair .bool .unit)) v1),(7,.dat tI v7),(8,.dat tI v8)] []
def zdf (k0:vG→Option (Int × Unit)):vG→Option (Int × Unit):=fun (v0,v1,v7,v8) =>
  bif decide (v8 < v7) then inR v8 ((List.length v0):Int) (Option.bind v1 fun q0=>Option.bind (q0 (ix (0:Int) v0 v8,())) fun q1=>bif q1.1 then some (v8,()) else k0 (v0,v1,v7,wI (v8 + 1))) else some ((-1),())
abbrev zg3 (K:Nat):vG→Option (Int × Unit):=zl zdf K
theorem zoK (K:Nat):∀ n,evV Es0 K Tryz.f262 0 (ch [tI]) [1,0,1,0] [] zoJ n = zl zdf n:=zt fun n0 (v0,v1,v7,v8)=>by kernel_rfl
def zem (L0:vG→Option (Int × Unit)):((List Int) × ((Option ((Int × Unit)→Option (Bool × Unit))) × Unit))→Option (Int × Unit):=fun (x0,x1,()) =>
  L0 (x0,x1,((List.length x0):Int),0)
def zbC:((List Int) × ((Option ((Int × Unit)→Option (Bool × Unit))) × Unit))→Option (Int × Unit):=zem (zg3 K0)
abbrev zjc:Fun:=⟨262,(ch [(.sl tI),(.fn (ch [tI]) (ch [.bool]))]),(ch [tI]),0,zbC⟩
theorem zqR:Sq zjc:=ml0 (d:=false) (S:=fun K=>zem (zg3 K)) Tryz.func262 (by kernel_rfl) (fun K=>tr1 (T:=zem) (zoK K K) fun (x0,x1,())=>by kernel_rfl) rfl
def zen:(Int × Unit)→Option (Bool × Unit):=fun (x0,()) =>
  bif decide (x0 ≥ 97) then bif decide (x0 ≤ 122) then some (true,()) else some (false,()) else some (false,())
abbrev zqS:Fun:=⟨244,(ch [(.int .u8)]),(ch [.bool]),0,zen⟩
theorem zAm:Sq zqS:=ms0 (d:=false) (K:=0) Tryz.func244 (by kernel_rfl) (funext fun (x0,())=>by kernel_rfl)
def zg4:(Int × ((Option (Option ((Int × Unit)→Option (Bool × Unit)))) × Unit))→Option (Bool × Unit):=fun (x0,x1,()) =>
  Option.bind x1 fun q0=>Option.bind q0 fun q1=>Option.bind (q1 (x0,())) fun q2=>bif q2.1 then some (false,()) else some (true,())
abbrev zqT:Fun:=⟨280,(ch [(.int .u8),(.ptr (.fn (ch [(.int .u8)]) (ch [.bool])))]),(ch [.bool]),0,zg4⟩
theorem zAn:Sq zqT:=ms0 (d:=false) (K:=0) Tryz.func280 (by kernel_rfl) (funext fun (x0,x1,())=>by kernel_rfl)
abbrev vg:Type:=(List Int) × (Option ((Int × Unit)→Option (Bool × Unit))) × Int × Int
abbrev znv:vg→St:=fun (v0,v1,v7,v8)=>St.mk [(0,.dat (.sl (.int IntKind.u8)) v0),(1,.dat (.fn (.pair (.int IntKind.u8) .unit) (.pair .bool .unit)) v1),(7,.dat tI v7),(8,.dat tI v8)] []
def zcK (k0:vg→Option (Int × Unit)):vg→Option (Int × Unit):=fun (v0,v1,v7,v8) =>
  bif decide (v8 < v7) then inR v8 ((List.length v0):Int) (Option.bind v1 fun q0=>Option.bind (q0 (ix (ze (.int IntKind.u8)) v0 v8,())) fun q1=>bif q1.1 then some (v8,()) else k0 (v0,v1,v7,wI (v8 + 1))) else some ((-1),())
abbrev zgD (K:Nat):vg→Option (Int × Unit):=zl zcK K
theorem znw (K:Nat):∀ n,evV Es0 K Tryz.f289 0 (ch [tI]) [1,0,1,0] [] znv n = zl zcK n:=zt fun n0 (v0,v1,v7,v8)=>by kernel_rfl
def zdZ (L0:vg→Option (Int × Unit)):((List Int) × ((Option ((Int × Unit)→Option (Bool × Unit))) × Unit))→Option (Int × Unit):=fun (x0,x1,()) =>
  L0 (x0,x1,((List.length x0):Int),0)
def za8:((List Int) × ((Option ((Int × Unit)→Option (Bool × Unit))) × Unit))→Option (Int × Unit):=zdZ (zgD K0)
abbrev zhY:Fun:=⟨289,(ch [(.sl (.int .u8)),(.fn (ch [(.int .u8)]) (ch [.bool]))]),(ch [tI]),0,za8⟩
theorem zp5:Sq zhY:=ml0 (d:=false) (S:=fun K=>zdZ (zgD K)) Tryz.func289 (by kernel_rfl) (fun K=>tr1 (T:=zdZ) (znw K K) fun (x0,x1,())=>by kernel_rfl) rfl
def zg5:(Int × Unit)→Option (Bool × Unit):=fun (x0,()) =>
  bif decide (x0 ≥ 48) then bif decide (x0 ≤ 57) then some (true,()) else some (false,()) else some (false,())
abbrev zqU:Fun:=⟨247,(ch [(.int .u8)]),(ch [.bool]),0,zg5⟩
theorem zAo:Sq zqU:=ms0 (d:=false) (K:=0) Tryz.func247 (by kernel_rfl) (funext fun (x0,())=>by kernel_rfl)
abbrev jA:Type:=(List qO) × (Option ((qO × Unit)→Option (Bool × Unit))) × Int × Int
abbrev zkP:jA→St:=fun (v0,v1,v7,v8)=>St.mk [(0,.dat (.sl qN) v0),(1,.dat (.fn (.pair qN .unit) (.pair .bool .unit)) v1),(7,.dat tI v7),(8,.dat tI v8)] []
def zaQ (k0:jA→Option (Int × Unit)):jA→Option (Int × Unit):=fun (v0,v1,v7,v8) =>
  bif decide (v8 < v7) then inR v8 ((List.length v0):Int) (Option.bind v1 fun q0=>Option.bind (q0 (ix zda v0 v8,())) fun q1=>bif q1.1 then some (v8,()) else k0 (v0,v1,v7,wI (v8 + 1))) else some ((-1),())
abbrev zeo (K:Nat):jA→Option (Int × Unit):=zl zaQ K
theorem zkQ (K:Nat):∀ n,evV Es0 K Tryz.f277 0 (ch [tI]) [1,0,1,0] [] zkP n = zl zaQ n:=zt fun n0 (v0,v1,v7,v8)=>by kernel_rfl
def zch (L0:jA→Option (Int × Unit)):((List qO) × ((Option ((qO × Unit)→Option (Bool × Unit))) × Unit))→Option (Int × Unit):=fun (x0,x1,()) =>
  L0 (x0,x1,((List.length x0):Int),0)
def yB:((List qO) × ((Option ((qO × Unit)→Option (Bool × Unit))) × Unit))→Option (Int × Unit):=zch (zeo K0)
abbrev zfA:Fun:=⟨277,(ch [(.sl qN),(.fn (ch [qN]) (ch [.bool]))]),(ch [tI]),0,yB⟩
theorem zmY:Sq zfA:=ml0 (d:=false) (S:=fun K=>zch (zeo K)) Tryz.func277 (by kernel_rfl) (fun K=>tr1 (T:=zch) (zkQ K K) fun (x0,x1,())=>by kernel_rfl) rfl
abbrev ye:Type:=(List qO) × Int × Int × List ByteArray
abbrev zp6:ye→St:=fun (v7,v8,v9,o0)=>St.mk [(3,.ow 0),(7,.dat (.sl qN) v7),(8,.dat tI v8),(9,.dat tI v9)] [.row .str o0 false]
def yf (k0:ye→Option ((List ByteArray) × Unit)):ye→Option ((List ByteArray) × Unit):=fun (v7,v8,v9,o0) =>
  bif decide (v9 < v8) then inR v9 ((List.length v7):Int) (bif decide (List.length o0 + List.length (zi (List.replicate 1 (ze .str)) 0 (ix zda v7 v9).1) ≤ lim) then k0 (v7,v8,wI (v9 + 1),o0 ++ zi (List.replicate 1 (ze .str)) 0 (ix zda v7 v9).1) else none) else some (o0,())
abbrev zhZ (K:Nat):ye→Option ((List ByteArray) × Unit):=zl yf K
theorem zp7 (K:Nat):∀ n,evV Es0 K Tryz.f231 0 (ch [(.sl .str)]) [1,1,0,1,0] [] zp6 n = zl yf n:=zt fun n0 (v7,v8,v9,o0)=>by kernel_rfl
def zfi (L0:ye→Option ((List ByteArray) × Unit)):(zf × Unit)→Option ((List ByteArray) × Unit):=fun (x0,()) =>
  L0 (x0.2.2.1,((List.length x0.2.2.1):Int),0,[])
def zfj:(zf × Unit)→Option ((List ByteArray) × Unit):=zfi (zhZ K0)
abbrev zjR:Fun:=⟨231,(ch [zw]),(ch [(.sl .str)]),0,zfj⟩
theorem zso:Sq zjR:=ml0 (d:=false) (S:=fun K=>zfi (zhZ K)) Tryz.func231 (by kernel_rfl) (fun K=>tr1 (T:=zfi) (zp7 K K) fun (x0,())=>by kernel_rfl) rfl
abbrev zcL:Type:=(List ByteArray) × (List ByteArray) × Int × Int × List (ByteArray × Int)
abbrev zw6:zcL→St:=fun (v0,v7,v8,v9,o0)=>St.mk [(0,.dat (.sl .str) v0),(3,.om 0),(7,.dat (.sl .str) v7),(8,.dat tI v8),(9,.dat tI v9)] [.mp .str tI o0]
def zcM (k0:zcL→Option (Bool × Unit)):zcL→Option (Bool × Unit):=fun (v0,v7,v8,v9,o0) =>
  bif decide (v9 < v8) then inR v9 ((List.length v7):Int) (k0 (v0,v7,v8,wI (v9 + 1),yn .str o0 (List.getD v7 (Int.toNat v9) (ze .str)) (wI (zcd .str (0:Int) o0 (List.getD v7 (Int.toNat v9) (ze .str)) + 1)))) else bif ((List.length o0):Int) == ((List.length v0):Int) then some (true,()) else some (false,())
abbrev znx (K:Nat):zcL→Option (Bool × Unit):=zl zcM K
theorem zw7 (K:Nat):∀ n,evV Es0 K Tryz.f230 0 (ch [.bool]) [1,1,0,1,0] [] zw6 n = zl zcM n:=zt fun n0 (v0,v7,v8,v9,o0)=>by kernel_rfl
def zkR (L0:zcL→Option (Bool × Unit)):((List ByteArray) × Unit)→Option (Bool × Unit):=fun (x0,()) =>
  L0 (x0,x0,((List.length x0):Int),0,[])
def zkS:((List ByteArray) × Unit)→Option (Bool × Unit):=zkR (znx K0)
abbrev zqV:Fun:=⟨230,(ch [(.sl .str)]),(ch [.bool]),0,zkS⟩
theorem zAp:Sq zqV:=ml0 (d:=false) (S:=fun K=>zkR (znx K)) Tryz.func230 (by kernel_rfl) (fun K=>tr1 (T:=zkR) (zw7 K K) fun (x0,())=>by kernel_rfl) rfl
def zep:(Int × Unit)→Option (zz × (Int × Unit)):=fun (x0,()) =>
  bif decide (x0 < 0) then some ((0,0,()),1,()) else bif decide (x0 ≥ 64) then some ((0,0,()),1,()) else bif decide (x0 < 0) then none else some ((0,wU (1 * 2 ^ min (Int.toNat x0) (IntKind.bits IntKind.u64)),()),0,())
abbrev zqW:Fun:=⟨125,(ch [tI]),(ch [zy,tI]),0,zep⟩
theorem zAq:Sq zqW:=ms0 (d:=false) (K:=0) Tryz.func125 (by kernel_rfl) (funext fun (x0,())=>by kernel_rfl)
abbrev yG:Type:=(List zz) × Int × Int × zz
abbrev zqX:yG→St:=fun (v0,v7,v8,o0)=>St.mk [(0,.dat (.sl zy) v0),(3,.bp 0 []),(7,.dat tI v7),(8,.dat tI v8)] [.bx (.dat zy o0) false]
def yH (k0:yG→Option (Int × Unit)):yG→Option (Int × Unit):=fun (v0,v7,v8,o0) =>
  bif decide (v8 < v7) then inR v8 ((List.length v0):Int) (bif eqI zy o0 (ix qy v0 v8) then some (v8,()) else k0 (v0,v7,wI (v8 + 1),o0)) else some ((-1),())
abbrev zjd (K:Nat):yG→Option (Int × Unit):=zl yH K
theorem zqY (K:Nat):∀ n,evV Es0 K Tryz.f278 0 (ch [tI]) [1,0,1,0] [] zqX n = zl yH n:=zt fun n0 (v0,v7,v8,o0)=>by kernel_rfl
def zge (L0:yG→Option (Int × Unit)):((List zz) × (zz × Unit))→Option (Int × Unit):=fun (x0,x1,()) =>
  L0 (x0,((List.length x0):Int),0,x1)
def zgf:((List zz) × zz × Unit)→Option (Int × Unit):=zge (zjd K0)
abbrev zkT:Fun:=⟨278,(ch [(.sl zy),zy]),(ch [tI]),0,zgf⟩
theorem ztL:Sq zkT:=ml0 (d:=false) (S:=fun K=>zge (zjd K)) Tryz.func278 (by kernel_rfl) (fun K=>tr1 (T:=zge) (zqY K K) fun (x0,x1,())=>by kernel_rfl) rfl
def zgg:(zz × ((Option Int) × Unit))→Option (Bool × Unit):=fun (x0,x1,()) =>
  Option.bind x1 fun q0=>bif wU (↑(BitVec.toNat (BitVec.ofInt (IntKind.bits IntKind.u64) x0.2.1 &&& ~~~BitVec.ofInt (IntKind.bits IntKind.u64) q0)):Int) != 0 then some (true,()) else some (false,())
abbrev zkU:Fun:=⟨233,(ch [zy,(.ptr tU)]),(ch [.bool]),0,zgg⟩
theorem ztM:Sq zkU:=ms0 (d:=false) (K:=0) Tryz.func233 (by kernel_rfl) (funext fun (x0,x1,())=>by kernel_rfl)
def zg6:(zad × Unit)→Option ((List Int) × Unit):=fun (x0,()) =>
  some ([x0.1,x0.2.1,x0.2.2.1,x0.2.2.2.1,x0.2.2.2.2.1],())
abbrev zmb:Fun:=⟨235,(ch [zcH]),(ch [(.sl tI)]),0,zg6⟩
theorem zvv:Sq zmb:=ms0 (d:=false) (K:=0) Tryz.func235 (by kernel_rfl) (funext fun (x0,())=>by kernel_rfl)
def za9:(zg × ((Option (Option ((zg × Unit)→Option (Bool × Unit)))) × Unit))→Option (Bool × Unit):=fun (x0,x1,()) =>
  Option.bind x1 fun q0=>Option.bind q0 fun q1=>Option.bind (q1 (x0,())) fun q2=>bif q2.1 then some (false,()) else some (true,())
abbrev zh0:Fun:=⟨177,(ch [zj,(.ptr (.fn (ch [zj]) (ch [.bool])))]),(ch [.bool]),0,za9⟩
theorem zp8:Sq zh0:=ms0 (d:=false) (K:=0) Tryz.func177 (by kernel_rfl) (funext fun (x0,x1,())=>by kernel_rfl)
abbrev jY:Type:=(List zg) × (Option ((zg × Unit)→Option (Bool × Unit))) × Int × Int
abbrev zmZ:jY→St:=fun (v0,v1,v7,v8)=>St.mk [(0,.dat (.sl zj) v0),(1,.dat (.fn (.pair zj .unit) (.pair .bool .unit)) v1),(7,.dat tI v7),(8,.dat tI v8)] []
def zci (k0:jY→Option (Int × Unit)):jY→Option (Int × Unit):=fun (v0,v1,v7,v8) =>
  bif decide (v8 < v7) then inR v8 ((List.length v0):Int) (Option.bind v1 fun q0=>Option.bind (q0 (ix za v0 v8,())) fun q1=>bif q1.1 then some (v8,()) else k0 (v0,v1,v7,wI (v8 + 1))) else some ((-1),())
abbrev zfB (K:Nat):jY→Option (Int × Unit):=zl zci K
theorem zm0 (K:Nat):∀ n,evV Es0 K Tryz.f242 0 (ch [tI]) [1,0,1,0] [] zmZ n = zl zci n:=zt fun n0 (v0,v1,v7,v8)=>by kernel_rfl
def zdg (L0:jY→Option (Int × Unit)):((List zg) × ((Option ((zg × Unit)→Option (Bool × Unit))) × Unit))→Option (Int × Unit):=fun (x0,x1,()) =>
  L0 (x0,x1,((List.length x0):Int),0)
def zap:((List zg) × ((Option ((zg × Unit)→Option (Bool × Unit))) × Unit))→Option (Int × Unit):=zdg (zfB K0)
abbrev zg7:Fun:=⟨242,(ch [(.sl zj),(.fn (ch [zj]) (ch [.bool]))]),(ch [tI]),0,zap⟩
theorem zoL:Sq zg7:=ml0 (d:=false) (S:=fun K=>zdg (zfB K)) Tryz.func242 (by kernel_rfl) (fun K=>tr1 (T:=zdg) (zm0 K K) fun (x0,x1,())=>by kernel_rfl) rfl
abbrev vh:Type:=(List ja) × (Option ((ja × Unit)→Option (Bool × Unit))) × Int × Int
abbrev zny:vh→St:=fun (v0,v1,v7,v8)=>St.mk [(0,.dat (.sl qi) v0),(1,.dat (.fn (.pair qi .unit) (.pair .bool .unit)) v1),(7,.dat tI v7),(8,.dat tI v8)] []
def zcN (k0:vh→Option (Int × Unit)):vh→Option (Int × Unit):=fun (v0,v1,v7,v8) =>
  bif decide (v8 < v7) then inR v8 ((List.length v0):Int) (Option.bind v1 fun q0=>Option.bind (q0 (ix zr6 v0 v8,())) fun q1=>bif q1.1 then some (v8,()) else k0 (v0,v1,v7,wI (v8 + 1))) else some ((-1),())
abbrev zgE (K:Nat):vh→Option (Int × Unit):=zl zcN K
theorem znz (K:Nat):∀ n,evV Es0 K Tryz.f243 0 (ch [tI]) [1,0,1,0] [] zny n = zl zcN n:=zt fun n0 (v0,v1,v7,v8)=>by kernel_rfl
def zd0 (L0:vh→Option (Int × Unit)):((List ja) × ((Option ((ja × Unit)→Option (Bool × Unit))) × Unit))→Option (Int × Unit):=fun (x0,x1,()) =>
  L0 (x0,x1,((List.length x0):Int),0)
def zba:((List ja) × ((Option ((ja × Unit)→Option (Bool × Unit))) × Unit))→Option (Int × Unit):=zd0 (zgE K0)
abbrev zh1:Fun:=⟨243,(ch [(.sl qi),(.fn (ch [qi]) (ch [.bool]))]),(ch [tI]),0,zba⟩
theorem zp9:Sq zh1:=ml0 (d:=false) (S:=fun K=>zd0 (zgE K)) Tryz.func243 (by kernel_rfl) (fun K=>tr1 (T:=zd0) (znz K K) fun (x0,x1,())=>by kernel_rfl) rfl
def zeq:(qb × Unit)→Option (Bool × Unit):=fun (x0,()) =>
  bif decide (x0.1 ≥ 0) then bif decide (x0.1 ≤ 127) then bif decide (x0.2.1 ≥ 0) then bif decide (x0.2.1 ≤ 127) then some (true,()) else some (false,()) else some (false,()) else some (false,()) else some (false,())
abbrev zqZ:Fun:=⟨248,(ch [zX]),(ch [.bool]),0,zeq⟩
theorem zAr:Sq zqZ:=ms0 (d:=false) (K:=0) Tryz.func248 (by kernel_rfl) (funext fun (x0,())=>by kernel_rfl)
def zg8:(Int × Unit)→Option (Bool × Unit):=fun (x0,()) =>
  bif decide (x0 ≥ 0) then bif decide (x0 < 6) then some (true,()) else some (false,()) else some (false,())
abbrev zq0:Fun:=⟨249,(ch [tI]),(ch [.bool]),0,zg8⟩
theorem zAs:Sq zq0:=ms0 (d:=false) (K:=0) Tryz.func249 (by kernel_rfl) (funext fun (x0,())=>by kernel_rfl)
def zeV:(z8 × ((Option qb) × ((Option Int) × Unit)))→Option (Bool × Unit):=fun (x0,x1,x2,()) =>
  bif x0.1 then Option.bind x1 fun q0=>bif eqI zX x0.2.1 q0 then Option.bind x2 fun q1=>bif x0.2.2.2.1 == q1 then some (true,()) else some (false,()) else some (false,()) else some (false,())
abbrev znA:Fun:=⟨251,(ch [zW,(.ptr zX),(.ptr tI)]),(ch [.bool]),0,zeV⟩
theorem zw8:Sq znA:=ms0 (d:=false) (K:=0) Tryz.func251 (by kernel_rfl) (funext fun (x0,x1,x2,())=>by kernel_rfl)
abbrev vi:Type:=(List z8) × (Option ((z8 × Unit)→Option (Bool × Unit))) × Int × Int
abbrev znB:vi→St:=fun (v0,v1,v7,v8)=>St.mk [(0,.dat (.sl zW) v0),(1,.dat (.fn (.pair zW .unit) (.pair .bool .unit)) v1),(7,.dat tI v7),(8,.dat tI v8)] []
def zcO (k0:vi→Option (Int × Unit)):vi→Option (Int × Unit):=fun (v0,v1,v7,v8) =>
  bif decide (v8 < v7) then inR v8 ((List.length v0):Int) (Option.bind v1 fun q0=>Option.bind (q0 (ix vE v0 v8,())) fun q1=>bif q1.1 then some (v8,()) else k0 (v0,v1,v7,wI (v8 + 1))) else some ((-1),())
abbrev zgF (K:Nat):vi→Option (Int × Unit):=zl zcO K
theorem znC (K:Nat):∀ n,evV Es0 K Tryz.f250 0 (ch [tI]) [1,0,1,0] [] znB n = zl zcO n:=zt fun n0 (v0,v1,v7,v8)=>by kernel_rfl
def zd1 (L0:vi→Option (Int × Unit)):((List z8) × ((Option ((z8 × Unit)→Option (Bool × Unit))) × Unit))→Option (Int × Unit):=fun (x0,x1,()) =>
  L0 (x0,x1,((List.length x0):Int),0)
def yg:((List z8) × ((Option ((z8 × Unit)→Option (Bool × Unit))) × Unit))→Option (Int × Unit):=zd1 (zgF K0)
abbrev zh2:Fun:=⟨250,(ch [(.sl zW),(.fn (ch [zW]) (ch [.bool]))]),(ch [tI]),0,yg⟩
theorem zqa:Sq zh2:=ml0 (d:=false) (S:=fun K=>zd1 (zgF K)) Tryz.func250 (by kernel_rfl) (fun K=>tr1 (T:=zd1) (znC K K) fun (x0,x1,())=>by kernel_rfl) rfl
abbrev vj:Type:=(List qc) × (Option ((qc × Unit)→Option (Bool × Unit))) × Int × Int
abbrev znD:vj→St:=fun (v0,v1,v7,v8)=>St.mk [(0,.dat (.sl zV) v0),(1,.dat (.fn (.pair zV .unit) (.pair .bool .unit)) v1),(7,.dat tI v7),(8,.dat tI v8)] []
def zcP (k0:vj→Option (Int × Unit)):vj→Option (Int × Unit):=fun (v0,v1,v7,v8) =>
  bif decide (v8 < v7) then inR v8 ((List.length v0):Int) (Option.bind v1 fun q0=>Option.bind (q0 (ix zdb v0 v8,())) fun q1=>bif q1.1 then some (v8,()) else k0 (v0,v1,v7,wI (v8 + 1))) else some ((-1),())
abbrev zgG (K:Nat):vj→Option (Int × Unit):=zl zcP K
theorem znE (K:Nat):∀ n,evV Es0 K Tryz.f252 0 (ch [tI]) [1,0,1,0] [] znD n = zl zcP n:=zt fun n0 (v0,v1,v7,v8)=>by kernel_rfl
def zd2 (L0:vj→Option (Int × Unit)):((List qc) × ((Option ((qc × Unit)→Option (Bool × Unit))) × Unit))→Option (Int × Unit):=fun (x0,x1,()) =>
  L0 (x0,x1,((List.length x0):Int),0)
def zbb:((List qc) × ((Option ((qc × Unit)→Option (Bool × Unit))) × Unit))→Option (Int × Unit):=zd2 (zgG K0)
abbrev zh3:Fun:=⟨252,(ch [(.sl zV),(.fn (ch [zV]) (ch [.bool]))]),(ch [tI]),0,zbb⟩
theorem zqb:Sq zh3:=ml0 (d:=false) (S:=fun K=>zd2 (zgG K)) Tryz.func252 (by kernel_rfl) (fun K=>tr1 (T:=zd2) (znE K K) fun (x0,x1,())=>by kernel_rfl) rfl
def zoM:(qc × Unit)→Option (zw2 × Unit):=fun (x0,()) =>
  some (x0.2.2,())
abbrev zvw:Fun:=⟨253,(ch [zV]),(ch [zr7]),0,zoM⟩
theorem zDN:Sq zvw:=ms0 (d:=false) (K:=0) Tryz.func253 (by kernel_rfl) (funext fun (x0,())=>by kernel_rfl)
def zdh:(Int × Unit)→Option (Bool × Unit):=fun (x0,()) =>
  bif decide (x0 ≥ 0) then bif decide (x0 ≤ 127) then some (true,()) else some (false,()) else some (false,())
abbrev zvx:Fun:=⟨282,(ch [tI]),(ch [.bool]),0,zdh⟩
theorem zDO:Sq zvx:=ms0 (d:=false) (K:=0) Tryz.func282 (by kernel_rfl) (funext fun (x0,())=>by kernel_rfl)
abbrev vk:Type:=(List qr) × (Option ((qr × Unit)→Option (Bool × Unit))) × Int × Int
abbrev znF:vk→St:=fun (v0,v1,v7,v8)=>St.mk [(0,.dat (.sl z4) v0),(1,.dat (.fn (.pair z4 .unit) (.pair .bool .unit)) v1),(7,.dat tI v7),(8,.dat tI v8)] []
def zcQ (k0:vk→Option (Int × Unit)):vk→Option (Int × Unit):=fun (v0,v1,v7,v8) =>
  bif decide (v8 < v7) then inR v8 ((List.length v0):Int) (Option.bind v1 fun q0=>Option.bind (q0 (ix zzt v0 v8,())) fun q1=>bif q1.1 then some (v8,()) else k0 (v0,v1,v7,wI (v8 + 1))) else some ((-1),())
abbrev zgH (K:Nat):vk→Option (Int × Unit):=zl zcQ K
theorem znG (K:Nat):∀ n,evV Es0 K Tryz.f255 0 (ch [tI]) [1,0,1,0] [] znF n = zl zcQ n:=zt fun n0 (v0,v1,v7,v8)=>by kernel_rfl
def zd3 (L0:vk→Option (Int × Unit)):((List qr) × ((Option ((qr × Unit)→Option (Bool × Unit))) × Unit))→Option (Int × Unit):=fun (x0,x1,()) =>
  L0 (x0,x1,((List.length x0):Int),0)
def zbc:((List qr) × ((Option ((qr × Unit)→Option (Bool × Unit))) × Unit))→Option (Int × Unit):=zd3 (zgH K0)
abbrev zh4:Fun:=⟨255,(ch [(.sl z4),(.fn (ch [z4]) (ch [.bool]))]),(ch [tI]),0,zbc⟩
theorem zqc:Sq zh4:=ml0 (d:=false) (S:=fun K=>zd3 (zgH K)) Tryz.func255 (by kernel_rfl) (fun K=>tr1 (T:=zd3) (znG K K) fun (x0,x1,())=>by kernel_rfl) rfl
def zgI:(Int × Unit)→Option (Bool × Unit):=fun (x0,()) =>
  bif decide (x0 ≥ 0) then bif decide (x0 ≤ 127) then some (true,()) else some (false,()) else some (false,())
abbrev zya:Fun:=⟨283,(ch [tI]),(ch [.bool]),0,zgI⟩
theorem zFm:Sq zya:=ms0 (d:=false) (K:=0) Tryz.func283 (by kernel_rfl) (funext fun (x0,())=>by kernel_rfl)
def zg9:(Int × Unit)→Option (Bool × Unit):=fun (x0,()) =>
  bif decide (x0 ≥ 32) then bif decide (x0 ≤ 126) then some (true,()) else some (false,()) else some (false,())
abbrev zq1:Fun:=⟨284,(ch [(.int .u8)]),(ch [.bool]),0,zg9⟩
theorem zAt:Sq zq1:=ms0 (d:=false) (K:=0) Tryz.func284 (by kernel_rfl) (funext fun (x0,())=>by kernel_rfl)
abbrev jt:Type:=ByteArray × Int
abbrev zkd:jt→St:=fun (v0,v1)=>St.mk [(0,.dat .str v0),(1,.dat (.int IntKind.u8) v1)] []
def zJ (k0:jt→Option (ByteArray × Unit)):jt→Option (ByteArray × Unit):=fun (v0,v1) =>
  bif decide ((↑(ByteArray.size v0):Int) > 0) then inR (wI ((↑(ByteArray.size v0):Int) - 1)) (↑(ByteArray.size v0):Int) (bif (↑(UInt8.toNat (List.getD (Array.toList (ByteArray.data v0)) (Int.toNat (wI ((↑(ByteArray.size v0):Int) - 1))) 0)):Int) == v1 then bif decide (0 ≤ wI ((↑(ByteArray.size v0):Int) - 1)) then bif decide (wI ((↑(ByteArray.size v0):Int) - 1) ≤ (↑(ByteArray.size v0):Int)) then k0 (ByteArray.extract v0 0 (Int.toNat (wI ((↑(ByteArray.size v0):Int) - 1))),v1) else none else none else some (v0,())) else some (v0,())
abbrev zd9 (K:Nat):jt→Option (ByteArray × Unit):=zl zJ K
theorem zke (K:Nat):∀ n,evV Es0 K Tryz.f291 0 (ch [.str]) [1,0,0] [] zkd n = zl zJ n:=zt fun n0 (v0,v1)=>by kernel_rfl
def zbi (L0:jt→Option (ByteArray × Unit)):(ByteArray × (Int × Unit))→Option (ByteArray × Unit):=fun (x0,x1,()) =>
  L0 (x0,x1)
def zbj:(ByteArray × Int × Unit)→Option (ByteArray × Unit):=zbi (zd9 K0)
abbrev zfc:Fun:=⟨291,(ch [.str,(.int .u8)]),(ch [.str]),0,zbj⟩
theorem zlL:Sq zfc:=ml0 (d:=false) (S:=fun K=>zbi (zd9 K)) Tryz.func291 (by kernel_rfl) (fun K=>tr1 (T:=zbi) (zke K K) fun (x0,x1,())=>by kernel_rfl) rfl
abbrev jB:Type:=ByteArray × Int
abbrev zkV:jB→St:=fun (v0,v1)=>St.mk [(0,.dat .str v0),(1,.dat (.int IntKind.u8) v1)] []
def zN (k0:jB→Option (ByteArray × Unit)):jB→Option (ByteArray × Unit):=fun (v0,v1) =>
  bif decide ((↑(ByteArray.size v0):Int) > 0) then bif decide (0 < (↑(ByteArray.size v0):Int)) then bif (↑(UInt8.toNat (List.getD (Array.toList (ByteArray.data v0)) (Int.toNat 0) 0)):Int) == v1 then bif decide (1 ≤ (↑(ByteArray.size v0):Int)) then k0 (ByteArray.extract v0 (Int.toNat 1) (ByteArray.size v0),v1) else none else some (v0,()) else none else some (v0,())
abbrev zer (K:Nat):jB→Option (ByteArray × Unit):=zl zN K
theorem zkW (K:Nat):∀ n,evV Es0 K Tryz.f290 0 (ch [.str]) [1,0,0] [] zkV n = zl zN n:=zt fun n0 (v0,v1)=>by kernel_rfl
def zcj (L0:jB→Option (ByteArray × Unit)):(ByteArray × (Int × Unit))→Option (ByteArray × Unit):=fun (x0,x1,()) =>
  L0 (x0,x1)
def zck:(ByteArray × Int × Unit)→Option (ByteArray × Unit):=zcj (zer K0)
abbrev zfC:Fun:=⟨290,(ch [.str,(.int .u8)]),(ch [.str]),0,zck⟩
theorem zm1:Sq zfC:=ml0 (d:=false) (S:=fun K=>zcj (zer K)) Tryz.func290 (by kernel_rfl) (fun K=>tr1 (T:=zcj) (zkW K K) fun (x0,x1,())=>by kernel_rfl) rfl
abbrev jZ:Type:=(List zp) × (Option ((zp × Unit)→Option (Bool × Unit))) × Int × Int
abbrev zm2:jZ→St:=fun (v0,v1,v7,v8)=>St.mk [(0,.dat (.sl zv) v0),(1,.dat (.fn (.pair zv .unit) (.pair .bool .unit)) v1),(7,.dat tI v7),(8,.dat tI v8)] []
def zcl (k0:jZ→Option (Int × Unit)):jZ→Option (Int × Unit):=fun (v0,v1,v7,v8) =>
  bif decide (v8 < v7) then inR v8 ((List.length v0):Int) (Option.bind v1 fun q0=>Option.bind (q0 (ix qV v0 v8,())) fun q1=>bif q1.1 then some (v8,()) else k0 (v0,v1,v7,wI (v8 + 1))) else some ((-1),())
abbrev zfD (K:Nat):jZ→Option (Int × Unit):=zl zcl K
theorem zm3 (K:Nat):∀ n,evV Es0 K Tryz.f258 0 (ch [tI]) [1,0,1,0] [] zm2 n = zl zcl n:=zt fun n0 (v0,v1,v7,v8)=>by kernel_rfl
def zdi (L0:jZ→Option (Int × Unit)):((List zp) × ((Option ((zp × Unit)→Option (Bool × Unit))) × Unit))→Option (Int × Unit):=fun (x0,x1,()) =>
  L0 (x0,x1,((List.length x0):Int),0)
def zaq:((List zp) × ((Option ((zp × Unit)→Option (Bool × Unit))) × Unit))→Option (Int × Unit):=zdi (zfD K0)
abbrev zha:Fun:=⟨258,(ch [(.sl zv),(.fn (ch [zv]) (ch [.bool]))]),(ch [tI]),0,zaq⟩
theorem zoN:Sq zha:=ml0 (d:=false) (S:=fun K=>zdi (zfD K)) Tryz.func258 (by kernel_rfl) (fun K=>tr1 (T:=zdi) (zm3 K K) fun (x0,x1,())=>by kernel_rfl) rfl
def zeW:(Int × Unit)→Option (Bool × Unit):=fun (x0,()) =>
  bif decide (x0 ≥ 0) then bif decide (x0 ≤ 127) then some (true,()) else some (false,()) else some (false,())
abbrev zvy:Fun:=⟨259,(ch [tI]),(ch [.bool]),0,zeW⟩
theorem zDP:Sq zvy:=ms0 (d:=false) (K:=0) Tryz.func259 (by kernel_rfl) (funext fun (x0,())=>by kernel_rfl)
def qL:(Int × Unit)→Option (Bool × Unit):=fun (x0,()) =>
  bif decide (x0 ≥ 0) then bif decide (x0 < 4) then some (true,()) else some (false,()) else some (false,())
abbrev zq2:Fun:=⟨41,(ch [tI]),(ch [.bool]),0,qL⟩
theorem zAu:Sq zq2:=ms0 (d:=false) (K:=0) Tryz.func41 (by kernel_rfl) (funext fun (x0,())=>by kernel_rfl)
def zes:(zkc × Unit)→Option (Bool × Unit):=fun (x0,()) =>
  bif eqI zdc x0 (x0.1,(ze zdc).2.1,-1,(ze zdc).2.2.2) then some (true,()) else some (false,())
abbrev zq3:Fun:=⟨261,(ch [zdc]),(ch [.bool]),0,zes⟩
theorem zAv:Sq zq3:=ms0 (d:=false) (K:=0) Tryz.func261 (by kernel_rfl) (funext fun (x0,())=>by kernel_rfl)
def zaF:(Int × Unit)→Option (Bool × Unit):=fun (x0,()) =>
  bif decide (x0 < 0) then some (true,()) else bif decide (x0 > 2) then some (true,()) else some (false,())
abbrev znH:Fun:=⟨190,(ch [tI]),(ch [.bool]),0,zaF⟩
theorem zw9:Sq znH:=ms0 (d:=false) (K:=0) Tryz.func190 (by kernel_rfl) (funext fun (x0,())=>by kernel_rfl)
def zcw:(Int × (Int × Unit))→Option (Int × (Int × Unit)):=fun (x0,x1,()) =>
  some (wU (wU (wU (Int.fdiv x0 (2 ^ min (Int.toNat 32) (IntKind.bits IntKind.u64)) * Int.fdiv x1 (2 ^ min (Int.toNat 32) (IntKind.bits IntKind.u64))) + Int.fdiv (wU (wU (Int.fdiv x0 (2 ^ min (Int.toNat 32) (IntKind.bits IntKind.u64)) * wU (↑(BitVec.toNat (BitVec.ofInt (IntKind.bits IntKind.u64) x1 &&& BitVec.ofInt (IntKind.bits IntKind.u64) 4294967295)):Int)) + Int.fdiv (wU (wU (↑(BitVec.toNat (BitVec.ofInt (IntKind.bits IntKind.u64) x0 &&& BitVec.ofInt (IntKind.bits IntKind.u64) 4294967295)):Int) * wU (↑(BitVec.toNat (BitVec.ofInt (IntKind.bits IntKind.u64) x1 &&& BitVec.ofInt (IntKind.bits IntKind.u64) 4294967295)):Int))) (2 ^ min (Int.toNat 32) (IntKind.bits IntKind.u64)))) (2 ^ min (Int.toNat 32) (IntKind.bits IntKind.u64))) + Int.fdiv (wU (wU (↑(BitVec.toNat (BitVec.ofInt (IntKind.bits IntKind.u64) (wU (wU (Int.fdiv x0 (2 ^ min (Int.toNat 32) (IntKind.bits IntKind.u64)) * wU (↑(BitVec.toNat (BitVec.ofInt (IntKind.bits IntKind.u64) x1 &&& BitVec.ofInt (IntKind.bits IntKind.u64) 4294967295)):Int)) + Int.fdiv (wU (wU (↑(BitVec.toNat (BitVec.ofInt (IntKind.bits IntKind.u64) x0 &&& BitVec.ofInt (IntKind.bits IntKind.u64) 4294967295)):Int) * wU (↑(BitVec.toNat (BitVec.ofInt (IntKind.bits IntKind.u64) x1 &&& BitVec.ofInt (IntKind.bits IntKind.u64) 4294967295)):Int))) (2 ^ min (Int.toNat 32) (IntKind.bits IntKind.u64)))) &&& BitVec.ofInt (IntKind.bits IntKind.u64) 4294967295)):Int) + wU (wU (↑(BitVec.toNat (BitVec.ofInt (IntKind.bits IntKind.u64) x0 &&& BitVec.ofInt (IntKind.bits IntKind.u64) 4294967295)):Int) * Int.fdiv x1 (2 ^ min (Int.toNat 32) (IntKind.bits IntKind.u64))))) (2 ^ min (Int.toNat 32) (IntKind.bits IntKind.u64))),wU (x0 * x1),())
abbrev zjS:Fun:=⟨297,(ch [tU,tU]),(ch [tU,tU]),0,zcw⟩
theorem zsp:Sq zjS:=ms0 (d:=false) (K:=0) Tryz.func297 (by kernel_rfl) (funext fun (x0,x1,())=>by kernel_rfl)
def zje:(Int × Unit)→Option (Bool × Unit):=fun (x0,()) =>
  bif decide (x0 ≥ 0) then bif decide (x0 ≤ 127) then some (true,()) else some (false,()) else some (false,())
abbrev zyb:Fun:=⟨264,(ch [tI]),(ch [.bool]),0,zje⟩
theorem zFn:Sq zyb:=ms0 (d:=false) (K:=0) Tryz.func264 (by kernel_rfl) (funext fun (x0,())=>by kernel_rfl)
def zdj:(Int × Unit)→Option (Bool × Unit):=fun (x0,()) =>
  bif decide (x0 ≥ 0) then bif decide (x0 ≤ 127) then some (true,()) else some (false,()) else some (false,())
abbrev zvz:Fun:=⟨265,(ch [tI]),(ch [.bool]),0,zdj⟩
theorem zDQ:Sq zvz:=ms0 (d:=false) (K:=0) Tryz.func265 (by kernel_rfl) (funext fun (x0,())=>by kernel_rfl)
def zdC:(zd × (qb × Unit))→Option (Bool × Unit):=fun (x0,x1,()) =>
  bif decide (x1.1 ≥ 0) then bif decide (x1.1 < ((List.length x0.2.1):Int)) then bif decide (x1.2.1 ≥ 0) then inR x1.1 ((List.length x0.2.1):Int) (bif decide (x1.2.1 < ((List.length (ix za x0.2.1 x1.1).1):Int)) then inR x1.1 ((List.length x0.2.1):Int) (inR x1.2.1 ((List.length (ix za x0.2.1 x1.1).1):Int) (bif (List.getD (ix za x0.2.1 x1.1).1 (Int.toNat x1.2.1) (ze qi)).1 then some (true,()) else some (false,()))) else some (false,())) else some (false,()) else some (false,()) else some (false,())
abbrev zpq:Fun:=⟨92,(ch [zu,zX]),(ch [.bool]),0,zdC⟩
theorem zyu:Sq zpq:=ms0 (d:=false) (K:=0) Tryz.func92 (by kernel_rfl) (funext fun (x0,x1,())=>by kernel_rfl)
def zbn:(qK × (Int × Unit))→Option (Bool × Unit):=fun (x0,x1,()) =>
  bif decide (x1 ≥ 0) then bif decide (x1 < ((List.length x0.1.1):Int)) then some (true,()) else some (false,()) else some (false,())
abbrev zpr:Fun:=⟨95,(ch [qe,tI]),(ch [.bool]),0,zbn⟩
theorem zyv:Sq zpr:=ms0 (d:=false) (K:=0) Tryz.func95 (by kernel_rfl) (funext fun (x0,x1,())=>by kernel_rfl)
def qM:(qK × (Int × Unit))→Option (Bool × Unit):=fun (x0,x1,()) =>
  bif decide (x1 ≥ 0) then bif decide (x1 < ((List.length x0.1.2.2.1):Int)) then some (true,()) else some (false,()) else some (false,())
abbrev zmc:Fun:=⟨96,(ch [qe,tI]),(ch [.bool]),0,qM⟩
theorem zvA:Sq zmc:=ms0 (d:=false) (K:=0) Tryz.func96 (by kernel_rfl) (funext fun (x0,x1,())=>by kernel_rfl)
def zbd:(zn × ((Option (Option ((zn × Unit)→Option (Bool × Unit)))) × Unit))→Option (Bool × Unit):=fun (x0,x1,()) =>
  Option.bind x1 fun q0=>Option.bind q0 fun q1=>Option.bind (q1 (x0,())) fun q2=>bif q2.1 then some (false,()) else some (true,())
abbrev zh5:Fun:=⟨196,(ch [zm,(.ptr (.fn (ch [zm]) (ch [.bool])))]),(ch [.bool]),0,zbd⟩
theorem zqd:Sq zh5:=ms0 (d:=false) (K:=0) Tryz.func196 (by kernel_rfl) (funext fun (x0,x1,())=>by kernel_rfl)
abbrev j3:Type:=(List zn) × (Option ((zn × Unit)→Option (Bool × Unit))) × Int × Int
abbrev zm4:j3→St:=fun (v0,v1,v7,v8)=>St.mk [(0,.dat (.sl zm) v0),(1,.dat (.fn (.pair zm .unit) (.pair .bool .unit)) v1),(7,.dat tI v7),(8,.dat tI v8)] []
def zcm (k0:j3→Option (Int × Unit)):j3→Option (Int × Unit):=fun (v0,v1,v7,v8) =>
  bif decide (v8 < v7) then inR v8 ((List.length v0):Int) (Option.bind v1 fun q0=>Option.bind (q0 (ix qp v0 v8,())) fun q1=>bif q1.1 then some (v8,()) else k0 (v0,v1,v7,wI (v8 + 1))) else some ((-1),())
abbrev zfE (K:Nat):j3→Option (Int × Unit):=zl zcm K
theorem zm5 (K:Nat):∀ n,evV Es0 K Tryz.f269 0 (ch [tI]) [1,0,1,0] [] zm4 n = zl zcm n:=zt fun n0 (v0,v1,v7,v8)=>by kernel_rfl
def zdk (L0:j3→Option (Int × Unit)):((List zn) × ((Option ((zn × Unit)→Option (Bool × Unit))) × Unit))→Option (Int × Unit):=fun (x0,x1,()) =>
  L0 (x0,x1,((List.length x0):Int),0)
def zar:((List zn) × ((Option ((zn × Unit)→Option (Bool × Unit))) × Unit))→Option (Int × Unit):=zdk (zfE K0)
abbrev zhb:Fun:=⟨269,(ch [(.sl zm),(.fn (ch [zm]) (ch [.bool]))]),(ch [tI]),0,zar⟩
theorem zoO:Sq zhb:=ml0 (d:=false) (S:=fun K=>zdk (zfE K)) Tryz.func269 (by kernel_rfl) (fun K=>tr1 (T:=zdk) (zm5 K K) fun (x0,x1,())=>by kernel_rfl) rfl
def zbe:(zF × ((Option (Option ((zF × Unit)→Option (Bool × Unit)))) × Unit))→Option (Bool × Unit):=fun (x0,x1,()) =>
  Option.bind x1 fun q0=>Option.bind q0 fun q1=>Option.bind (q1 (x0,())) fun q2=>bif q2.1 then some (false,()) else some (true,())
abbrev zh6:Fun:=⟨198,(ch [zr,(.ptr (.fn (ch [zr]) (ch [.bool])))]),(ch [.bool]),0,zbe⟩
theorem zqe:Sq zh6:=ms0 (d:=false) (K:=0) Tryz.func198 (by kernel_rfl) (funext fun (x0,x1,())=>by kernel_rfl)
abbrev j4:Type:=(List zF) × (Option ((zF × Unit)→Option (Bool × Unit))) × Int × Int
abbrev zm6:j4→St:=fun (v0,v1,v7,v8)=>St.mk [(0,.dat (.sl zr) v0),(1,.dat (.fn (.pair zr .unit) (.pair .bool .unit)) v1),(7,.dat tI v7),(8,.dat tI v8)] []
def zcn (k0:j4→Option (Int × Unit)):j4→Option (Int × Unit):=fun (v0,v1,v7,v8) =>
  bif decide (v8 < v7) then inR v8 ((List.length v0):Int) (Option.bind v1 fun q0=>Option.bind (q0 (ix zg1 v0 v8,())) fun q1=>bif q1.1 then some (v8,()) else k0 (v0,v1,v7,wI (v8 + 1))) else some ((-1),())
abbrev zfF (K:Nat):j4→Option (Int × Unit):=zl zcn K
theorem zm7 (K:Nat):∀ n,evV Es0 K Tryz.f270 0 (ch [tI]) [1,0,1,0] [] zm6 n = zl zcn n:=zt fun n0 (v0,v1,v7,v8)=>by kernel_rfl
def zdl (L0:j4→Option (Int × Unit)):((List zF) × ((Option ((zF × Unit)→Option (Bool × Unit))) × Unit))→Option (Int × Unit):=fun (x0,x1,()) =>
  L0 (x0,x1,((List.length x0):Int),0)
def zas:((List zF) × ((Option ((zF × Unit)→Option (Bool × Unit))) × Unit))→Option (Int × Unit):=zdl (zfF K0)
abbrev zhc:Fun:=⟨270,(ch [(.sl zr),(.fn (ch [zr]) (ch [.bool]))]),(ch [tI]),0,zas⟩
theorem zoP:Sq zhc:=ml0 (d:=false) (S:=fun K=>zdl (zfF K)) Tryz.func270 (by kernel_rfl) (fun K=>tr1 (T:=zdl) (zm7 K K) fun (x0,x1,())=>by kernel_rfl) rfl
def zcx:(Int × ((Option (Option ((Int × Unit)→Option (Bool × Unit)))) × Unit))→Option (Bool × Unit):=fun (x0,x1,()) =>
  Option.bind x1 fun q0=>Option.bind q0 fun q1=>Option.bind (q1 (x0,())) fun q2=>bif q2.1 then some (false,()) else some (true,())
abbrev zjT:Fun:=⟨199,(ch [tI,(.ptr (.fn (ch [tI]) (ch [.bool])))]),(ch [.bool]),0,zcx⟩
theorem zsq:Sq zjT:=ms0 (d:=false) (K:=0) Tryz.func199 (by kernel_rfl) (funext fun (x0,x1,())=>by kernel_rfl)
def zaC:(zz × (zz × Unit))→Option (Bool × Unit):=fun (x0,x1,()) =>
  bif decide (x0.1 ≤ x1.1) then bif wU (↑(BitVec.toNat (BitVec.ofInt (IntKind.bits IntKind.u64) x0.2.1 &&& ~~~BitVec.ofInt (IntKind.bits IntKind.u64) x1.2.1)):Int) == 0 then some (true,()) else some (false,()) else some (false,())
abbrev zsZ:Fun:=⟨9,(ch [zy,zy]),(ch [.bool]),0,zaC⟩
theorem zB6:Sq zsZ:=ms0 (d:=false) (K:=0) Tryz.func9 (by kernel_rfl) (funext fun (x0,x1,())=>by kernel_rfl)
def zea:(z8 × ((Option (Option ((qb × Unit)→Option (Bool × Unit)))) × Unit))→Option (Bool × Unit):=fun (x0,x1,()) =>
  bif x0.1 then Option.bind x1 fun q0=>Option.bind q0 fun q1=>Option.bind (q1 (x0.2.1,())) fun q2=>bif q2.1 then Option.bind x1 fun q3=>Option.bind q3 fun q4=>Option.bind (q4 (x0.2.2.1,())) fun q5=>bif q5.1 then some (true,()) else some (false,()) else some (false,()) else some (true,())
abbrev zmd:Fun:=⟨103,(ch [zW,(.ptr (.fn (ch [zX]) (ch [.bool])))]),(ch [.bool]),0,zea⟩
theorem zvB:Sq zmd:=ms0 (d:=false) (K:=0) Tryz.func103 (by kernel_rfl) (funext fun (x0,x1,())=>by kernel_rfl)
def zbD:(z8 × ((Option (Option ((z8 × Unit)→Option (Bool × Unit)))) × Unit))→Option (Bool × Unit):=fun (x0,x1,()) =>
  Option.bind x1 fun q0=>Option.bind q0 fun q1=>Option.bind (q1 (x0,())) fun q2=>bif q2.1 then some (false,()) else some (true,())
abbrev zjf:Fun:=⟨202,(ch [zW,(.ptr (.fn (ch [zW]) (ch [.bool])))]),(ch [.bool]),0,zbD⟩
theorem zq4:Sq zjf:=ms0 (d:=false) (K:=0) Tryz.func202 (by kernel_rfl) (funext fun (x0,x1,())=>by kernel_rfl)
def zbE:(qc × ((Option (Option ((qb × Unit)→Option (Bool × Unit)))) × Unit))→Option (Bool × Unit):=fun (x0,x1,()) =>
  bif x0.2.2.1 != 2 then some (true,()) else Option.bind x1 fun q0=>Option.bind q0 fun q1=>Option.bind (q1 (x0.2.2.2.2.1,())) fun q2=>bif q2.1 then some (true,()) else some (false,())
abbrev zme:Fun:=⟨105,(ch [zV,(.ptr (.fn (ch [zX]) (ch [.bool])))]),(ch [.bool]),0,zbE⟩
theorem zvC:Sq zme:=ms0 (d:=false) (K:=0) Tryz.func105 (by kernel_rfl) (funext fun (x0,x1,())=>by kernel_rfl)
def zbF:(qc × ((Option (Option ((qc × Unit)→Option (Bool × Unit)))) × Unit))→Option (Bool × Unit):=fun (x0,x1,()) =>
  Option.bind x1 fun q0=>Option.bind q0 fun q1=>Option.bind (q1 (x0,())) fun q2=>bif q2.1 then some (false,()) else some (true,())
abbrev zjg:Fun:=⟨203,(ch [zV,(.ptr (.fn (ch [zV]) (ch [.bool])))]),(ch [.bool]),0,zbF⟩
theorem zq5:Sq zjg:=ms0 (d:=false) (K:=0) Tryz.func203 (by kernel_rfl) (funext fun (x0,x1,())=>by kernel_rfl)
def zcy:(qb × ((Option (Option ((qb × Unit)→Option (Bool × Unit)))) × Unit))→Option (Bool × Unit):=fun (x0,x1,()) =>
  Option.bind x1 fun q0=>Option.bind q0 fun q1=>Option.bind (q1 (x0,())) fun q2=>bif q2.1 then some (false,()) else some (true,())
abbrev zjU:Fun:=⟨205,(ch [zX,(.ptr (.fn (ch [zX]) (ch [.bool])))]),(ch [.bool]),0,zcy⟩
theorem zsr:Sq zjU:=ms0 (d:=false) (K:=0) Tryz.func205 (by kernel_rfl) (funext fun (x0,x1,())=>by kernel_rfl)
abbrev vH:Type:=(List qb) × (Option ((qb × Unit)→Option (Bool × Unit))) × Int × Int
abbrev zoQ:vH→St:=fun (v0,v1,v7,v8)=>St.mk [(0,.dat (.sl zaP) v0),(1,.dat (.fn (.pair zaP .unit) (.pair .bool .unit)) v1),(7,.dat tI v7),(8,.dat tI v8)] []
def zdm (k0:vH→Option (Int × Unit)):vH→Option (Int × Unit):=fun (v0,v1,v7,v8) =>
  bif decide (v8 < v7) then inR v8 ((List.length v0):Int) (Option.bind v1 fun q0=>Option.bind (q0 (ix qR v0 v8,())) fun q1=>bif q1.1 then some (v8,()) else k0 (v0,v1,v7,wI (v8 + 1))) else some ((-1),())
abbrev zhd (K:Nat):vH→Option (Int × Unit):=zl zdm K
theorem zoR (K:Nat):∀ n,evV Es0 K Tryz.f271 0 (ch [tI]) [1,0,1,0] [] zoQ n = zl zdm n:=zt fun n0 (v0,v1,v7,v8)=>by kernel_rfl
def zet (L0:vH→Option (Int × Unit)):((List qb) × ((Option ((qb × Unit)→Option (Bool × Unit))) × Unit))→Option (Int × Unit):=fun (x0,x1,()) =>
  L0 (x0,x1,((List.length x0):Int),0)
def zbG:((List vv) × ((Option ((vv × Unit)→Option (Bool × Unit))) × Unit))→Option (Int × Unit):=zet (zhd K0)
abbrev zjh:Fun:=⟨271,(ch [(.sl zX),(.fn (ch [zX]) (ch [.bool]))]),(ch [tI]),0,zbG⟩
theorem zq6:Sq zjh:=ml0 (d:=false) (S:=fun K=>zet (zhd K)) Tryz.func271 (by kernel_rfl) (fun K=>tr1 (T:=zet) (zoR K K) fun (x0,x1,())=>by kernel_rfl) rfl
def zbH:(qr × ((Option (Option ((qr × Unit)→Option (Bool × Unit)))) × Unit))→Option (Bool × Unit):=fun (x0,x1,()) =>
  Option.bind x1 fun q0=>Option.bind q0 fun q1=>Option.bind (q1 (x0,())) fun q2=>bif q2.1 then some (false,()) else some (true,())
abbrev zji:Fun:=⟨206,(ch [z4,(.ptr (.fn (ch [z4]) (ch [.bool])))]),(ch [.bool]),0,zbH⟩
theorem zq7:Sq zji:=ms0 (d:=false) (K:=0) Tryz.func206 (by kernel_rfl) (funext fun (x0,x1,())=>by kernel_rfl)
def zbf:(zp × ((Option (Option ((zp × Unit)→Option (Bool × Unit)))) × Unit))→Option (Bool × Unit):=fun (x0,x1,()) =>
  Option.bind x1 fun q0=>Option.bind q0 fun q1=>Option.bind (q1 (x0,())) fun q2=>bif q2.1 then some (false,()) else some (true,())
abbrev zh7:Fun:=⟨207,(ch [zv,(.ptr (.fn (ch [zv]) (ch [.bool])))]),(ch [.bool]),0,zbf⟩
theorem zqf:Sq zh7:=ms0 (d:=false) (K:=0) Tryz.func207 (by kernel_rfl) (funext fun (x0,x1,())=>by kernel_rfl)
def zdn:((List zp) × Unit)→Option ((List zp) × Unit):=fun (x0,()) =>
  bif List.isEmpty x0 then zdY (some ([],())) (bif decide (List.length (List.replicate 0 (ze zv)) + List.length x0 ≤ lim) then some (List.replicate 0 (ze zv) ++ x0,()) else none) else bif decide (List.length (List.replicate 0 (ze zv)) + List.length x0 ≤ lim) then some (List.replicate 0 (ze zv) ++ x0,()) else none
abbrev zkX:Fun:=⟨146,(ch [(.sl zv)]),(ch [(.sl zv)]),1,zdn⟩
theorem ztN:Sq zkX:=ms0 (d:=false) (K:=0) Tryz.func146 (by kernel_rfl) (funext fun (x0,())=>by kernel_rfl)
def vI:(zp × Unit)→Option (Bool × Unit):=fun (x0,()) =>
  bif x0.1 then some (true,()) else some (false,())
abbrev zmf:Fun:=⟨114,(ch [zv]),(ch [.bool]),0,vI⟩
theorem zvD:Sq zmf:=ms0 (d:=false) (K:=0) Tryz.func114 (by kernel_rfl) (funext fun (x0,())=>by kernel_rfl)
def zdo:((Option zbB) × Unit)→Option (Bool × Unit):=fun (x0,()) =>
  bif Option.isSome x0 then Option.bind x0 fun q0=>bif Option.isSome q0.2.1 then some (true,()) else some (false,()) else some (false,())
abbrev zkY:Fun:=⟨208,(ch [(.ptr vF)]),(ch [.bool]),0,zdo⟩
theorem ztO:Sq zkY:=ms0 (d:=false) (K:=0) Tryz.func208 (by kernel_rfl) (funext fun (x0,())=>by kernel_rfl)
def zdp:((List zn) × Unit)→Option ((List zn) × Unit):=fun (x0,()) =>
  bif List.isEmpty x0 then zdY (some ([],())) (bif decide (List.length (List.replicate 0 (ze zm)) + List.length x0 ≤ lim) then some (List.replicate 0 (ze zm) ++ x0,()) else none) else bif decide (List.length (List.replicate 0 (ze zm)) + List.length x0 ≤ lim) then some (List.replicate 0 (ze zm) ++ x0,()) else none
abbrev zkZ:Fun:=⟨137,(ch [(.sl zm)]),(ch [(.sl zm)]),1,zdp⟩
theorem ztP:Sq zkZ:=ms0 (d:=false) (K:=0) Tryz.func137 (by kernel_rfl) (funext fun (x0,())=>by kernel_rfl)
def zhe:(zn × Unit)→Option (Bool × Unit):=fun (x0,()) =>
  bif x0.1 then some (true,()) else some (false,())
abbrev zq8:Fun:=⟨273,(ch [zm]),(ch [.bool]),0,zhe⟩
theorem zAw:Sq zq8:=ms0 (d:=false) (K:=0) Tryz.func273 (by kernel_rfl) (funext fun (x0,())=>by kernel_rfl)
def zdq:((Option zdd) × Unit)→Option (Bool × Unit):=fun (x0,()) =>
  bif Option.isSome x0 then Option.bind x0 fun q0=>bif Option.isSome q0.2.1 then some (true,()) else some (false,()) else some (false,())
abbrev zk0:Fun:=⟨274,(ch [(.ptr yA)]),(ch [.bool]),0,zdq⟩
theorem ztQ:Sq zk0:=ms0 (d:=false) (K:=0) Tryz.func274 (by kernel_rfl) (funext fun (x0,())=>by kernel_rfl)
def zf0:(zn × Unit)→Option (Int × Unit):=fun (x0,()) =>
  bif x0.2.2.2.1 == 2 then some (x0.2.2.2.2.1,()) else some (x0.2.2.2.2.2.1,())
abbrev zps:Fun:=⟨119,(ch [zm]),(ch [tI]),0,zf0⟩
theorem zyw:Sq zps:=ms0 (d:=false) (K:=0) Tryz.func119 (by kernel_rfl) (funext fun (x0,())=>by kernel_rfl)
end
end Go.Proofs.YtokcjmkikhgkeaaGreatDoor
end
section
namespace Go.Proofs.YtokcjmkikhgkeaaGreatDoor
open Go.Ev
noncomputable section
def zdT:(Int × (Int × Unit))→Option (Int × (Int × Unit)):=fun (x0,x1,()) =>
  bif decide (0 ≤ x0) then bif decide (0 ≤ x1) then bif decide (x1 < 18446744073709551616) then bif extB true x0 x1 != 0 then some (0,7,()) else bif decide (extA true x0 x1 > 4611686018427387904) then some (0,7,()) else some (extA true x0 x1,0,()) else none else none else none
abbrev zs0:Fun:=⟨121,(ch [tU,tU]),(ch [tU,tI]),0,zdT⟩
theorem zB7:Sq zs0:=ms0 (d:=false) (K:=0) Tryz.func121 (by kernel_rfl) (funext fun (x0,x1,())=>by kernel_rfl)
def zf1:(zp × Unit)→Option (Bool × Unit):=fun (x0,()) =>
  bif x0.1 then some (true,()) else some (false,())
abbrev zpt:Fun:=⟨214,(ch [zv]),(ch [.bool]),0,zf1⟩
theorem zyx:Sq zpt:=ms0 (d:=false) (K:=0) Tryz.func214 (by kernel_rfl) (funext fun (x0,())=>by kernel_rfl)
def zin:(zg × Unit)→Option ((List Int) × Unit):=fun (x0,()) =>
  some (x0.2.2.2.2.2.2.2.1,())
abbrev znI:Fun:=⟨210,(ch [zj]),(ch [(.arr 4 tU)]),0,zin⟩
theorem zxa:Sq znI:=ms0 (d:=false) (K:=0) Tryz.func210 (by kernel_rfl) (funext fun (x0,())=>by kernel_rfl)
def zio:(zg × Unit)→Option ((List Int) × Unit):=fun (x0,()) =>
  some (x0.2.2.2.2.2.2.2.2.1,())
abbrev znJ:Fun:=⟨211,(ch [zj]),(ch [(.arr 4 tU)]),0,zio⟩
theorem zxb:Sq znJ:=ms0 (d:=false) (K:=0) Tryz.func211 (by kernel_rfl) (funext fun (x0,())=>by kernel_rfl)
def zaR:(Int × (Int × Unit))→Option (Int × (Int × Unit)):=fun (x0,x1,()) =>
  bif decide (0 ≤ x0) then bif decide (0 ≤ x1) then bif decide (x1 < 18446744073709551616) then bif extB false x0 x1 != 0 then some (0,6,()) else some (extA false x0 x1,0,()) else none else none else none
abbrev zq9:Fun:=⟨150,(ch [tU,tU]),(ch [tU,tI]),0,zaR⟩
theorem zAx:Sq zq9:=ms0 (d:=false) (K:=0) Tryz.func150 (by kernel_rfl) (funext fun (x0,x1,())=>by kernel_rfl)
def zgh:((List zF) × Unit)→Option ((List zF) × Unit):=fun (x0,()) =>
  bif List.isEmpty x0 then zdY (some ([],())) (bif decide (List.length (List.replicate 0 (ze zr)) + List.length x0 ≤ lim) then some (List.replicate 0 (ze zr) ++ x0,()) else none) else bif decide (List.length (List.replicate 0 (ze zr)) + List.length x0 ≤ lim) then some (List.replicate 0 (ze zr) ++ x0,()) else none
abbrev zk1:Fun:=⟨138,(ch [(.sl zr)]),(ch [(.sl zr)]),1,zgh⟩
theorem ztR:Sq zk1:=ms0 (d:=false) (K:=0) Tryz.func138 (by kernel_rfl) (funext fun (x0,())=>by kernel_rfl)
def zeX:((List Int) × Unit)→Option ((List Int) × Unit):=fun (x0,()) =>
  bif List.isEmpty x0 then zdY (some ([],())) (bif decide (List.length (List.replicate 0 (0:Int)) + List.length x0 ≤ lim) then some (List.replicate 0 (0:Int) ++ x0,()) else none) else bif decide (List.length (List.replicate 0 (0:Int)) + List.length x0 ≤ lim) then some (List.replicate 0 (0:Int) ++ x0,()) else none
abbrev znK:Fun:=⟨139,(ch [(.sl tI)]),(ch [(.sl tI)]),1,zeX⟩
theorem zxc:Sq znK:=ms0 (d:=false) (K:=0) Tryz.func139 (by kernel_rfl) (funext fun (x0,())=>by kernel_rfl)
def zhf:((List (List Int)) × Unit)→Option ((List (List Int)) × Unit):=fun (x0,()) =>
  bif List.isEmpty x0 then zdY (some ([],())) (bif decide (List.length (List.replicate 0 ([]:List Int)) + List.length x0 ≤ lim) then some (List.replicate 0 ([]:List Int) ++ x0,()) else none) else bif decide (List.length (List.replicate 0 ([]:List Int)) + List.length x0 ≤ lim) then some (List.replicate 0 ([]:List Int) ++ x0,()) else none
abbrev zmg:Fun:=⟨140,(ch [(.sl (.sl tI))]),(ch [(.sl (.sl tI))]),1,zhf⟩
theorem zvE:Sq zmg:=ms0 (d:=false) (K:=0) Tryz.func140 (by kernel_rfl) (funext fun (x0,())=>by kernel_rfl)
def zgi:((List zg) × Unit)→Option ((List zg) × Unit):=fun (x0,()) =>
  bif List.isEmpty x0 then zdY (some ([],())) (bif decide (List.length (List.replicate 0 (ze zj)) + List.length x0 ≤ lim) then some (List.replicate 0 (ze zj) ++ x0,()) else none) else bif decide (List.length (List.replicate 0 (ze zj)) + List.length x0 ≤ lim) then some (List.replicate 0 (ze zj) ++ x0,()) else none
abbrev zk2:Fun:=⟨141,(ch [(.sl zj)]),(ch [(.sl zj)]),1,zgi⟩
theorem ztS:Sq zk2:=ms0 (d:=false) (K:=0) Tryz.func141 (by kernel_rfl) (funext fun (x0,())=>by kernel_rfl)
def zhg:((List ja) × Unit)→Option ((List ja) × Unit):=fun (x0,()) =>
  bif List.isEmpty x0 then zdY (some ([],())) (bif decide (List.length (List.replicate 0 (ze qi)) + List.length x0 ≤ lim) then some (List.replicate 0 (ze qi) ++ x0,()) else none) else bif decide (List.length (List.replicate 0 (ze qi)) + List.length x0 ≤ lim) then some (List.replicate 0 (ze qi) ++ x0,()) else none
abbrev zmh:Fun:=⟨142,(ch [(.sl qi)]),(ch [(.sl qi)]),1,zhg⟩
theorem zvF:Sq zmh:=ms0 (d:=false) (K:=0) Tryz.func142 (by kernel_rfl) (funext fun (x0,())=>by kernel_rfl)
def zhh:((List z8) × Unit)→Option ((List z8) × Unit):=fun (x0,()) =>
  bif List.isEmpty x0 then zdY (some ([],())) (bif decide (List.length (List.replicate 0 (ze zW)) + List.length x0 ≤ lim) then some (List.replicate 0 (ze zW) ++ x0,()) else none) else bif decide (List.length (List.replicate 0 (ze zW)) + List.length x0 ≤ lim) then some (List.replicate 0 (ze zW) ++ x0,()) else none
abbrev zmi:Fun:=⟨143,(ch [(.sl zW)]),(ch [(.sl zW)]),1,zhh⟩
theorem zvG:Sq zmi:=ms0 (d:=false) (K:=0) Tryz.func143 (by kernel_rfl) (funext fun (x0,())=>by kernel_rfl)
def zhi:((List qc) × Unit)→Option ((List qc) × Unit):=fun (x0,()) =>
  bif List.isEmpty x0 then zdY (some ([],())) (bif decide (List.length (List.replicate 0 (ze zV)) + List.length x0 ≤ lim) then some (List.replicate 0 (ze zV) ++ x0,()) else none) else bif decide (List.length (List.replicate 0 (ze zV)) + List.length x0 ≤ lim) then some (List.replicate 0 (ze zV) ++ x0,()) else none
abbrev zmj:Fun:=⟨144,(ch [(.sl zV)]),(ch [(.sl zV)]),1,zhi⟩
theorem zvH:Sq zmj:=ms0 (d:=false) (K:=0) Tryz.func144 (by kernel_rfl) (funext fun (x0,())=>by kernel_rfl)
def zhj:((List qr) × Unit)→Option ((List qr) × Unit):=fun (x0,()) =>
  bif List.isEmpty x0 then zdY (some ([],())) (bif decide (List.length (List.replicate 0 (ze z4)) + List.length x0 ≤ lim) then some (List.replicate 0 (ze z4) ++ x0,()) else none) else bif decide (List.length (List.replicate 0 (ze z4)) + List.length x0 ≤ lim) then some (List.replicate 0 (ze z4) ++ x0,()) else none
abbrev zmk:Fun:=⟨145,(ch [(.sl z4)]),(ch [(.sl z4)]),1,zhj⟩
theorem zvI:Sq zmk:=ms0 (d:=false) (K:=0) Tryz.func145 (by kernel_rfl) (funext fun (x0,())=>by kernel_rfl)
def zjz:((List (List Int)) × Unit)→Option ((List (List Int)) × Unit):=fun (x0,()) =>
  bif List.isEmpty x0 then zdY (some ([],())) (bif decide (List.length (List.replicate 0 (ze (.arr 4 tU))) + List.length x0 ≤ lim) then some (List.replicate 0 (ze (.arr 4 tU)) ++ x0,()) else none) else bif decide (List.length (List.replicate 0 (ze (.arr 4 tU))) + List.length x0 ≤ lim) then some (List.replicate 0 (ze (.arr 4 tU)) ++ x0,()) else none
abbrev zpu:Fun:=⟨147,(ch [(.sl (.arr 4 tU))]),(ch [(.sl (.arr 4 tU))]),1,zjz⟩
theorem zyy:Sq zpu:=ms0 (d:=false) (K:=0) Tryz.func147 (by kernel_rfl) (funext fun (x0,())=>by kernel_rfl)
def ziq:((List qb) × Unit)→Option ((List qb) × Unit):=fun (x0,()) =>
  bif List.isEmpty x0 then zdY (some ([],())) (bif decide (List.length (List.replicate 0 (ze zX)) + List.length x0 ≤ lim) then some (List.replicate 0 (ze zX) ++ x0,()) else none) else bif decide (List.length (List.replicate 0 (ze zX)) + List.length x0 ≤ lim) then some (List.replicate 0 (ze zX) ++ x0,()) else none
abbrev znL:Fun:=⟨148,(ch [(.sl zX)]),(ch [(.sl zX)]),1,ziq⟩
theorem zxd:Sq znL:=ms0 (d:=false) (K:=0) Tryz.func148 (by kernel_rfl) (funext fun (x0,())=>by kernel_rfl)
def zpv:Unit→Option (zf × Unit):=fun () =>
  some (([(0,0,()),(0,1,()),(1,1,())],[0,1,2],[(ByteArray.mk #[97,110,110],ByteArray.mk #[97],1,true,()),(ByteArray.mk #[98,111,98],ByteArray.mk #[98],0,false,())],[(0,0,())],[(2,2,2,2,2,1000,()),(2,2,2,2,2,1000,()),(2,2,2,2,2,1000,())],4,6,2,3,()),())
abbrev zpw:Fun:=⟨23,.unit,(ch [zw]),0,zpv⟩
theorem zyz:Sq zpw:=ms0 (d:=false) (K:=0) Tryz.func23 (by kernel_rfl) (funext fun ()=>by kernel_rfl)
def zf2:(zf × (zad × Unit))→Option (zg × Unit):=fun (x0,x1,()) =>
  bif decide (0 ≤ x1.1) then bif decide (x1.1 ≤ x1.1) then bif decide (x1.1 ≤ (↑lim:Int)) then bif decide (0 ≤ x1.2.1) then bif decide (x1.2.1 ≤ x1.2.1) then bif decide (x1.2.1 ≤ (↑lim:Int)) then bif decide (0 ≤ x1.2.2.1) then bif decide (x1.2.2.1 ≤ x1.2.2.1) then bif decide (x1.2.2.1 ≤ (↑lim:Int)) then bif decide (0 ≤ x1.2.2.2.1) then bif decide (x1.2.2.2.1 ≤ x1.2.2.2.1) then bif decide (x1.2.2.2.1 ≤ (↑lim:Int)) then bif decide (0 ≤ x1.2.2.2.2.1) then bif decide (x1.2.2.2.2.1 ≤ x1.2.2.2.2.1) then bif decide (x1.2.2.2.2.1 ≤ (↑lim:Int)) then bif decide (((List.length x0.2.2.1):Int) ≤ ((List.length x0.2.2.1):Int)) then bif decide (((List.length x0.2.2.1):Int) ≤ (↑lim:Int)) then bif decide (((List.length x0.2.2.1):Int) ≤ ((List.length x0.2.2.1):Int)) then bif decide (((List.length x0.2.2.1):Int) ≤ (↑lim:Int)) then some ((List.replicate (Int.toNat x1.1) (ze qi),List.replicate (Int.toNat x1.2.1) (ze zW),List.replicate (Int.toNat x1.2.2.1) (ze zV),List.replicate (Int.toNat x1.2.2.2.1) (ze z4),List.replicate (Int.toNat x1.2.2.2.2.1) (ze zv),List.replicate (Int.toNat ((List.length x0.2.2.1):Int)) (ze (.arr 4 tU)),List.replicate (Int.toNat ((List.length x0.2.2.1):Int)) (ze zX),[0,0,0,0],[0,0,0,0],()),()) else none else none else none else none else none else none else none else none else none else none else none else none else none else none else none else none else none else none else none
abbrev zpx:Fun:=⟨57,(ch [zw,zcH]),(ch [zj]),3,zf2⟩
theorem zyA:Sq zpx:=ms0 (d:=true) (K:=0) Tryz.func57 (by kernel_rfl) (funext fun (x0,x1,())=>by kernel_rfl)
def ziP:(zf × (zd × Unit))→Option (Bool × Unit):=fun (x0,x1,()) =>
  bif ((List.length x1.2.1):Int) == ((List.length x0.1):Int) then bif ((List.length x1.2.2.1):Int) == ((List.length x0.2.2.2.1):Int) then bif ((List.length x1.2.2.2.2.2.1):Int) == ((List.length x0.2.1):Int) then some (true,()) else some (false,()) else some (false,()) else some (false,())
abbrev zs1:Fun:=⟨122,(ch [zw,zu]),(ch [.bool]),0,ziP⟩
theorem zB8:Sq zs1:=ms0 (d:=false) (K:=0) Tryz.func122 (by kernel_rfl) (funext fun (x0,x1,())=>by kernel_rfl)
def zf3:(Int × ((Option (Option ((Int × Unit)→Option (Bool × Unit)))) × ((Option zf) × Unit)))→Option (Bool × Unit):=fun (x0,x1,x2,()) =>
  Option.bind x1 fun q0=>Option.bind x2 fun q1=>inR x0 ((List.length q1.2.1):Int) (Option.bind q0 fun q2=>Option.bind (q2 (ix (0:Int) q1.2.1 x0,())) fun q3=>bif q3.1 then some (true,()) else some (false,()))
abbrev zpy:Fun:=⟨126,(ch [tI,(.ptr (.fn (ch [tI]) (ch [.bool]))),(.ptr zw)]),(ch [.bool]),0,zf3⟩
theorem zyB:Sq zpy:=ms0 (d:=false) (K:=0) Tryz.func126 (by kernel_rfl) (funext fun (x0,x1,x2,())=>by kernel_rfl)
abbrev vl:Type:=(List zg) × (List zg) × (Option ((Int × Unit)→Option (Bool × Unit))) × Int × Int × List zg × Nat
abbrev znM:vl→St:=fun (v0,v1,v2,v10,v11,o0,c0)=>St.mk [(0,.dat (.sl zj) v0),(1,.dat (.sl zj) v1),(2,.dat (.fn (.pair tI .unit) (.pair .bool .unit)) v2),(7,.ow 0),(10,.dat tI v10),(11,.dat tI v11)] [.drow zj o0 c0]
def vm (k0:vl→Option ((List zg) × Unit)):vl→Option ((List zg) × Unit):=fun (v0,v1,v2,v10,v11,o0,c0) =>
  bif decide (v11 < v10) then Option.bind v2 fun q0=>Option.bind (q0 (v11,())) fun q1=>bif q1.1 then inR v11 ((List.length v0):Int) (bif decide (List.length o0 + List.length (zi (List.replicate 1 (ze zj)) 0 (ix za v0 v11)) ≤ lim) then k0 (v0,v1,v2,v10,wI (v11 + 1),o0 ++ zi (List.replicate 1 (ze zj)) 0 (ix za v0 v11),c0) else none) else inR v11 ((List.length v1):Int) (bif decide (List.length o0 + List.length (zi (List.replicate 1 (ze zj)) 0 (ix za v1 v11)) ≤ lim) then k0 (v0,v1,v2,v10,wI (v11 + 1),o0 ++ zi (List.replicate 1 (ze zj)) 0 (ix za v1 v11),c0) else none) else some (o0,())
abbrev zgJ (K:Nat):vl→Option ((List zg) × Unit):=zl vm K
theorem znN (K:Nat):∀ n,evV Es0 K Tryz.f127 0 (ch [(.sl zj)]) [1,1,0,1,0] [] znM n = zl vm n:=zt fun n0 (v0,v1,v2,v10,v11,o0,c0)=>by kernel_rfl
def zd4 (L0:vl→Option ((List zg) × Unit)):((List zg) × ((List zg) × ((Option ((Int × Unit)→Option (Bool × Unit))) × Unit)))→Option ((List zg) × Unit):=fun (x0,x1,x2,()) =>
  L0 (x0,x1,x2,((List.length x0):Int),0,[],0)
def zd5:((List zg) × ((List zg) × ((Option ((Int × Unit)→Option (Bool × Unit))) × Unit)))→Option ((List zg) × Unit):=zd4 (zgJ K0)
abbrev zh8:Fun:=⟨127,(ch [(.sl zj),(.sl zj),(.fn (ch [tI]) (ch [.bool]))]),(ch [(.sl zj)]),0,zd5⟩
theorem zqg:Sq zh8:=ml0 (d:=false) (S:=fun K=>zd4 (zgJ K)) Tryz.func127 (by kernel_rfl) (fun K=>tr1 (T:=zd4) (znN K K) fun (x0,x1,x2,())=>by kernel_rfl) rfl
abbrev vJ:Type:=(List (List Int)) × (List (List Int)) × (Option ((Int × Unit)→Option (Bool × Unit))) × Int × Int × List (List Int) × Nat
abbrev zoS:vJ→St:=fun (v0,v1,v2,v10,v11,o0,c0)=>St.mk [(0,.dat (.sl (.sl tI)) v0),(1,.dat (.sl (.sl tI)) v1),(2,.dat (.fn (.pair tI .unit) (.pair .bool .unit)) v2),(7,.ow 0),(10,.dat tI v10),(11,.dat tI v11)] [.drow (.sl tI) o0 c0]
def vK (k0:vJ→Option ((List (List Int)) × Unit)):vJ→Option ((List (List Int)) × Unit):=fun (v0,v1,v2,v10,v11,o0,c0) =>
  bif decide (v11 < v10) then Option.bind v2 fun q0=>Option.bind (q0 (v11,())) fun q1=>bif q1.1 then inR v11 ((List.length v0):Int) (bif decide (List.length o0 + List.length (zi (List.replicate 1 ([]:List Int)) 0 (List.getD v0 (Int.toNat v11) ([]:List Int))) ≤ lim) then k0 (v0,v1,v2,v10,wI (v11 + 1),o0 ++ zi (List.replicate 1 ([]:List Int)) 0 (List.getD v0 (Int.toNat v11) ([]:List Int)),c0) else none) else inR v11 ((List.length v1):Int) (bif decide (List.length o0 + List.length (zi (List.replicate 1 ([]:List Int)) 0 (List.getD v1 (Int.toNat v11) ([]:List Int))) ≤ lim) then k0 (v0,v1,v2,v10,wI (v11 + 1),o0 ++ zi (List.replicate 1 ([]:List Int)) 0 (List.getD v1 (Int.toNat v11) ([]:List Int)),c0) else none) else some (o0,())
abbrev zhk (K:Nat):vJ→Option ((List (List Int)) × Unit):=zl vK K
theorem zoT (K:Nat):∀ n,evV Es0 K Tryz.f128 0 (ch [(.sl (.sl tI))]) [1,1,0,1,0] [] zoS n = zl vK n:=zt fun n0 (v0,v1,v2,v10,v11,o0,c0)=>by kernel_rfl
def zeu (L0:vJ→Option ((List (List Int)) × Unit)):((List (List Int)) × ((List (List Int)) × ((Option ((Int × Unit)→Option (Bool × Unit))) × Unit)))→Option ((List (List Int)) × Unit):=fun (x0,x1,x2,()) =>
  L0 (x0,x1,x2,((List.length x0):Int),0,[],0)
def zev:((List (List Int)) × ((List (List Int)) × ((Option ((Int × Unit)→Option (Bool × Unit))) × Unit)))→Option ((List (List Int)) × Unit):=zeu (zhk K0)
abbrev zjj:Fun:=⟨128,(ch [(.sl (.sl tI)),(.sl (.sl tI)),(.fn (ch [tI]) (ch [.bool]))]),(ch [(.sl (.sl tI))]),0,zev⟩
theorem zra:Sq zjj:=ml0 (d:=false) (S:=fun K=>zeu (zhk K)) Tryz.func128 (by kernel_rfl) (fun K=>tr1 (T:=zeu) (zoT K K) fun (x0,x1,x2,())=>by kernel_rfl) rfl
abbrev yh:Type:=(List Int) × (List Int) × (Option ((Int × Unit)→Option (Bool × Unit))) × Int × Int × List Int
abbrev zqh:yh→St:=fun (v0,v1,v2,v10,v11,o0)=>St.mk [(0,.dat (.sl tI) v0),(1,.dat (.sl tI) v1),(2,.dat (.fn (.pair tI .unit) (.pair .bool .unit)) v2),(7,.ow 0),(10,.dat tI v10),(11,.dat tI v11)] [.row tI o0 false]
def yi (k0:yh→Option ((List Int) × Unit)):yh→Option ((List Int) × Unit):=fun (v0,v1,v2,v10,v11,o0) =>
  bif decide (v11 < v10) then Option.bind v2 fun q0=>Option.bind (q0 (v11,())) fun q1=>bif q1.1 then inR v11 ((List.length v0):Int) (bif decide (List.length o0 + List.length (zi (List.replicate 1 (0:Int)) 0 (ix (0:Int) v0 v11)) ≤ lim) then k0 (v0,v1,v2,v10,wI (v11 + 1),o0 ++ zi (List.replicate 1 (0:Int)) 0 (ix (0:Int) v0 v11)) else none) else inR v11 ((List.length v1):Int) (bif decide (List.length o0 + List.length (zi (List.replicate 1 (0:Int)) 0 (ix (0:Int) v1 v11)) ≤ lim) then k0 (v0,v1,v2,v10,wI (v11 + 1),o0 ++ zi (List.replicate 1 (0:Int)) 0 (ix (0:Int) v1 v11)) else none) else some (o0,())
abbrev zh9 (K:Nat):yh→Option ((List Int) × Unit):=zl yi K
theorem zqi (K:Nat):∀ n,evV Es0 K Tryz.f129 0 (ch [(.sl tI)]) [1,1,0,1,0] [] zqh n = zl yi n:=zt fun n0 (v0,v1,v2,v10,v11,o0)=>by kernel_rfl
def zfk (L0:yh→Option ((List Int) × Unit)):((List Int) × ((List Int) × ((Option ((Int × Unit)→Option (Bool × Unit))) × Unit)))→Option ((List Int) × Unit):=fun (x0,x1,x2,()) =>
  L0 (x0,x1,x2,((List.length x0):Int),0,[])
def zfl:((List Int) × ((List Int) × ((Option ((Int × Unit)→Option (Bool × Unit))) × Unit)))→Option ((List Int) × Unit):=zfk (zh9 K0)
abbrev zjV:Fun:=⟨129,(ch [(.sl tI),(.sl tI),(.fn (ch [tI]) (ch [.bool]))]),(ch [(.sl tI)]),0,zfl⟩
theorem zss:Sq zjV:=ml0 (d:=false) (S:=fun K=>zfk (zh9 K)) Tryz.func129 (by kernel_rfl) (fun K=>tr1 (T:=zfk) (zqi K K) fun (x0,x1,x2,())=>by kernel_rfl) rfl
abbrev j5:Type:=(List zg) × (Option ((zg × (zg × Unit))→Option (Bool × Unit))) × (List zg) × Int × Int
abbrev zm8:j5→St:=fun (v1,v2,v15,v16,v17)=>St.mk [(1,.dat (.sl zj) v1),(2,.dat (.fn (.pair zj (.pair zj .unit)) (.pair .bool .unit)) v2),(15,.dat (.sl zj) v15),(16,.dat tI v16),(17,.dat tI v17)] []
def j6 (k0:j5→Option (Bool × Unit)):j5→Option (Bool × Unit):=fun (v1,v2,v15,v16,v17) =>
  bif decide (v17 < v16) then inR v17 ((List.length v15):Int) (inR v17 ((List.length v1):Int) (Option.bind v2 fun q0=>Option.bind (q0 (ix za v15 v17,ix za v1 v17,())) fun q1=>bif q1.1 then k0 (v1,v2,v15,v16,wI (v17 + 1)) else some (false,()))) else some (true,())
abbrev zfG (K:Nat):j5→Option (Bool × Unit):=zl j6 K
theorem zm9 (K:Nat):∀ n,evV Es0 K Tryz.f130 0 (ch [.bool]) [1,1,0,1,0] [] zm8 n = zl j6 n:=zt fun n0 (v1,v2,v15,v16,v17)=>by kernel_rfl
def zdr (L0:j5→Option (Bool × Unit)):((List zg) × ((List zg) × ((Option ((zg × (zg × Unit))→Option (Bool × Unit))) × Unit)))→Option (Bool × Unit):=fun (x0,x1,x2,()) =>
  bif ((List.length x0):Int) != ((List.length x1):Int) then some (false,()) else L0 (x1,x2,x0,((List.length x0):Int),0)
def zds:((List zg) × ((List zg) × ((Option ((zg × zg × Unit)→Option (Bool × Unit))) × Unit)))→Option (Bool × Unit):=zdr (zfG K0)
abbrev zhl:Fun:=⟨130,(ch [(.sl zj),(.sl zj),(.fn (ch [zj,zj]) (ch [.bool]))]),(ch [.bool]),0,zds⟩
theorem zoU:Sq zhl:=ml0 (d:=false) (S:=fun K=>zdr (zfG K)) Tryz.func130 (by kernel_rfl) (fun K=>tr1 (T:=zdr) (zm9 K K) fun (x0,x1,x2,())=>by kernel_rfl) rfl
abbrev zae:Type:=(List ja) × (List ja) × Int × Int
abbrev zst:zae→St:=fun (v0,v1,v12,v13)=>St.mk [(0,.dat (.sl qi) v0),(1,.dat (.sl qi) v1),(12,.dat tI v12),(13,.dat tI v13)] []
def zfm (k0:zae→Option (Bool × Unit)):zae→Option (Bool × Unit):=fun (v0,v1,v12,v13) =>
  bif decide (v13 < v12) then inR v13 ((List.length v0):Int) (inR v13 ((List.length v1):Int) (bif !eqI qi (ix zr6 v0 v13) (ix zr6 v1 v13) then some (false,()) else k0 (v0,v1,v12,wI (v13 + 1)))) else some (true,())
abbrev zjW (K:Nat):zae→Option (Bool × Unit):=zl zfm K
theorem zsu (K:Nat):∀ n,evV Es0 K Tryz.f216 0 (ch [.bool]) [1,1,0,1,0] [] zst n = zl zfm n:=zt fun n0 (v0,v1,v12,v13)=>by kernel_rfl
def zhm (L0:zae→Option (Bool × Unit)):((List ja) × ((List ja) × Unit))→Option (Bool × Unit):=fun (x0,x1,()) =>
  bif ((List.length x0):Int) != ((List.length x1):Int) then some (false,()) else L0 (x0,x1,((List.length x0):Int),0)
def zhn:((List ja) × (List ja) × Unit)→Option (Bool × Unit):=zhm (zjW K0)
abbrev zml:Fun:=⟨216,(ch [(.sl qi),(.sl qi)]),(ch [.bool]),0,zhn⟩
theorem zvJ:Sq zml:=ml0 (d:=false) (S:=fun K=>zhm (zjW K)) Tryz.func216 (by kernel_rfl) (fun K=>tr1 (T:=zhm) (zsu K K) fun (x0,x1,())=>by kernel_rfl) rfl
abbrev zaf:Type:=(List z8) × (List z8) × Int × Int
abbrev zsv:zaf→St:=fun (v0,v1,v12,v13)=>St.mk [(0,.dat (.sl zW) v0),(1,.dat (.sl zW) v1),(12,.dat tI v12),(13,.dat tI v13)] []
def zfn (k0:zaf→Option (Bool × Unit)):zaf→Option (Bool × Unit):=fun (v0,v1,v12,v13) =>
  bif decide (v13 < v12) then inR v13 ((List.length v0):Int) (inR v13 ((List.length v1):Int) (bif !eqI zW (ix vE v0 v13) (ix vE v1 v13) then some (false,()) else k0 (v0,v1,v12,wI (v13 + 1)))) else some (true,())
abbrev zjX (K:Nat):zaf→Option (Bool × Unit):=zl zfn K
theorem zsw (K:Nat):∀ n,evV Es0 K Tryz.f217 0 (ch [.bool]) [1,1,0,1,0] [] zsv n = zl zfn n:=zt fun n0 (v0,v1,v12,v13)=>by kernel_rfl
def zho (L0:zaf→Option (Bool × Unit)):((List z8) × ((List z8) × Unit))→Option (Bool × Unit):=fun (x0,x1,()) =>
  bif ((List.length x0):Int) != ((List.length x1):Int) then some (false,()) else L0 (x0,x1,((List.length x0):Int),0)
def zhp:((List z8) × (List z8) × Unit)→Option (Bool × Unit):=zho (zjX K0)
abbrev zmm:Fun:=⟨217,(ch [(.sl zW),(.sl zW)]),(ch [.bool]),0,zhp⟩
theorem zvK:Sq zmm:=ml0 (d:=false) (S:=fun K=>zho (zjX K)) Tryz.func217 (by kernel_rfl) (fun K=>tr1 (T:=zho) (zsw K K) fun (x0,x1,())=>by kernel_rfl) rfl
abbrev zag:Type:=(List qc) × (List qc) × Int × Int
abbrev zsx:zag→St:=fun (v0,v1,v12,v13)=>St.mk [(0,.dat (.sl zV) v0),(1,.dat (.sl zV) v1),(12,.dat tI v12),(13,.dat tI v13)] []
def zfo (k0:zag→Option (Bool × Unit)):zag→Option (Bool × Unit):=fun (v0,v1,v12,v13) =>
  bif decide (v13 < v12) then inR v13 ((List.length v0):Int) (inR v13 ((List.length v1):Int) (bif !eqI zV (ix zdb v0 v13) (ix zdb v1 v13) then some (false,()) else k0 (v0,v1,v12,wI (v13 + 1)))) else some (true,())
abbrev zjY (K:Nat):zag→Option (Bool × Unit):=zl zfo K
theorem zsy (K:Nat):∀ n,evV Es0 K Tryz.f218 0 (ch [.bool]) [1,1,0,1,0] [] zsx n = zl zfo n:=zt fun n0 (v0,v1,v12,v13)=>by kernel_rfl
def zhq (L0:zag→Option (Bool × Unit)):((List qc) × ((List qc) × Unit))→Option (Bool × Unit):=fun (x0,x1,()) =>
  bif ((List.length x0):Int) != ((List.length x1):Int) then some (false,()) else L0 (x0,x1,((List.length x0):Int),0)
def zhr:((List qc) × (List qc) × Unit)→Option (Bool × Unit):=zhq (zjY K0)
abbrev zmn:Fun:=⟨218,(ch [(.sl zV),(.sl zV)]),(ch [.bool]),0,zhr⟩
theorem zvL:Sq zmn:=ml0 (d:=false) (S:=fun K=>zhq (zjY K)) Tryz.func218 (by kernel_rfl) (fun K=>tr1 (T:=zhq) (zsy K K) fun (x0,x1,())=>by kernel_rfl) rfl
abbrev zah:Type:=(List qr) × (List qr) × Int × Int
abbrev zsz:zah→St:=fun (v0,v1,v12,v13)=>St.mk [(0,.dat (.sl z4) v0),(1,.dat (.sl z4) v1),(12,.dat tI v12),(13,.dat tI v13)] []
def zfp (k0:zah→Option (Bool × Unit)):zah→Option (Bool × Unit):=fun (v0,v1,v12,v13) =>
  bif decide (v13 < v12) then inR v13 ((List.length v0):Int) (inR v13 ((List.length v1):Int) (bif !eqI z4 (ix zzt v0 v13) (ix zzt v1 v13) then some (false,()) else k0 (v0,v1,v12,wI (v13 + 1)))) else some (true,())
abbrev zjZ (K:Nat):zah→Option (Bool × Unit):=zl zfp K
theorem zsA (K:Nat):∀ n,evV Es0 K Tryz.f219 0 (ch [.bool]) [1,1,0,1,0] [] zsz n = zl zfp n:=zt fun n0 (v0,v1,v12,v13)=>by kernel_rfl
def zhs (L0:zah→Option (Bool × Unit)):((List qr) × ((List qr) × Unit))→Option (Bool × Unit):=fun (x0,x1,()) =>
  bif ((List.length x0):Int) != ((List.length x1):Int) then some (false,()) else L0 (x0,x1,((List.length x0):Int),0)
def zht:((List qr) × (List qr) × Unit)→Option (Bool × Unit):=zhs (zjZ K0)
abbrev zmo:Fun:=⟨219,(ch [(.sl z4),(.sl z4)]),(ch [.bool]),0,zht⟩
theorem zvM:Sq zmo:=ml0 (d:=false) (S:=fun K=>zhs (zjZ K)) Tryz.func219 (by kernel_rfl) (fun K=>tr1 (T:=zhs) (zsA K K) fun (x0,x1,())=>by kernel_rfl) rfl
abbrev yI:Type:=(List zp) × (List zp) × Int × Int
abbrev zrb:yI→St:=fun (v0,v1,v12,v13)=>St.mk [(0,.dat (.sl zv) v0),(1,.dat (.sl zv) v1),(12,.dat tI v12),(13,.dat tI v13)] []
def zew (k0:yI→Option (Bool × Unit)):yI→Option (Bool × Unit):=fun (v0,v1,v12,v13) =>
  bif decide (v13 < v12) then inR v13 ((List.length v0):Int) (inR v13 ((List.length v1):Int) (bif !eqI zv (ix qV v0 v13) (ix qV v1 v13) then some (false,()) else k0 (v0,v1,v12,wI (v13 + 1)))) else some (true,())
abbrev zjk (K:Nat):yI→Option (Bool × Unit):=zl zew K
theorem zrc (K:Nat):∀ n,evV Es0 K Tryz.f220 0 (ch [.bool]) [1,1,0,1,0] [] zrb n = zl zew n:=zt fun n0 (v0,v1,v12,v13)=>by kernel_rfl
def zgj (L0:yI→Option (Bool × Unit)):((List zp) × ((List zp) × Unit))→Option (Bool × Unit):=fun (x0,x1,()) =>
  bif ((List.length x0):Int) != ((List.length x1):Int) then some (false,()) else L0 (x0,x1,((List.length x0):Int),0)
def zgk:((List zp) × (List zp) × Unit)→Option (Bool × Unit):=zgj (zjk K0)
abbrev zk3:Fun:=⟨220,(ch [(.sl zv),(.sl zv)]),(ch [.bool]),0,zgk⟩
theorem ztT:Sq zk3:=ml0 (d:=false) (S:=fun K=>zgj (zjk K)) Tryz.func220 (by kernel_rfl) (fun K=>tr1 (T:=zgj) (zrc K K) fun (x0,x1,())=>by kernel_rfl) rfl
abbrev zbI:Type:=(List (List Int)) × (List (List Int)) × Int × Int
abbrev zvN:zbI→St:=fun (v0,v1,v12,v13)=>St.mk [(0,.dat (.sl (.arr 4 tU)) v0),(1,.dat (.sl (.arr 4 tU)) v1),(12,.dat tI v12),(13,.dat tI v13)] []
def zhu (k0:zbI→Option (Bool × Unit)):zbI→Option (Bool × Unit):=fun (v0,v1,v12,v13) =>
  bif decide (v13 < v12) then inR v13 ((List.length v0):Int) (inR v13 ((List.length v1):Int) (bif !eqI (.arr 4 tU) (List.getD v0 (Int.toNat v13) (ze (.arr 4 tU))) (List.getD v1 (Int.toNat v13) (ze (.arr 4 tU))) then some (false,()) else k0 (v0,v1,v12,wI (v13 + 1)))) else some (true,())
abbrev zmp (K:Nat):zbI→Option (Bool × Unit):=zl zhu K
theorem zvO (K:Nat):∀ n,evV Es0 K Tryz.f221 0 (ch [.bool]) [1,1,0,1,0] [] zvN n = zl zhu n:=zt fun n0 (v0,v1,v12,v13)=>by kernel_rfl
def zjA (L0:zbI→Option (Bool × Unit)):((List (List Int)) × ((List (List Int)) × Unit))→Option (Bool × Unit):=fun (x0,x1,()) =>
  bif ((List.length x0):Int) != ((List.length x1):Int) then some (false,()) else L0 (x0,x1,((List.length x0):Int),0)
def zjB:((List (List Int)) × (List (List Int)) × Unit)→Option (Bool × Unit):=zjA (zmp K0)
abbrev zpz:Fun:=⟨221,(ch [(.sl (.arr 4 tU)),(.sl (.arr 4 tU))]),(ch [.bool]),0,zjB⟩
theorem zyC:Sq zpz:=ml0 (d:=false) (S:=fun K=>zjA (zmp K)) Tryz.func221 (by kernel_rfl) (fun K=>tr1 (T:=zjA) (zvO K K) fun (x0,x1,())=>by kernel_rfl) rfl
abbrev zaS:Type:=(List qb) × (List qb) × Int × Int
abbrev ztU:zaS→St:=fun (v0,v1,v12,v13)=>St.mk [(0,.dat (.sl zaP) v0),(1,.dat (.sl zaP) v1),(12,.dat tI v12),(13,.dat tI v13)] []
def zgl (k0:zaS→Option (Bool × Unit)):zaS→Option (Bool × Unit):=fun (v0,v1,v12,v13) =>
  bif decide (v13 < v12) then inR v13 ((List.length v0):Int) (inR v13 ((List.length v1):Int) (bif !eqI zaP (ix qR v0 v13) (ix qR v1 v13) then some (false,()) else k0 (v0,v1,v12,wI (v13 + 1)))) else some (true,())
abbrev zk4 (K:Nat):zaS→Option (Bool × Unit):=zl zgl K
theorem ztV (K:Nat):∀ n,evV Es0 K Tryz.f222 0 (ch [.bool]) [1,1,0,1,0] [] ztU n = zl zgl n:=zt fun n0 (v0,v1,v12,v13)=>by kernel_rfl
def zir (L0:zaS→Option (Bool × Unit)):((List qb) × ((List qb) × Unit))→Option (Bool × Unit):=fun (x0,x1,()) =>
  bif ((List.length x0):Int) != ((List.length x1):Int) then some (false,()) else L0 (x0,x1,((List.length x0):Int),0)
def zis:((List vv) × (List vv) × Unit)→Option (Bool × Unit):=zir (zk4 K0)
abbrev znO:Fun:=⟨222,(ch [(.sl zX),(.sl zX)]),(ch [.bool]),0,zis⟩
theorem zxe:Sq znO:=ml0 (d:=false) (S:=fun K=>zir (zk4 K)) Tryz.func222 (by kernel_rfl) (fun K=>tr1 (T:=zir) (ztV K K) fun (x0,x1,())=>by kernel_rfl) rfl
abbrev vn:Type:=(List (List Int)) × (Option (((List Int) × ((List Int) × Unit))→Option (Bool × Unit))) × (List (List Int)) × Int × Int
abbrev znP:vn→St:=fun (v1,v2,v15,v16,v17)=>St.mk [(1,.dat (.sl (.sl tI)) v1),(2,.dat (.fn (.pair (.sl tI) (.pair (.sl tI) .unit)) (.pair .bool .unit)) v2),(15,.dat (.sl (.sl tI)) v15),(16,.dat tI v16),(17,.dat tI v17)] []
def vo (k0:vn→Option (Bool × Unit)):vn→Option (Bool × Unit):=fun (v1,v2,v15,v16,v17) =>
  bif decide (v17 < v16) then inR v17 ((List.length v15):Int) (inR v17 ((List.length v1):Int) (Option.bind v2 fun q0=>Option.bind (q0 (List.getD v15 (Int.toNat v17) ([]:List Int),List.getD v1 (Int.toNat v17) ([]:List Int),())) fun q1=>bif q1.1 then k0 (v1,v2,v15,v16,wI (v17 + 1)) else some (false,()))) else some (true,())
abbrev zgK (K:Nat):vn→Option (Bool × Unit):=zl vo K
theorem znQ (K:Nat):∀ n,evV Es0 K Tryz.f132 0 (ch [.bool]) [1,1,0,1,0] [] znP n = zl vo n:=zt fun n0 (v1,v2,v15,v16,v17)=>by kernel_rfl
def zd6 (L0:vn→Option (Bool × Unit)):((List (List Int)) × ((List (List Int)) × ((Option (((List Int) × ((List Int) × Unit))→Option (Bool × Unit))) × Unit)))→Option (Bool × Unit):=fun (x0,x1,x2,()) =>
  bif ((List.length x0):Int) != ((List.length x1):Int) then some (false,()) else L0 (x1,x2,x0,((List.length x0):Int),0)
def zd7:((List (List Int)) × ((List (List Int)) × ((Option (((List Int) × (List Int) × Unit)→Option (Bool × Unit))) × Unit)))→Option (Bool × Unit):=zd6 (zgK K0)
abbrev zia:Fun:=⟨132,(ch [(.sl (.sl tI)),(.sl (.sl tI)),(.fn (ch [(.sl tI),(.sl tI)]) (ch [.bool]))]),(ch [.bool]),0,zd7⟩
theorem zqj:Sq zia:=ml0 (d:=false) (S:=fun K=>zd6 (zgK K)) Tryz.func132 (by kernel_rfl) (fun K=>tr1 (T:=zd6) (znQ K K) fun (x0,x1,x2,())=>by kernel_rfl) rfl
abbrev zaT:Type:=(List Int) × (List Int) × Int × Int
abbrev ztW:zaT→St:=fun (v0,v1,v12,v13)=>St.mk [(0,.dat (.sl tI) v0),(1,.dat (.sl tI) v1),(12,.dat tI v12),(13,.dat tI v13)] []
def zgm (k0:zaT→Option (Bool × Unit)):zaT→Option (Bool × Unit):=fun (v0,v1,v12,v13) =>
  bif decide (v13 < v12) then inR v13 ((List.length v0):Int) (inR v13 ((List.length v1):Int) (bif ix (0:Int) v0 v13 != ix (0:Int) v1 v13 then some (false,()) else k0 (v0,v1,v12,wI (v13 + 1)))) else some (true,())
abbrev zk5 (K:Nat):zaT→Option (Bool × Unit):=zl zgm K
theorem ztX (K:Nat):∀ n,evV Es0 K Tryz.f133 0 (ch [.bool]) [1,1,0,1,0] [] ztW n = zl zgm n:=zt fun n0 (v0,v1,v12,v13)=>by kernel_rfl
def zit (L0:zaT→Option (Bool × Unit)):((List Int) × ((List Int) × Unit))→Option (Bool × Unit):=fun (x0,x1,()) =>
  bif ((List.length x0):Int) != ((List.length x1):Int) then some (false,()) else L0 (x0,x1,((List.length x0):Int),0)
def zaG:((List Int) × (List Int) × Unit)→Option (Bool × Unit):=zit (zk5 K0)
abbrev znR:Fun:=⟨133,(ch [(.sl tI),(.sl tI)]),(ch [.bool]),0,zaG⟩
theorem zxf:Sq znR:=ml0 (d:=false) (S:=fun K=>zit (zk5 K)) Tryz.func133 (by kernel_rfl) (fun K=>tr1 (T:=zit) (ztX K K) fun (x0,x1,())=>by kernel_rfl) rfl
abbrev yJ:Type:=(List zn) × (List zn) × Int × Int
abbrev zrd:yJ→St:=fun (v0,v1,v12,v13)=>St.mk [(0,.dat (.sl zm) v0),(1,.dat (.sl zm) v1),(12,.dat tI v12),(13,.dat tI v13)] []
def zex (k0:yJ→Option (Bool × Unit)):yJ→Option (Bool × Unit):=fun (v0,v1,v12,v13) =>
  bif decide (v13 < v12) then inR v13 ((List.length v0):Int) (inR v13 ((List.length v1):Int) (bif !eqI zm (ix qp v0 v13) (ix qp v1 v13) then some (false,()) else k0 (v0,v1,v12,wI (v13 + 1)))) else some (true,())
abbrev zjl (K:Nat):yJ→Option (Bool × Unit):=zl zex K
theorem zre (K:Nat):∀ n,evV Es0 K Tryz.f134 0 (ch [.bool]) [1,1,0,1,0] [] zrd n = zl zex n:=zt fun n0 (v0,v1,v12,v13)=>by kernel_rfl
def zgn (L0:yJ→Option (Bool × Unit)):((List zn) × ((List zn) × Unit))→Option (Bool × Unit):=fun (x0,x1,()) =>
  bif ((List.length x0):Int) != ((List.length x1):Int) then some (false,()) else L0 (x0,x1,((List.length x0):Int),0)
def zgo:((List zn) × (List zn) × Unit)→Option (Bool × Unit):=zgn (zjl K0)
abbrev zk6:Fun:=⟨134,(ch [(.sl zm),(.sl zm)]),(ch [.bool]),0,zgo⟩
theorem ztY:Sq zk6:=ml0 (d:=false) (S:=fun K=>zgn (zjl K)) Tryz.func134 (by kernel_rfl) (fun K=>tr1 (T:=zgn) (zre K K) fun (x0,x1,())=>by kernel_rfl) rfl
abbrev yK:Type:=(List zF) × (List zF) × Int × Int
abbrev zrf:yK→St:=fun (v0,v1,v12,v13)=>St.mk [(0,.dat (.sl zr) v0),(1,.dat (.sl zr) v1),(12,.dat tI v12),(13,.dat tI v13)] []
def zey (k0:yK→Option (Bool × Unit)):yK→Option (Bool × Unit):=fun (v0,v1,v12,v13) =>
  bif decide (v13 < v12) then inR v13 ((List.length v0):Int) (inR v13 ((List.length v1):Int) (bif !eqI zr (ix zg1 v0 v13) (ix zg1 v1 v13) then some (false,()) else k0 (v0,v1,v12,wI (v13 + 1)))) else some (true,())
abbrev zjm (K:Nat):yK→Option (Bool × Unit):=zl zey K
theorem zrg (K:Nat):∀ n,evV Es0 K Tryz.f135 0 (ch [.bool]) [1,1,0,1,0] [] zrf n = zl zey n:=zt fun n0 (v0,v1,v12,v13)=>by kernel_rfl
def zgp (L0:yK→Option (Bool × Unit)):((List zF) × ((List zF) × Unit))→Option (Bool × Unit):=fun (x0,x1,()) =>
  bif ((List.length x0):Int) != ((List.length x1):Int) then some (false,()) else L0 (x0,x1,((List.length x0):Int),0)
def zgq:((List zF) × (List zF) × Unit)→Option (Bool × Unit):=zgp (zjm K0)
abbrev zk7:Fun:=⟨135,(ch [(.sl zr),(.sl zr)]),(ch [.bool]),0,zgq⟩
theorem ztZ:Sq zk7:=ml0 (d:=false) (S:=fun K=>zgp (zjm K)) Tryz.func135 (by kernel_rfl) (fun K=>tr1 (T:=zgp) (zrg K K) fun (x0,x1,())=>by kernel_rfl) rfl
abbrev L1:List Fun:=zpp :: znt :: zg2 :: zma :: zjb :: zqQ :: zjc :: zqS :: zqT :: zhY :: zqU :: zfA :: zjR :: zqV :: zqW :: zkT :: zkU :: zmb :: zh0 :: zg7 :: zh1 :: zqZ :: zq0 :: znA :: zh2 :: zh3 :: zvw :: zvx :: zh4 :: zya :: zq1 :: zfc :: zfC :: zha :: zvy :: zq2 :: zq3 :: znH :: zjS :: zyb :: zvz :: zpq :: zpr :: zmc :: zh5 :: zhb :: zh6 :: zhc :: zjT :: zsZ :: zmd :: zjf :: zme :: zjg :: zjU :: zjh :: zji :: zh7 :: zkX :: zmf :: zkY :: zkZ :: zq8 :: zk0 :: zps :: zs0 :: zpt :: znI :: znJ :: zq9 :: zk1 :: znK :: zmg :: zk2 :: zmh :: zmi :: zmj :: zmk :: zpu :: znL :: zpw :: zpx :: zs1 :: zpy :: zh8 :: zjj :: zjV :: zhl :: zml :: zmm :: zmn :: zmo :: zk3 :: zpz :: znO :: zia :: znR :: zk6 :: zk7 :: L0
theorem h1:Sds Tryz.prog E0 L1:=⟨zyt,zw3,zoI,zvu,zqP,zAl,zqR,zAm,zAn,zp5,zAo,zmY,zso,zAp,zAq,ztL,ztM,zvv,zp8,zoL,zp9,zAr,zAs,zw8,zqa,zqb,zDN,zDO,zqc,zFm,zAt,zlL,zm1,zoN,zDP,zAu,zAv,zw9,zsp,zFn,zDQ,zyu,zyv,zvA,zqd,zoO,zqe,zoP,zsq,zB6,zvB,zq4,zvC,zq5,zsr,zq6,zq7,zqf,ztN,zvD,ztO,ztP,zAw,ztQ,zyw,zB7,zyx,zxa,zxb,zAx,ztR,zxc,zvE,ztS,zvF,zvG,zvH,zvI,zyy,zxd,zyz,zyA,zB8,zyB,zqg,zra,zss,zoU,zvJ,zvK,zvL,zvM,ztT,zyC,zxe,zqj,zxf,ztY,ztZ,h0⟩
theorem ms1 {d:Bool} {F:Fun} {f:Go.Func} {K:Nat} (hf:Tryz.prog.funcs[F.id]? = some f) (ho:jI f = true) (h:evF (En E0 d L1) K f F.md F.a F.r = F.spec):Sd Tryz.prog E0 F:=mkS h1 hf ho h
theorem ml1 {d:Bool} {F:Fun} {f:Go.Func} {S:Nat→F.a.I→Option F.r.I} (hf:Tryz.prog.funcs[F.id]? = some f) (ho:jI f = true) (h:∀ K,evF (En E0 d L1) K f F.md F.a F.r = S K) (e:S K0 = F.spec):Sd Tryz.prog E0 F:=mkS h1 hf ho ((h K0).trans e)
abbrev Es1:Env:=En E0 false L1
abbrev Ed1:Env:=En E0 true L1
def zdt:(zz × Unit)→Option (Bool × Unit):=fun (x0,()) =>
  Option.bind (zbm (x0,())) fun q0=>bif q0.1 then some (false,()) else some (true,())
abbrev zk8:Fun:=⟨224,(ch [zy]),(ch [.bool]),0,zdt⟩
theorem zt0:Sq zk8:=ms1 (d:=false) (K:=0) Tryz.func224 (by kernel_rfl) (funext fun (x0,())=>by kernel_rfl)
def yb:((List zz) × ((Option ((zz × Unit)→Option (Bool × Unit))) × Unit))→Option (Bool × Unit):=fun (x0,x1,()) =>
  Option.bind (zao (x0,x1,())) fun q0=>bif decide (q0.1 ≥ 0) then some (true,()) else some (false,())
abbrev zfd:Fun:=⟨225,(ch [(.sl zy),(.fn (ch [zy]) (ch [.bool]))]),(ch [.bool]),0,yb⟩
theorem zlM:Sq zfd:=ms1 (d:=false) (K:=0) Tryz.func225 (by kernel_rfl) (funext fun (x0,x1,())=>by kernel_rfl)
def zai:(Int × (Int × Unit))→Option (Int × Unit):=fun (x0,x1,()) =>
  Option.bind (yS (x0,())) fun q0=>bif q0.1 then Option.bind (yS (x1,())) fun q1=>bif q1.1 then some (0,()) else some ((-1),()) else Option.bind (yS (x1,())) fun q2=>bif q2.1 then some (1,()) else bif decide (x0 < x1) then some ((-1),()) else bif decide (x0 > x1) then some (1,()) else some (0,())
abbrev zj0:Fun:=⟨268,(ch [tI,tI]),(ch [tI]),0,zai⟩
theorem zsB:Sq zj0:=ms1 (d:=false) (K:=0) Tryz.func268 (by kernel_rfl) (funext fun (x0,x1,())=>by kernel_rfl)
def vL:(Int × (Int × Unit))→Option (Int × Unit):=fun (x0,x1,()) =>
  Option.bind (vf (x0,())) fun q0=>bif q0.1 then Option.bind (vf (x1,())) fun q1=>bif q1.1 then some (0,()) else some ((-1),()) else Option.bind (vf (x1,())) fun q2=>bif q2.1 then some (1,()) else bif decide (x0 < x1) then some ((-1),()) else bif decide (x0 > x1) then some (1,()) else some (0,())
abbrev zhv:Fun:=⟨267,(ch [tU,tU]),(ch [tI]),0,vL⟩
theorem zoV:Sq zhv:=ms1 (d:=false) (K:=0) Tryz.func267 (by kernel_rfl) (funext fun (x0,x1,())=>by kernel_rfl)
def zbJ:(Int × ((Option zf) × Unit))→Option (Bool × Unit):=fun (x0,x1,()) =>
  Option.bind x1 fun q0=>Option.bind (ql (x0,0,wI (((List.length q0.1):Int) - 1),())) fun q1=>bif q1.1 then some (false,()) else some (true,())
abbrev zmq:Fun:=⟨227,(ch [tI,(.ptr zw)]),(ch [.bool]),0,zbJ⟩
theorem zvP:Sq zmq:=ms1 (d:=false) (K:=0) Tryz.func227 (by kernel_rfl) (funext fun (x0,x1,())=>by kernel_rfl)
def qB:((List Int) × ((Option ((Int × Unit)→Option (Bool × Unit))) × Unit))→Option (Bool × Unit):=fun (x0,x1,()) =>
  Option.bind (zbC (x0,x1,())) fun q0=>bif decide (q0.1 ≥ 0) then some (true,()) else some (false,())
abbrev zgL:Fun:=⟨191,(ch [(.sl tI),(.fn (ch [tI]) (ch [.bool]))]),(ch [.bool]),0,qB⟩
theorem znS:Sq zgL:=ms1 (d:=false) (K:=0) Tryz.func191 (by kernel_rfl) (funext fun (x0,x1,())=>by kernel_rfl)
def j7:((List Int) × ((Option ((Int × Unit)→Option (Bool × Unit))) × Unit))→Option (Bool × Unit):=fun (x0,x1,()) =>
  Option.bind (za8 (x0,x1,())) fun q0=>bif decide (q0.1 ≥ 0) then some (true,()) else some (false,())
abbrev zfH:Fun:=⟨281,(ch [(.sl (.int .u8)),(.fn (ch [(.int .u8)]) (ch [.bool]))]),(ch [.bool]),0,j7⟩
theorem zna:Sq zfH:=ms1 (d:=false) (K:=0) Tryz.func281 (by kernel_rfl) (funext fun (x0,x1,())=>by kernel_rfl)
def zeY:(Int × Unit)→Option (Bool × Unit):=fun (x0,()) =>
  Option.bind (zen (x0,())) fun q0=>bif q0.1 then some (true,()) else Option.bind (zg5 (x0,())) fun q1=>bif q1.1 then some (true,()) else some (false,())
abbrev znT:Fun:=⟨246,(ch [(.int .u8)]),(ch [.bool]),0,zeY⟩
theorem zxg:Sq znT:=ms1 (d:=false) (K:=0) Tryz.func246 (by kernel_rfl) (funext fun (x0,())=>by kernel_rfl)
def zat:((List qO) × ((Option ((qO × Unit)→Option (Bool × Unit))) × Unit))→Option (Bool × Unit):=fun (x0,x1,()) =>
  Option.bind (yB (x0,x1,())) fun q0=>bif decide (q0.1 ≥ 0) then some (true,()) else some (false,())
abbrev zeb:Fun:=⟨229,(ch [(.sl qN),(.fn (ch [qN]) (ch [.bool]))]),(ch [.bool]),0,zat⟩
theorem zkf:Sq zeb:=ms1 (d:=false) (K:=0) Tryz.func229 (by kernel_rfl) (funext fun (x0,x1,())=>by kernel_rfl)
def zbg:((List zz) × (zz × Unit))→Option (Bool × Unit):=fun (x0,x1,()) =>
  Option.bind (zgf (x0,x1,())) fun q0=>bif decide (q0.1 ≥ 0) then some (true,()) else some (false,())
abbrev zib:Fun:=⟨232,(ch [(.sl zy),zy]),(ch [.bool]),0,zbg⟩
theorem zqk:Sq zib:=ms1 (d:=false) (K:=0) Tryz.func232 (by kernel_rfl) (funext fun (x0,x1,())=>by kernel_rfl)
def zdu:(Int × Unit)→Option (Bool × Unit):=fun (x0,()) =>
  Option.bind (ql (x0,0,12,())) fun q0=>bif q0.1 then some (false,()) else some (true,())
abbrev zk9:Fun:=⟨234,(ch [tI]),(ch [.bool]),0,zdu⟩
theorem zt1:Sq zk9:=ms1 (d:=false) (K:=0) Tryz.func234 (by kernel_rfl) (funext fun (x0,())=>by kernel_rfl)
def yL:(zf × Unit)→Option (Bool × Unit):=fun (x0,()) =>
  Option.bind (ql (x0.2.2.2.2.2.1,0,24,())) fun q0=>bif q0.1 then Option.bind (ql (x0.2.2.2.2.2.2.1,0,48,())) fun q1=>bif q1.1 then Option.bind (ql (x0.2.2.2.2.2.2.2.1,1,4,())) fun q2=>bif q2.1 then Option.bind (ql (x0.2.2.2.2.2.2.2.2.1,1,16,())) fun q3=>bif q3.1 then some (true,()) else some (false,()) else some (false,()) else some (false,()) else some (false,())
abbrev zrh:Fun:=⟨156,(ch [zw]),(ch [.bool]),0,yL⟩
theorem zAy:Sq zrh:=ms1 (d:=false) (K:=0) Tryz.func156 (by kernel_rfl) (funext fun (x0,())=>by kernel_rfl)
def jL:((List zg) × ((Option ((zg × Unit)→Option (Bool × Unit))) × Unit))→Option (Bool × Unit):=fun (x0,x1,()) =>
  Option.bind (zap (x0,x1,())) fun q0=>bif decide (q0.1 ≥ 0) then some (true,()) else some (false,())
abbrev zfe:Fun:=⟨176,(ch [(.sl zj),(.fn (ch [zj]) (ch [.bool]))]),(ch [.bool]),0,jL⟩
theorem zlN:Sq zfe:=ms1 (d:=false) (K:=0) Tryz.func176 (by kernel_rfl) (funext fun (x0,x1,())=>by kernel_rfl)
def zco:((List ja) × ((Option ((ja × Unit)→Option (Bool × Unit))) × Unit))→Option (Bool × Unit):=fun (x0,x1,()) =>
  Option.bind (zba (x0,x1,())) fun q0=>bif decide (q0.1 ≥ 0) then some (true,()) else some (false,())
abbrev zfI:Fun:=⟨178,(ch [(.sl qi),(.fn (ch [qi]) (ch [.bool]))]),(ch [.bool]),0,zco⟩
theorem znb:Sq zfI:=ms1 (d:=false) (K:=0) Tryz.func178 (by kernel_rfl) (funext fun (x0,x1,())=>by kernel_rfl)
def zhw:(z8 × Unit)→Option (Bool × Unit):=fun (x0,()) =>
  bif x0.1 then Option.bind (zeq (x0.2.1,())) fun q0=>bif q0.1 then Option.bind (zeq (x0.2.2.1,())) fun q1=>bif q1.1 then Option.bind (zg8 (x0.2.2.2.1,())) fun q2=>bif q2.1 then some (false,()) else some (true,()) else some (true,()) else some (true,()) else bif !eqI zW x0 (ze zW) then some (true,()) else some (false,())
abbrev zri:Fun:=⟨181,(ch [zW]),(ch [.bool]),0,zhw⟩
theorem zAz:Sq zri:=ms1 (d:=false) (K:=0) Tryz.func181 (by kernel_rfl) (funext fun (x0,())=>by kernel_rfl)
def zhx:((List z8) × (qb × (Int × Unit)))→Option (Int × Unit):=fun (x0,x1,x2,()) =>
  Option.bind (yg (x0,some fun z=>zeV (z.1,some x1,some x2,()),())) fun q0=>some (q0.1,())
abbrev zrj:Fun:=⟨182,(ch [(.sl zW),zX,tI]),(ch [tI]),0,zhx⟩
theorem zAA:Sq zrj:=ms1 (d:=false) (K:=0) Tryz.func182 (by kernel_rfl) (funext fun (x0,x1,x2,())=>by kernel_rfl)
def jg:((List qc) × ((Option ((qc × Unit)→Option (Bool × Unit))) × Unit))→Option (Bool × Unit):=fun (x0,x1,()) =>
  Option.bind (zbb (x0,x1,())) fun q0=>bif decide (q0.1 ≥ 0) then some (true,()) else some (false,())
abbrev zfJ:Fun:=⟨183,(ch [(.sl zV),(.fn (ch [zV]) (ch [.bool]))]),(ch [.bool]),0,jg⟩
theorem znc:Sq zfJ:=ms1 (d:=false) (K:=0) Tryz.func183 (by kernel_rfl) (funext fun (x0,x1,())=>by kernel_rfl)
def zbK:(zw2 × Unit)→Option (Bool × Unit):=fun (x0,()) =>
  bif x0.1 == 1 then Option.bind (zdh (x0.2.1,())) fun q0=>bif q0.1 then bif eqI zX x0.2.2.1 (ze zX) then some (true,()) else some (false,()) else some (false,()) else bif x0.1 == 3 then Option.bind (zdh (x0.2.1,())) fun q1=>bif q1.1 then bif eqI zX x0.2.2.1 (ze zX) then some (true,()) else some (false,()) else some (false,()) else bif x0.1 == 2 then bif x0.2.1 == 0 then Option.bind (zdh (x0.2.2.1.1,())) fun q2=>bif q2.1 then Option.bind (zdh (x0.2.2.1.2.1,())) fun q3=>bif q3.1 then some (true,()) else some (false,()) else some (false,()) else some (false,()) else some (false,())
abbrev zjn:Fun:=⟨254,(ch [zr7]),(ch [.bool]),0,zbK⟩
theorem zrk:Sq zjn:=ms1 (d:=false) (K:=0) Tryz.func254 (by kernel_rfl) (funext fun (x0,())=>by kernel_rfl)
def jh:((List qr) × ((Option ((qr × Unit)→Option (Bool × Unit))) × Unit))→Option (Bool × Unit):=fun (x0,x1,()) =>
  Option.bind (zbc (x0,x1,())) fun q0=>bif decide (q0.1 ≥ 0) then some (true,()) else some (false,())
abbrev zfK:Fun:=⟨185,(ch [(.sl z4),(.fn (ch [z4]) (ch [.bool]))]),(ch [.bool]),0,jh⟩
theorem znd:Sq zfK:=ms1 (d:=false) (K:=0) Tryz.func185 (by kernel_rfl) (funext fun (x0,x1,())=>by kernel_rfl)
def ziu:(qr × Unit)→Option (Bool × Unit):=fun (x0,()) =>
  Option.bind (zgI (x0.2.1,())) fun q0=>bif q0.1 then Option.bind (zgI (x0.2.2.1,())) fun q1=>bif q1.1 then Option.bind (zgI (x0.2.2.2.1,())) fun q2=>bif q2.1 then some (true,()) else some (false,()) else some (false,()) else some (false,())
abbrev znU:Fun:=⟨256,(ch [z4]),(ch [.bool]),0,ziu⟩
theorem zxh:Sq znU:=ms1 (d:=false) (K:=0) Tryz.func256 (by kernel_rfl) (funext fun (x0,())=>by kernel_rfl)
def zeZ:(ByteArray × (ByteArray × Unit))→Option (ByteArray × Unit):=fun (x0,x1,()) =>
  bif ByteArray.toList x0 == ByteArray.toList (ByteArray.mk #[]) then some (x0,()) else bif ByteArray.toList x1 == ByteArray.toList (ByteArray.mk #[]) then some (x0,()) else bif (↑(ByteArray.size x1):Int) == 1 then bif decide (0 < (↑(ByteArray.size x1):Int)) then bif decide ((↑(UInt8.toNat (List.getD (Array.toList (ByteArray.data x1)) (Int.toNat 0) 0)):Int) < 128) then bif decide (0 < (↑(ByteArray.size x1):Int)) then Option.bind (zbj (x0,(↑(UInt8.toNat (List.getD (Array.toList (ByteArray.data x1)) (Int.toNat 0) 0)):Int),())) fun q0=>bif decide (0 < (↑(ByteArray.size x1):Int)) then Option.bind (zck (q0.1,(↑(UInt8.toNat (List.getD (Array.toList (ByteArray.data x1)) (Int.toNat 0) 0)):Int),())) fun q1=>some (q1.1,()) else none else none else none else none else none
abbrev znV:Fun:=⟨285,(ch [.str,.str]),(ch [.str]),0,zeZ⟩
theorem zxi:Sq znV:=ms1 (d:=false) (K:=0) Tryz.func285 (by kernel_rfl) (funext fun (x0,x1,())=>by kernel_rfl)
end
end Go.Proofs.YtokcjmkikhgkeaaGreatDoor
end
section
namespace Go.Proofs.YtokcjmkikhgkeaaGreatDoor
open Go.Ev
noncomputable section
def qY:((List zp) × ((Option ((zp × Unit)→Option (Bool × Unit))) × Unit))→Option (Bool × Unit):=fun (x0,x1,()) =>
  Option.bind (zaq (x0,x1,())) fun q0=>bif decide (q0.1 ≥ 0) then some (true,()) else some (false,())
abbrev zff:Fun:=⟨187,(ch [(.sl zv),(.fn (ch [zv]) (ch [.bool]))]),(ch [.bool]),0,qY⟩
theorem zlO:Sq zff:=ms1 (d:=false) (K:=0) Tryz.func187 (by kernel_rfl) (funext fun (x0,x1,())=>by kernel_rfl)
def zfL:(zkc × Unit)→Option (Bool × Unit):=fun (x0,()) =>
  Option.bind (qL (x0.1,())) fun q0=>bif q0.1 then bif decide (x0.2.1 ≤ 4611686018427387904) then bif x0.2.2.1 == -1 then some (true,()) else Option.bind (zeW (x0.2.2.1,())) fun q1=>bif q1.1 then some (true,()) else some (false,()) else some (false,()) else some (false,())
abbrev zs2:Fun:=⟨260,(ch [zdc]),(ch [.bool]),0,zfL⟩
theorem zB9:Sq zs2:=ms1 (d:=false) (K:=0) Tryz.func260 (by kernel_rfl) (funext fun (x0,())=>by kernel_rfl)
def zez:(Int × (Int × Unit))→Option (Int × (Int × Unit)):=fun (x0,x1,()) =>
  Option.bind (zcw (x0,x1,())) fun q0=>bif q0.1 != 0 then some (0,7,()) else bif decide (q0.2.1 > 4611686018427387904) then some (0,7,()) else some (q0.2.1,0,())
abbrev zrl:Fun:=⟨286,(ch [tU,tU]),(ch [tU,tI]),0,zez⟩
theorem zAB:Sq zrl:=ms1 (d:=false) (K:=0) Tryz.func286 (by kernel_rfl) (funext fun (x0,x1,())=>by kernel_rfl)
def zdv:(zn × ((Option qK) × Unit))→Option (Bool × Unit):=fun (x0,x1,()) =>
  bif x0.1 then Option.bind x1 fun q0=>Option.bind (zbn (q0,x0.2.1,())) fun q1=>bif q1.1 then Option.bind x1 fun q2=>Option.bind (qM (q2,x0.2.2.1,())) fun q3=>bif q3.1 then Option.bind x1 fun q4=>bif decide (x0.2.2.2.2.2.2.2.2.2.1 < ((List.length q4.2.1.2.2.2.2.1):Int)) then some (true,()) else some (false,()) else some (false,()) else some (false,()) else some (true,())
abbrev zla:Fun:=⟨94,(ch [zm,(.ptr qe)]),(ch [.bool]),0,zdv⟩
theorem zt2:Sq zla:=ms1 (d:=false) (K:=0) Tryz.func94 (by kernel_rfl) (funext fun (x0,x1,())=>by kernel_rfl)
def jM:((List zn) × ((Option ((zn × Unit)→Option (Bool × Unit))) × Unit))→Option (Bool × Unit):=fun (x0,x1,()) =>
  Option.bind (zar (x0,x1,())) fun q0=>bif decide (q0.1 ≥ 0) then some (true,()) else some (false,())
abbrev zfg:Fun:=⟨195,(ch [(.sl zm),(.fn (ch [zm]) (ch [.bool]))]),(ch [.bool]),0,jM⟩
theorem zlP:Sq zfg:=ms1 (d:=false) (K:=0) Tryz.func195 (by kernel_rfl) (funext fun (x0,x1,())=>by kernel_rfl)
def zaU:(zF × ((Option qK) × Unit))→Option (Bool × Unit):=fun (x0,x1,()) =>
  Option.bind x1 fun q0=>bif decide (x0.2.1 < ((List.length q0.1.2.1):Int)) then Option.bind x1 fun q1=>inR x0.2.1 ((List.length q1.1.2.1):Int) (bif x0.2.2.1 == ix (0:Int) q1.1.2.1 x0.2.1 then Option.bind x1 fun q2=>Option.bind (qM (q2,x0.2.2.2.1,())) fun q3=>bif q3.1 then Option.bind x1 fun q4=>bif decide (x0.1 ≤ q4.2.1.1) then some (true,()) else some (false,()) else some (false,()) else some (false,())) else some (false,())
abbrev zlb:Fun:=⟨98,(ch [zr,(.ptr qe)]),(ch [.bool]),0,zaU⟩
theorem zt3:Sq zlb:=ms1 (d:=false) (K:=0) Tryz.func98 (by kernel_rfl) (funext fun (x0,x1,())=>by kernel_rfl)
def jN:((List zF) × ((Option ((zF × Unit)→Option (Bool × Unit))) × Unit))→Option (Bool × Unit):=fun (x0,x1,()) =>
  Option.bind (zas (x0,x1,())) fun q0=>bif decide (q0.1 ≥ 0) then some (true,()) else some (false,())
abbrev zfh:Fun:=⟨197,(ch [(.sl zr),(.fn (ch [zr]) (ch [.bool]))]),(ch [.bool]),0,jN⟩
theorem zlQ:Sq zfh:=ms1 (d:=false) (K:=0) Tryz.func197 (by kernel_rfl) (funext fun (x0,x1,())=>by kernel_rfl)
def vb:(Int × ((Option qK) × Unit))→Option (Bool × Unit):=fun (x0,x1,()) =>
  bif x0 == -1 then some (true,()) else Option.bind x1 fun q0=>Option.bind (qM (q0,x0,())) fun q1=>bif q1.1 then some (true,()) else some (false,())
abbrev zlc:Fun:=⟨100,(ch [tI,(.ptr qe)]),(ch [.bool]),0,vb⟩
theorem zt4:Sq zlc:=ms1 (d:=false) (K:=0) Tryz.func100 (by kernel_rfl) (funext fun (x0,x1,())=>by kernel_rfl)
def zfM:(qK × (Int × (Int × Unit)))→Option (Bool × Unit):=fun (x0,x1,x2,()) =>
  Option.bind (zbn (x0,x1,())) fun q0=>bif q0.1 then Option.bind (zbn (x0,x2,())) fun q1=>bif q1.1 then inR x1 ((List.length x0.1.1):Int) (inR x2 ((List.length x0.1.1):Int) (Option.bind (zaC (ix qy x0.1.1 x1,ix qy x0.1.1 x2,())) fun q2=>bif q2.1 then some (true,()) else some (false,()))) else some (false,()) else some (false,())
abbrev zs3:Fun:=⟨110,(ch [qe,tI,tI]),(ch [.bool]),0,zfM⟩
theorem zCa:Sq zs3:=ms1 (d:=false) (K:=0) Tryz.func110 (by kernel_rfl) (funext fun (x0,x1,x2,())=>by kernel_rfl)
def j8:((List z8) × ((Option ((z8 × Unit)→Option (Bool × Unit))) × Unit))→Option (Bool × Unit):=fun (x0,x1,()) =>
  Option.bind (yg (x0,x1,())) fun q0=>bif decide (q0.1 ≥ 0) then some (true,()) else some (false,())
abbrev zfN:Fun:=⟨201,(ch [(.sl zW),(.fn (ch [zW]) (ch [.bool]))]),(ch [.bool]),0,j8⟩
theorem zne:Sq zfN:=ms1 (d:=false) (K:=0) Tryz.func201 (by kernel_rfl) (funext fun (x0,x1,())=>by kernel_rfl)
def vp:((List qb) × ((Option ((qb × Unit)→Option (Bool × Unit))) × Unit))→Option (Bool × Unit):=fun (x0,x1,()) =>
  Option.bind (zbG (x0,x1,())) fun q0=>bif decide (q0.1 ≥ 0) then some (true,()) else some (false,())
abbrev zgM:Fun:=⟨204,(ch [(.sl zX),(.fn (ch [zX]) (ch [.bool]))]),(ch [.bool]),0,vp⟩
theorem znW:Sq zgM:=ms1 (d:=false) (K:=0) Tryz.func204 (by kernel_rfl) (funext fun (x0,x1,())=>by kernel_rfl)
def zaV:(qc × ((Option qK) × Unit))→Option (Bool × Unit):=fun (x0,x1,()) =>
  bif x0.2.2.1 != 1 then some (true,()) else Option.bind x1 fun q0=>Option.bind (qM (q0,x0.2.2.2.1,())) fun q1=>bif q1.1 then some (true,()) else some (false,())
abbrev zld:Fun:=⟨107,(ch [zV,(.ptr qe)]),(ch [.bool]),0,zaV⟩
theorem zt5:Sq zld:=ms1 (d:=false) (K:=0) Tryz.func107 (by kernel_rfl) (funext fun (x0,x1,())=>by kernel_rfl)
def qA:(zp × ((Option qK) × Unit))→Option (Bool × Unit):=fun (x0,x1,()) =>
  bif x0.1 then Option.bind x1 fun q0=>Option.bind (qM (q0,x0.2.1,())) fun q1=>bif q1.1 then Option.bind x1 fun q2=>Option.bind (qM (q2,x0.2.2.1,())) fun q3=>bif q3.1 then some (true,()) else some (false,()) else some (false,()) else some (true,())
abbrev zle:Fun:=⟨112,(ch [zv,(.ptr qe)]),(ch [.bool]),0,qA⟩
theorem zt6:Sq zle:=ms1 (d:=false) (K:=0) Tryz.func112 (by kernel_rfl) (funext fun (x0,x1,())=>by kernel_rfl)
def yq:((List zp) × ((Option ((zp × Unit)→Option (Bool × Unit))) × Unit))→Option ((Option zbB) × Unit):=fun (x0,x1,()) =>
  bif Option.isNone x1 then some (none,()) else Option.bind (zdn (x0,())) fun q0=>some (some (q0.1,x1,()),())
abbrev zlf:Fun:=⟨113,(ch [(.sl zv),(.fn (ch [zv]) (ch [.bool]))]),(ch [(.ptr vF)]),0,yq⟩
theorem zt7:Sq zlf:=ms1 (d:=false) (K:=0) Tryz.func113 (by kernel_rfl) (funext fun (x0,x1,())=>by kernel_rfl)
def vM:((Option zbB) × (Int × Unit))→Option (Bool × Unit):=fun (x0,x1,()) =>
  Option.bind (zdo (x0,())) fun q0=>bif q0.1 then bif decide (x1 ≥ 0) then Option.bind x0 fun q1=>bif decide (x1 < ((List.length q1.1):Int)) then Option.bind x0 fun q2=>Option.bind x0 fun q3=>inR x1 ((List.length q3.1):Int) (Option.bind q2.2.1 fun q4=>Option.bind (q4 (ix qV q3.1 x1,())) fun q5=>bif q5.1 then some (true,()) else some (false,())) else some (false,()) else some (false,()) else some (false,())
abbrev zmr:Fun:=⟨115,(ch [(.ptr vF),tI]),(ch [.bool]),0,vM⟩
theorem zvQ:Sq zmr:=ms1 (d:=false) (K:=0) Tryz.func115 (by kernel_rfl) (funext fun (x0,x1,())=>by kernel_rfl)
def zgr:((List zn) × ((Option ((zn × Unit)→Option (Bool × Unit))) × Unit))→Option ((Option zdd) × Unit):=fun (x0,x1,()) =>
  bif Option.isNone x1 then some (none,()) else Option.bind (zdp (x0,())) fun q0=>some (some (q0.1,x1,()),())
abbrev zlg:Fun:=⟨272,(ch [(.sl zm),(.fn (ch [zm]) (ch [.bool]))]),(ch [(.ptr yA)]),0,zgr⟩
theorem zt8:Sq zlg:=ms1 (d:=false) (K:=0) Tryz.func272 (by kernel_rfl) (funext fun (x0,x1,())=>by kernel_rfl)
def zec:((Option zdd) × (Int × Unit))→Option (Bool × Unit):=fun (x0,x1,()) =>
  Option.bind (zdq (x0,())) fun q0=>bif q0.1 then bif decide (x1 ≥ 0) then Option.bind x0 fun q1=>bif decide (x1 < ((List.length q1.1):Int)) then Option.bind x0 fun q2=>Option.bind x0 fun q3=>inR x1 ((List.length q3.1):Int) (Option.bind q2.2.1 fun q4=>Option.bind (q4 (ix qp q3.1 x1,())) fun q5=>bif q5.1 then some (true,()) else some (false,())) else some (false,()) else some (false,()) else some (false,())
abbrev zms:Fun:=⟨275,(ch [(.ptr yA),tI]),(ch [.bool]),0,zec⟩
theorem zvR:Sq zms:=ms1 (d:=false) (K:=0) Tryz.func275 (by kernel_rfl) (funext fun (x0,x1,())=>by kernel_rfl)
abbrev zeA:Type:=Int × (List Int) × Int × Int
abbrev zAC:zeA→St:=fun (v4,v9,v10,v11)=>St.mk [(4,.dat tU v4),(9,.dat (.sl tU) v9),(10,.dat tI v10),(11,.dat tI v11)] []
def zeB (k0:zeA→Option (Int × (Int × Unit))):zeA→Option (Int × (Int × Unit)):=fun (v4,v9,v10,v11) =>
  bif decide (v11 < v10) then inR v11 ((List.length v9):Int) (Option.bind (zdT (v4,ix (0:Int) v9 v11,())) fun q0=>bif q0.2.1 != 0 then some (0,q0.2.1,()) else k0 (q0.1,v9,v10,wI (v11 + 1))) else some (v4,0,())
abbrev zrm (K:Nat):zeA→Option (Int × (Int × Unit)):=zl zeB K
theorem zAD (K:Nat):∀ n,evV Es1 K Tryz.f44 0 (ch [tU,tI]) [1,1,0,1,0] [] zAC n = zl zeB n:=zt fun n0 (v4,v9,v10,v11)=>by kernel_rfl
def zoW (L0:zeA→Option (Int × (Int × Unit))):((List Int) × Unit)→Option (Int × (Int × Unit)):=fun (x0,()) =>
  L0 (0,x0,((List.length x0):Int),0)
def ze0:((List Int) × Unit)→Option (Int × Int × Unit):=zoW (zrm K0)
abbrev zvS:Fun:=⟨44,(ch [(.sl tU)]),(ch [tU,tI]),0,ze0⟩
theorem zDR:Sq zvS:=ml1 (d:=false) (S:=fun K=>zoW (zrm K)) Tryz.func44 (by kernel_rfl) (fun K=>tr1 (T:=zoW) (zAD K K) fun (x0,())=>by kernel_rfl) rfl
abbrev zbL:Type:=Int × Int × Int × Int × List zg × Nat × List (List Int) × Nat × List zn × List zF × List Int × List zg × Nat × List (List Int) × Nat × List zn × List zF × List Int
abbrev zmt:zbL→St:=fun (v44,v45,o0_0,o1_0,o2,c2,o3,c3,o4,o5,o6,o7,c7,o8,c8,o9,o10,o11)=>St.mk [(1,.bp 0 []),(2,.bp 1 []),(43,.ow 2),(44,.dat tI v44),(45,.dat tI v45)] [.bx (.fld (.pair tU (.pair (.sl zj) (.pair (.sl (.sl tI)) (.pair (.sl zm) (.pair (.sl zr) (.pair (.sl tI) .unit)))))) [.dat tU o0_0,.ow 2,.ow 3,.ow 4,.ow 5,.ow 6]) false,.bx (.fld (.pair tU (.pair (.sl zj) (.pair (.sl (.sl tI)) (.pair (.sl zm) (.pair (.sl zr) (.pair (.sl tI) .unit)))))) [.dat tU o1_0,.ow 7,.ow 8,.ow 9,.ow 10,.ow 11]) false,.drow zj o2 c2,.drow (.sl tI) o3 c3,.row zm o4 false,.row zr o5 false,.row tI o6 false,.drow zj o7 c7,.drow (.sl tI) o8 c8,.row zm o9 false,.row zr o10 false,.row tI o11 false]
abbrev zbM:Type:=Int × Int × Int × (List zg) × Int × List (List Int) × Nat × List zn × List zF × List Int × List zg × Nat × List (List Int) × Nat × List zn × List zF × List Int
abbrev zvT:zbM→St:=fun (v25,v26,o0_0,o0_1,o1_0,o2,c2,o3,o4,o5,o6,c6,o7,c7,o8,o9,o10)=>St.mk [(1,.bp 0 []),(2,.bp 1 []),(24,.ow 2),(25,.dat tI v25),(26,.dat tI v26)] [.bx (.fld (.pair tU (.pair (.sl zj) (.pair (.sl (.sl tI)) (.pair (.sl zm) (.pair (.sl zr) (.pair (.sl tI) .unit)))))) [.dat tU o0_0,.dat (.sl zj) o0_1,.ow 2,.ow 3,.ow 4,.ow 5]) false,.bx (.fld (.pair tU (.pair (.sl zj) (.pair (.sl (.sl tI)) (.pair (.sl zm) (.pair (.sl zr) (.pair (.sl tI) .unit)))))) [.dat tU o1_0,.ow 6,.ow 7,.ow 8,.ow 9,.ow 10]) false,.drow (.sl tI) o2 c2,.row zm o3 false,.row zr o4 false,.row tI o5 false,.drow zj o6 c6,.drow (.sl tI) o7 c7,.row zm o8 false,.row zr o9 false,.row tI o10 false]
def zbN (k1:zbL→Option (zd × Unit)):zbL→Option (zd × Unit):=fun (v44,v45,o0_0,o1_0,o2,c2,o3,c3,o4,o5,o6,o7,c7,o8,c8,o9,o10,o11) =>
  bif decide (v45 < v44) then inR v45 ((List.length o2):Int) (bif decide (c2 ≤ Int.toNat v45) then Option.bind (zhg ((ix za o2 v45).1,())) fun q6=>Option.bind (zhh ((ix za o2 v45).2.1,())) fun q7=>Option.bind (zhi ((ix za o2 v45).2.2.1,())) fun q8=>Option.bind (zhj ((ix za o2 v45).2.2.2.1,())) fun q9=>Option.bind (zdn ((ix za o2 v45).2.2.2.2.1,())) fun q10=>Option.bind (zjz ((ix za o2 v45).2.2.2.2.2.1,())) fun q11=>Option.bind (ziq ((ix za o2 v45).2.2.2.2.2.2.1,())) fun q12=>inR v45 ((List.length o2):Int) (bif decide (Int.toNat v45 = c2) then k1 (v44,wI (v45 + 1),o0_0,o1_0,List.set o2 (Int.toNat v45) (q6.1,q7.1,q8.1,q9.1,q10.1,q11.1,q12.1,(ix za o2 v45).2.2.2.2.2.2.2.1,(ix za o2 v45).2.2.2.2.2.2.2.2.1,()),c2 + 1,o3,c3,o4,o5,o6,o7,c7,o8,c8,o9,o10,o11) else none) else none) else bif decide (c2 = List.length o2) then bif decide (c3 = List.length o3) then some ((o0_0,o2,o3,o4,o5,o6,()),()) else none else none
abbrev zbO (K:Nat):zbL→Option (zd × Unit):=zl zbN K
theorem zvU (K:Nat):∀ n,evV Ed1 K Tryz.f49 3 (ch [zu]) [1,1,1,1,1,0,1,0] [] zmt n = zl zbN n:=zt fun n1 (v44,v45,o0_0,o1_0,o2,c2,o3,c3,o4,o5,o6,o7,c7,o8,c8,o9,o10,o11)=>by kernel_rfl
def yT (L1:zbL→Option (zd × Unit)) (k0:zbM→Option (zd × Unit)):zbM→Option (zd × Unit):=fun (v25,v26,o0_0,o0_1,o1_0,o2,c2,o3,o4,o5,o6,c6,o7,c7,o8,o9,o10) =>
  bif decide (v26 < v25) then inR v26 ((List.length o2):Int) (bif decide (c2 ≤ Int.toNat v26) then Option.bind (zeX (List.getD o2 (Int.toNat v26) ([]:List Int),())) fun q4=>inR v26 ((List.length o2):Int) (bif decide (Int.toNat v26 = c2) then k0 (v25,wI (v26 + 1),o0_0,o0_1,o1_0,List.set o2 (Int.toNat v26) q4.1,c2 + 1,o3,o4,o5,o6,c6,o7,c7,o8,o9,o10) else none) else none) else Option.bind (zgi (o0_1,())) fun q5=>L1 (((List.length q5.1):Int),0,o0_0,o1_0,q5.1,0,o2,c2,o3,o4,o5,o6,c6,o7,c7,o8,o9,o10)
abbrev zhy (K:Nat):zbM→Option (zd × Unit):=zl (fun k0=>yT (zbO K) k0) K
theorem zvV (K:Nat):∀ n,evV Ed1 K Tryz.f49 3 (ch [zu]) [1,1,1,0,1,0] [] zvT n = zl (fun k0=>yT (zbO K) k0) n:=zgC (B:=fun L1 k0=>yT L1 k0) (V1:=fun n0=>evV Ed1 K Tryz.f49 3 (ch [zu]) [1,1,1,1,1,0,1,0] [] zmt K) (W1:=fun k0=>(zbO K)) (fun n0=>zvU K K) fun n0 (v25,v26,o0_0,o0_1,o1_0,o2,c2,o3,o4,o5,o6,c6,o7,c7,o8,o9,o10)=>by kernel_rfl
def zf4 (L0:zbM→Option (zd × Unit)):(zd × Unit)→Option (zd × Unit):=fun (x0,()) =>
  Option.bind (zdp (x0.2.2.2.1,())) fun q0=>Option.bind (zgh (x0.2.2.2.2.1,())) fun q1=>Option.bind (zeX (x0.2.2.2.2.2.1,())) fun q2=>Option.bind (zhf (x0.2.2.1,())) fun q3=>L0 (((List.length q3.1):Int),0,x0.1,x0.2.1,0,q3.1,0,q0.1,q1.1,q2.1,[],0,[],0,[],[],[])
def qt:(zd × Unit)→Option (zd × Unit):=zf4 (zhy K0)
abbrev zpA:Fun:=⟨49,(ch [zu]),(ch [zu]),3,qt⟩
theorem zyD:Sq zpA:=ml1 (d:=true) (S:=fun K=>zf4 (zhy K)) Tryz.func49 (by kernel_rfl) (fun K=>tr1 (T:=zf4) (zvV K K) fun (x0,())=>by kernel_rfl) rfl
def zdD:((List Int) × (Int × (Int × ((Option ((Int × (Int × Unit))→Option (Int × (Int × Unit)))) × Unit))))→Option ((List Int) × (Int × Unit)):=fun (x0,x1,x2,x3,()) =>
  Option.bind (qL (x1,())) fun q0=>bif q0.1 then inR x1 (↑4:Int) (Option.bind x3 fun q1=>Option.bind (q1 (ix (0:Int) x0 x1,x2,())) fun q2=>bif q2.2.1 != 0 then some ([0,0,0,0],q2.2.1,()) else inR x1 (↑4:Int) (some (List.set x0 (Int.toNat x1) q2.1,0,()))) else some ([0,0,0,0],1,())
abbrev zpB:Fun:=⟨149,(ch [(.arr 4 tU),tI,tU,(.fn (ch [tU,tU]) (ch [tU,tI]))]),(ch [(.arr 4 tU),tI]),0,zdD⟩
theorem zyE:Sq zpB:=ms1 (d:=false) (K:=0) Tryz.func149 (by kernel_rfl) (funext fun (x0,x1,x2,x3,())=>by kernel_rfl)
def zbo:(Int × ((Option zf) × ((Option zz) × Unit)))→Option (Bool × Unit):=fun (x0,x1,x2,()) =>
  Option.bind x1 fun q0=>inR x0 ((List.length q0.1):Int) (Option.bind x2 fun q1=>Option.bind (zaC (ix qy q0.1 x0,q1,())) fun q2=>bif q2.1 then some (true,()) else some (false,()))
abbrev zpC:Fun:=⟨123,(ch [tI,(.ptr zw),(.ptr zy)]),(ch [.bool]),0,zbo⟩
theorem zyF:Sq zpC:=ms1 (d:=false) (K:=0) Tryz.func123 (by kernel_rfl) (funext fun (x0,x1,x2,())=>by kernel_rfl)
def zf5:(Int × ((Option zf) × ((Option zz) × Unit)))→Option (Bool × Unit):=fun (x0,x1,x2,()) =>
  Option.bind x1 fun q0=>inR x0 ((List.length q0.2.2.2.1):Int) (Option.bind (zep ((ix qR q0.2.2.2.1 x0).1,())) fun q1=>Option.bind x2 fun q2=>Option.bind (zaC (q1.1,q2,())) fun q3=>bif q3.1 then some (true,()) else some (false,()))
abbrev zpD:Fun:=⟨124,(ch [tI,(.ptr zw),(.ptr zy)]),(ch [.bool]),0,zf5⟩
theorem zyG:Sq zpD:=ms1 (d:=false) (K:=0) Tryz.func124 (by kernel_rfl) (funext fun (x0,x1,x2,())=>by kernel_rfl)
def vX:(zg × (zg × Unit))→Option (Bool × Unit):=fun (x0,x1,()) =>
  Option.bind (zhn (x0.1,x1.1,())) fun q0=>bif q0.1 then Option.bind (zhp (x0.2.1,x1.2.1,())) fun q1=>bif q1.1 then Option.bind (zhr (x0.2.2.1,x1.2.2.1,())) fun q2=>bif q2.1 then Option.bind (zht (x0.2.2.2.1,x1.2.2.2.1,())) fun q3=>bif q3.1 then Option.bind (zgk (x0.2.2.2.2.1,x1.2.2.2.2.1,())) fun q4=>bif q4.1 then Option.bind (zjB (x0.2.2.2.2.2.1,x1.2.2.2.2.2.1,())) fun q5=>bif q5.1 then Option.bind (zis (x0.2.2.2.2.2.2.1,x1.2.2.2.2.2.2.1,())) fun q6=>bif q6.1 then bif eqI (.arr 4 tU) x0.2.2.2.2.2.2.2.1 x1.2.2.2.2.2.2.2.1 then bif eqI (.arr 4 tU) x0.2.2.2.2.2.2.2.2.1 x1.2.2.2.2.2.2.2.2.1 then some (true,()) else some (false,()) else some (false,()) else some (false,()) else some (false,()) else some (false,()) else some (false,()) else some (false,()) else some (false,()) else some (false,())
abbrev zj1:Fun:=⟨131,(ch [zj,zj]),(ch [.bool]),0,vX⟩
theorem zsC:Sq zj1:=ms1 (d:=false) (K:=0) Tryz.func131 (by kernel_rfl) (funext fun (x0,x1,())=>by kernel_rfl)
abbrev L2:List Fun:=zk8 :: zfd :: zj0 :: zhv :: zmq :: zgL :: zfH :: znT :: zeb :: zib :: zk9 :: zrh :: zfe :: zfI :: zri :: zrj :: zfJ :: zjn :: zfK :: znU :: znV :: zff :: zs2 :: zrl :: zla :: zfg :: zlb :: zfh :: zlc :: zs3 :: zfN :: zgM :: zld :: zle :: zlf :: zmr :: zlg :: zms :: zvS :: zpA :: zpB :: zpC :: zpD :: zj1 :: L1
theorem h2:Sds Tryz.prog E0 L2:=⟨zt0,zlM,zsB,zoV,zvP,znS,zna,zxg,zkf,zqk,zt1,zAy,zlN,znb,zAz,zAA,znc,zrk,znd,zxh,zxi,zlO,zB9,zAB,zt2,zlP,zt3,zlQ,zt4,zCa,zne,znW,zt5,zt6,zt7,zvQ,zt8,zvR,zDR,zyD,zyE,zyF,zyG,zsC,h1⟩
theorem ms2 {d:Bool} {F:Fun} {f:Go.Func} {K:Nat} (hf:Tryz.prog.funcs[F.id]? = some f) (ho:jI f = true) (h:evF (En E0 d L2) K f F.md F.a F.r = F.spec):Sd Tryz.prog E0 F:=mkS h2 hf ho h
theorem ml2 {d:Bool} {F:Fun} {f:Go.Func} {S:Nat→F.a.I→Option F.r.I} (hf:Tryz.prog.funcs[F.id]? = some f) (ho:jI f = true) (h:∀ K,evF (En E0 d L2) K f F.md F.a F.r = S K) (e:S K0 = F.spec):Sd Tryz.prog E0 F:=mkS h2 hf ho ((h K0).trans e)
abbrev Es2:Env:=En E0 false L2
def ziQ:(zz × (zz × Unit))→Option (Int × Unit):=fun (x0,x1,()) =>
  Option.bind (zai (x0.1,x1.1,())) fun q0=>Option.bind (vL (x0.2.1,x1.2.1,())) fun q1=>Option.bind (zcJ (zi (zi (List.replicate 2 (0:Int)) 0 q0.1) 1 q1.1,())) fun q2=>some (q2.1,())
abbrev zs4:Fun:=⟨226,(ch [zy,zy]),(ch [tI]),0,ziQ⟩
theorem zCb:Sq zs4:=ms2 (d:=false) (K:=0) Tryz.func226 (by kernel_rfl) (funext fun (x0,x1,())=>by kernel_rfl)
def vZ:(zf × Unit)→Option (Bool × Unit):=fun (x0,()) =>
  Option.bind (ql (((List.length x0.2.1):Int),1,8,())) fun q0=>bif q0.1 then Option.bind (qB (x0.2.1,some fun z=>zbJ (z.1,some x0,()),())) fun q1=>bif q1.1 then some (false,()) else some (true,()) else some (false,())
abbrev zpE:Fun:=⟨152,(ch [zw]),(ch [.bool]),0,vZ⟩
theorem zyH:Sq zpE:=ms2 (d:=false) (K:=0) Tryz.func152 (by kernel_rfl) (funext fun (x0,())=>by kernel_rfl)
def zkg:(ByteArray × ((Option ((Int × Unit)→Option (Bool × Unit))) × Unit))→Option (Bool × Unit):=fun (x0,x1,()) =>
  Option.bind (j7 (List.map (fun b=>(↑(UInt8.toNat b):Int)) (Array.toList (ByteArray.data x0)),some fun z=>zg4 (z.1,some x1,()),())) fun q0=>bif q0.1 then some (false,()) else some (true,())
abbrev zvW:Fun:=⟨245,(ch [.str,(.fn (ch [(.int .u8)]) (ch [.bool]))]),(ch [.bool]),0,zkg⟩
theorem zDS:Sq zvW:=ms2 (d:=false) (K:=0) Tryz.func245 (by kernel_rfl) (funext fun (x0,x1,())=>by kernel_rfl)
abbrev zaW:Type:=Int × (List qb) × Int × Int × zf × Int
abbrev zt9:zaW→St:=fun (v4,v11,v12,v13,o0,o1)=>St.mk [(1,.bp 0 []),(3,.bp 1 []),(4,.dat tI v4),(11,.dat (.sl zaP) v11),(12,.dat tI v12),(13,.dat tI v13)] [.bx (.dat zw o0) false,.bx (.dat tU o1) false]
def zaX (k0:zaW→Option (Bool × Unit)):zaW→Option (Bool × Unit):=fun (v4,v11,v12,v13,o0,o1) =>
  bif decide (v13 < v12) then inR v13 ((List.length v11):Int) (Option.bind (zep ((ix qR v11 v13).1,())) fun q0=>bif q0.2.1 != 0 then some (false,()) else bif decide ((ix qR v11 v13).1 ≤ v4) then some (false,()) else Option.bind (ql ((ix qR v11 v13).2.1,0,wI (((List.length o0.2.2.1):Int) - 1),())) fun q1=>bif q1.1 then Option.bind (zbg (o0.1,q0.1,())) fun q2=>bif q2.1 then k0 ((ix qR v11 v13).1,v11,v12,wI (v13 + 1),o0,wU (↑(BitVec.toNat (BitVec.ofInt (IntKind.bits IntKind.u64) o1 ||| BitVec.ofInt (IntKind.bits IntKind.u64) q0.1.2.1)):Int)) else some (false,()) else some (false,())) else bif decide (((List.length o0.2.2.2.1):Int) ≤ 8) then Option.bind (yb (o0.1,some fun z=>zgg (z.1,some o1,()),())) fun q3=>bif q3.1 then some (false,()) else some (true,()) else some (false,())
abbrev zlh (K:Nat):zaW→Option (Bool × Unit):=zl zaX K
theorem zua (K:Nat):∀ n,evV Es2 K Tryz.f154 0 (ch [.bool]) [1,1,1,0,1,0] [] zt9 n = zl zaX n:=zt fun n0 (v4,v11,v12,v13,o0,o1)=>by kernel_rfl
def ziv (L0:zaW→Option (Bool × Unit)):(zf × Unit)→Option (Bool × Unit):=fun (x0,()) =>
  L0 ((-1),x0.2.2.2.1,((List.length x0.2.2.2.1):Int),0,x0,0)
def vq:(zf × Unit)→Option (Bool × Unit):=ziv (zlh K0)
abbrev znX:Fun:=⟨154,(ch [zw]),(ch [.bool]),0,vq⟩
theorem zxj:Sq znX:=ml2 (d:=false) (S:=fun K=>ziv (zlh K)) Tryz.func154 (by kernel_rfl) (fun K=>tr1 (T:=ziv) (zua K K) fun (x0,())=>by kernel_rfl) rfl
abbrev zaY:Type:=Int × (List zad) × Int × Int
abbrev zub:zaY→St:=fun (v3,v23,v24,v25)=>St.mk [(3,.dat tU v3),(23,.dat (.sl zcH) v23),(24,.dat tI v24),(25,.dat tI v25)] []
def zdw (k0:zaY→Option (Bool × Unit)):zaY→Option (Bool × Unit):=fun (v3,v23,v24,v25) =>
  bif decide (v25 < v24) then inR v25 ((List.length v23):Int) (bif decide ((ix qz v23 v25).2.2.2.2.2.1 > v3) then some (false,()) else Option.bind (zg6 (ix qz v23 v25,())) fun q0=>Option.bind (qB (q0.1,some zdu,())) fun q1=>bif q1.1 then some (false,()) else k0 (wU (v3 - (ix qz v23 v25).2.2.2.2.2.1),v23,v24,wI (v25 + 1))) else some (true,())
abbrev zgs (K:Nat):zaY→Option (Bool × Unit):=zl zdw K
theorem zuc (K:Nat):∀ n,evV Es2 K Tryz.f155 0 (ch [.bool]) [1,1,1,0,1,0] [] zub n = zl zdw n:=zt fun n0 (v3,v23,v24,v25)=>by kernel_rfl
def ze1 (L0:zaY→Option (Bool × Unit)):(zf × Unit)→Option (Bool × Unit):=fun (x0,()) =>
  bif ((List.length x0.2.2.2.2.1):Int) != ((List.length x0.1):Int) then some (false,()) else bif decide (0 < ((List.length x0.2.2.2.2.1):Int)) then bif decide ((ix qz x0.2.2.2.2.1 0).1 < 1) then some (false,()) else L0 (4611686018427387904,x0.2.2.2.2.1,((List.length x0.2.2.2.2.1):Int),0) else none
def vt:(zf × Unit)→Option (Bool × Unit):=ze1 (zgs K0)
abbrev znY:Fun:=⟨155,(ch [zw]),(ch [.bool]),0,vt⟩
theorem zxk:Sq znY:=ml2 (d:=false) (S:=fun K=>ze1 (zgs K)) Tryz.func155 (by kernel_rfl) (fun K=>tr1 (T:=ze1) (zuc K K) fun (x0,())=>by kernel_rfl) rfl
def zfq:((List zg) × ((Option ((zg × Unit)→Option (Bool × Unit))) × Unit))→Option (Bool × Unit):=fun (x0,x1,()) =>
  Option.bind (jL (x0,some fun z=>za9 (z.1,some x1,()),())) fun q0=>bif q0.1 then some (false,()) else some (true,())
abbrev zj2:Fun:=⟨82,(ch [(.sl zj),(.fn (ch [zj]) (ch [.bool]))]),(ch [.bool]),0,zfq⟩
theorem zsD:Sq zj2:=ms2 (d:=false) (K:=0) Tryz.func82 (by kernel_rfl) (funext fun (x0,x1,())=>by kernel_rfl)
abbrev zcR:Type:=(List z8) × (List z8) × Int × Int
abbrev zxl:zcR→St:=fun (v0,v5,v6,v7)=>St.mk [(0,.dat (.sl zW) v0),(5,.dat (.sl zW) v5),(6,.dat tI v6),(7,.dat tI v7)] []
def zcS (k0:zcR→Option (Bool × Unit)):zcR→Option (Bool × Unit):=fun (v0,v5,v6,v7) =>
  bif decide (v7 < v6) then inR v7 ((List.length v5):Int) (Option.bind (zhw (ix vE v5 v7,())) fun q0=>bif q0.1 then some (false,()) else bif (ix vE v5 v7).1 then Option.bind (zhx (v0,(ix vE v5 v7).2.1,(ix vE v5 v7).2.2.2.1,())) fun q1=>bif q1.1 != v7 then some (false,()) else k0 (v0,v5,v6,wI (v7 + 1)) else k0 (v0,v5,v6,wI (v7 + 1))) else some (true,())
abbrev znZ (K:Nat):zcR→Option (Bool × Unit):=zl zcS K
theorem zxm (K:Nat):∀ n,evV Es2 K Tryz.f85 0 (ch [.bool]) [1,0,1,0] [] zxl n = zl zcS n:=zt fun n0 (v0,v5,v6,v7)=>by kernel_rfl
def zli (L0:zcR→Option (Bool × Unit)):((List z8) × Unit)→Option (Bool × Unit):=fun (x0,()) =>
  L0 (x0,x0,((List.length x0):Int),0)
def zlj:((List z8) × Unit)→Option (Bool × Unit):=zli (znZ K0)
abbrev zrn:Fun:=⟨85,(ch [(.sl zW)]),(ch [.bool]),0,zlj⟩
theorem zAE:Sq zrn:=ml2 (d:=false) (S:=fun K=>zli (znZ K)) Tryz.func85 (by kernel_rfl) (fun K=>tr1 (T:=zli) (zxm K K) fun (x0,())=>by kernel_rfl) rfl
def ziR:(zp × Unit)→Option (Bool × Unit):=fun (x0,()) =>
  Option.bind (zeW (x0.2.1,())) fun q0=>bif q0.1 then Option.bind (zeW (x0.2.2.1,())) fun q1=>bif q1.1 then bif x0.2.1 != x0.2.2.1 then Option.bind (zfL (x0.2.2.2.1,())) fun q2=>bif q2.1 then Option.bind (zfL (x0.2.2.2.2.1,())) fun q3=>bif q3.1 then Option.bind (zes (x0.2.2.2.1,())) fun q4=>bif q4.1 then Option.bind (zes (x0.2.2.2.2.1,())) fun q5=>bif q5.1 then some (false,()) else some (true,()) else some (true,()) else some (false,()) else some (false,()) else some (false,()) else some (false,()) else some (false,())
abbrev zs5:Fun:=⟨189,(ch [zv]),(ch [.bool]),0,ziR⟩
theorem zCc:Sq zs5:=ms2 (d:=false) (K:=0) Tryz.func189 (by kernel_rfl) (funext fun (x0,())=>by kernel_rfl)
def zfO:(Int × (Int × (Int × Unit)))→Option (Int × (Int × Unit)):=fun (x0,x1,x2,()) =>
  bif x0 != 1 then bif x0 != 2 then some (0,1,()) else bif x1 == 0 then some (0,1,()) else bif x2 == 0 then some (0,1,()) else Option.bind (zez (x1,x2,())) fun q0=>bif q0.2.1 != 0 then some (0,q0.2.1,()) else bif x0 == 2 then some (x1,0,()) else some (q0.1,0,()) else bif x1 == 0 then some (0,1,()) else bif x2 == 0 then some (0,1,()) else Option.bind (zez (x1,x2,())) fun q1=>bif q1.2.1 != 0 then some (0,q1.2.1,()) else bif x0 == 2 then some (x1,0,()) else some (q1.1,0,())
abbrev zs6:Fun:=⟨263,(ch [tI,tU,tU]),(ch [tU,tI]),0,zfO⟩
theorem zCd:Sq zs6:=ms2 (d:=false) (K:=0) Tryz.func263 (by kernel_rfl) (funext fun (x0,x1,x2,())=>by kernel_rfl)
def zf6:(zF × (zF × Unit))→Option (Int × Unit):=fun (x0,x1,()) =>
  Option.bind (vL (x0.1,x1.1,())) fun q0=>Option.bind (zai (x0.2.1,x1.2.1,())) fun q1=>Option.bind (zcJ (zi (zi (List.replicate 2 (0:Int)) 0 q0.1) 1 q1.1,())) fun q2=>some (q2.1,())
abbrev zpF:Fun:=⟨194,(ch [zr,zr]),(ch [tI]),0,zf6⟩
theorem zyI:Sq zpF:=ms2 (d:=false) (K:=0) Tryz.func194 (by kernel_rfl) (funext fun (x0,x1,())=>by kernel_rfl)
def zfr:((List zn) × ((Option ((zn × Unit)→Option (Bool × Unit))) × Unit))→Option (Bool × Unit):=fun (x0,x1,()) =>
  Option.bind (jM (x0,some fun z=>zbd (z.1,some x1,()),())) fun q0=>bif q0.1 then some (false,()) else some (true,())
abbrev zj3:Fun:=⟨93,(ch [(.sl zm),(.fn (ch [zm]) (ch [.bool]))]),(ch [.bool]),0,zfr⟩
theorem zsE:Sq zj3:=ms2 (d:=false) (K:=0) Tryz.func93 (by kernel_rfl) (funext fun (x0,x1,())=>by kernel_rfl)
def zcz:((List zF) × ((Option ((zF × Unit)→Option (Bool × Unit))) × Unit))→Option (Bool × Unit):=fun (x0,x1,()) =>
  Option.bind (jN (x0,some fun z=>zbe (z.1,some x1,()),())) fun q0=>bif q0.1 then some (false,()) else some (true,())
abbrev zj4:Fun:=⟨97,(ch [(.sl zr),(.fn (ch [zr]) (ch [.bool]))]),(ch [.bool]),0,zcz⟩
theorem zsF:Sq zj4:=ms2 (d:=false) (K:=0) Tryz.func97 (by kernel_rfl) (funext fun (x0,x1,())=>by kernel_rfl)
def yU:((List Int) × ((Option ((Int × Unit)→Option (Bool × Unit))) × Unit))→Option (Bool × Unit):=fun (x0,x1,()) =>
  Option.bind (qB (x0,some fun z=>zcx (z.1,some x1,()),())) fun q0=>bif q0.1 then some (false,()) else some (true,())
abbrev zmu:Fun:=⟨99,(ch [(.sl tI),(.fn (ch [tI]) (ch [.bool]))]),(ch [.bool]),0,yU⟩
theorem zvX:Sq zmu:=ms2 (d:=false) (K:=0) Tryz.func99 (by kernel_rfl) (funext fun (x0,x1,())=>by kernel_rfl)
def vN:(qb × ((Option qK) × ((Option Int) × Unit)))→Option (Bool × Unit):=fun (x0,x1,x2,()) =>
  Option.bind x1 fun q0=>Option.bind (zdC (q0.2.1,x0,())) fun q1=>bif q1.1 then Option.bind x1 fun q2=>Option.bind x2 fun q3=>Option.bind (zfM (q2,x0.1,q3,())) fun q4=>bif q4.1 then some (true,()) else some (false,()) else some (false,())
abbrev zmv:Fun:=⟨200,(ch [zX,(.ptr qe),(.ptr tI)]),(ch [.bool]),0,vN⟩
theorem zvY:Sq zmv:=ms2 (d:=false) (K:=0) Tryz.func200 (by kernel_rfl) (funext fun (x0,x1,x2,())=>by kernel_rfl)
def zgt:((List z8) × ((Option ((z8 × Unit)→Option (Bool × Unit))) × Unit))→Option (Bool × Unit):=fun (x0,x1,()) =>
  Option.bind (j8 (x0,some fun z=>zbD (z.1,some x1,()),())) fun q0=>bif q0.1 then some (false,()) else some (true,())
abbrev zlk:Fun:=⟨102,(ch [(.sl zW),(.fn (ch [zW]) (ch [.bool]))]),(ch [.bool]),0,zgt⟩
theorem zud:Sq zlk:=ms2 (d:=false) (K:=0) Tryz.func102 (by kernel_rfl) (funext fun (x0,x1,())=>by kernel_rfl)
def yr:((List qc) × ((Option ((qc × Unit)→Option (Bool × Unit))) × Unit))→Option (Bool × Unit):=fun (x0,x1,()) =>
  Option.bind (jg (x0,some fun z=>zbF (z.1,some x1,()),())) fun q0=>bif q0.1 then some (false,()) else some (true,())
abbrev zll:Fun:=⟨104,(ch [(.sl zV),(.fn (ch [zV]) (ch [.bool]))]),(ch [.bool]),0,yr⟩
theorem zue:Sq zll:=ms2 (d:=false) (K:=0) Tryz.func104 (by kernel_rfl) (funext fun (x0,x1,())=>by kernel_rfl)
def zhz:((List qb) × ((Option ((qb × Unit)→Option (Bool × Unit))) × Unit))→Option (Bool × Unit):=fun (x0,x1,()) =>
  Option.bind (vp (x0,some fun z=>zcy (z.1,some x1,()),())) fun q0=>bif q0.1 then some (false,()) else some (true,())
abbrev zmw:Fun:=⟨106,(ch [(.sl zX),(.fn (ch [zX]) (ch [.bool]))]),(ch [.bool]),0,zhz⟩
theorem zvZ:Sq zmw:=ms2 (d:=false) (K:=0) Tryz.func106 (by kernel_rfl) (funext fun (x0,x1,())=>by kernel_rfl)
def vc:(qr × ((Option qK) × ((Option Int) × Unit)))→Option (Bool × Unit):=fun (x0,x1,x2,()) =>
  bif x0.1 then Option.bind x1 fun q0=>Option.bind x2 fun q1=>Option.bind (zfM (q0,x0.2.1,q1,())) fun q2=>bif q2.1 then Option.bind x1 fun q3=>Option.bind (qM (q3,x0.2.2.1,())) fun q4=>bif q4.1 then Option.bind x1 fun q5=>Option.bind (qM (q5,x0.2.2.2.1,())) fun q6=>bif q6.1 then some (true,()) else some (false,()) else some (false,()) else some (false,()) else some (true,())
abbrev zlm:Fun:=⟨109,(ch [z4,(.ptr qe),(.ptr tI)]),(ch [.bool]),0,vc⟩
theorem zuf:Sq zlm:=ms2 (d:=false) (K:=0) Tryz.func109 (by kernel_rfl) (funext fun (x0,x1,x2,())=>by kernel_rfl)
def yt:((List qr) × ((Option ((qr × Unit)→Option (Bool × Unit))) × Unit))→Option (Bool × Unit):=fun (x0,x1,()) =>
  Option.bind (jh (x0,some fun z=>zbH (z.1,some x1,()),())) fun q0=>bif q0.1 then some (false,()) else some (true,())
abbrev zln:Fun:=⟨108,(ch [(.sl z4),(.fn (ch [z4]) (ch [.bool]))]),(ch [.bool]),0,yt⟩
theorem zug:Sq zln:=ms2 (d:=false) (K:=0) Tryz.func108 (by kernel_rfl) (funext fun (x0,x1,())=>by kernel_rfl)
def qE:((List zp) × ((Option ((zp × Unit)→Option (Bool × Unit))) × Unit))→Option (Bool × Unit):=fun (x0,x1,()) =>
  Option.bind (qY (x0,some fun z=>zbf (z.1,some x1,()),())) fun q0=>bif q0.1 then some (false,()) else some (true,())
abbrev zj5:Fun:=⟨111,(ch [(.sl zv),(.fn (ch [zv]) (ch [.bool]))]),(ch [.bool]),0,qE⟩
theorem zsG:Sq zj5:=ms2 (d:=false) (K:=0) Tryz.func111 (by kernel_rfl) (funext fun (x0,x1,())=>by kernel_rfl)
abbrev yj:Type:=(Option zbB) × Int × Int × List Int
abbrev zql:yj→St:=fun (v0,v12,v13,o0)=>St.mk [(0,.dat (.ptr vF) v0),(3,.ow 0),(12,.dat tI v12),(13,.dat tI v13)] [.row tI o0 false]
def yk (k0:yj→Option ((List Int) × Unit)):yj→Option ((List Int) × Unit):=fun (v0,v12,v13,o0) =>
  bif decide (v13 < v12) then Option.bind (vM (v0,v13,())) fun q2=>bif q2.1 then bif decide (List.length o0 + List.length (zi (List.replicate 1 (0:Int)) 0 v13) ≤ lim) then k0 (v0,v12,wI (v13 + 1),o0 ++ zi (List.replicate 1 (0:Int)) 0 v13) else none else k0 (v0,v12,wI (v13 + 1),o0) else some (o0,())
abbrev zic (K:Nat):yj→Option ((List Int) × Unit):=zl yk K
theorem zqm (K:Nat):∀ n,evV Es2 K Tryz.f116 0 (ch [(.sl tI)]) [1,1,1,0,1,0] [] zql n = zl yk n:=zt fun n0 (v0,v12,v13,o0)=>by kernel_rfl
def zfs (L0:yj→Option ((List Int) × Unit)):((Option zbB) × Unit)→Option ((List Int) × Unit):=fun (x0,()) =>
  Option.bind (zdo (x0,())) fun q0=>bif q0.1 then Option.bind x0 fun q1=>L0 (x0,((List.length q1.1):Int),0,[]) else some ([],())
def zcA:((Option zbB) × Unit)→Option ((List Int) × Unit):=zfs (zic K0)
abbrev zj6:Fun:=⟨116,(ch [(.ptr vF)]),(ch [(.sl tI)]),0,zcA⟩
theorem zsH:Sq zj6:=ml2 (d:=false) (S:=fun K=>zfs (zic K)) Tryz.func116 (by kernel_rfl) (fun K=>tr1 (T:=zfs) (zqm K K) fun (x0,())=>by kernel_rfl) rfl
def zkh:((List zn) × Unit)→Option ((Option zdd) × Unit):=fun (x0,()) =>
  Option.bind (zgr (x0,some zhe,())) fun q0=>some (q0.1,())
abbrev zv0:Fun:=⟨212,(ch [(.sl zm)]),(ch [(.ptr yA)]),0,zkh⟩
theorem zDT:Sq zv0:=ms2 (d:=false) (K:=0) Tryz.func212 (by kernel_rfl) (funext fun (x0,())=>by kernel_rfl)
abbrev yl:Type:=(Option zdd) × Int × Int × List Int
abbrev zqn:yl→St:=fun (v0,v12,v13,o0)=>St.mk [(0,.dat (.ptr yA) v0),(3,.ow 0),(12,.dat tI v12),(13,.dat tI v13)] [.row tI o0 false]
def ym (k0:yl→Option ((List Int) × Unit)):yl→Option ((List Int) × Unit):=fun (v0,v12,v13,o0) =>
  bif decide (v13 < v12) then Option.bind (zec (v0,v13,())) fun q2=>bif q2.1 then bif decide (List.length o0 + List.length (zi (List.replicate 1 (0:Int)) 0 v13) ≤ lim) then k0 (v0,v12,wI (v13 + 1),o0 ++ zi (List.replicate 1 (0:Int)) 0 v13) else none else k0 (v0,v12,wI (v13 + 1),o0) else some (o0,())
abbrev zid (K:Nat):yl→Option ((List Int) × Unit):=zl ym K
theorem zqo (K:Nat):∀ n,evV Es2 K Tryz.f213 0 (ch [(.sl tI)]) [1,1,1,0,1,0] [] zqn n = zl ym n:=zt fun n0 (v0,v12,v13,o0)=>by kernel_rfl
def zft (L0:yl→Option ((List Int) × Unit)):((Option zdd) × Unit)→Option ((List Int) × Unit):=fun (x0,()) =>
  Option.bind (zdq (x0,())) fun q0=>bif q0.1 then Option.bind x0 fun q1=>L0 (x0,((List.length q1.1):Int),0,[]) else some ([],())
def zfu:((Option zdd) × Unit)→Option ((List Int) × Unit):=zft (zid K0)
abbrev zj7:Fun:=⟨213,(ch [(.ptr yA)]),(ch [(.sl tI)]),0,zfu⟩
theorem zsI:Sq zj7:=ml2 (d:=false) (S:=fun K=>zft (zid K)) Tryz.func213 (by kernel_rfl) (fun K=>tr1 (T:=zft) (zqo K K) fun (x0,())=>by kernel_rfl) rfl
def ziS:((List zp) × Unit)→Option ((Option zbB) × Unit):=fun (x0,()) =>
  Option.bind (yq (x0,some zf1,())) fun q0=>some (q0.1,())
abbrev zs7:Fun:=⟨120,(ch [(.sl zv)]),(ch [(.ptr vF)]),0,ziS⟩
theorem zCe:Sq zs7:=ms2 (d:=false) (K:=0) Tryz.func120 (by kernel_rfl) (funext fun (x0,())=>by kernel_rfl)
abbrev zaZ:Type:=Int × (Option ((zg × Unit)→Option ((List Int) × Unit))) × (List zg) × Int × Int × List Int
abbrev zuh:zaZ→St:=fun (v1,v2,v12,v13,v14,o0)=>St.mk [(1,.dat tI v1),(2,.dat (.fn (.pair zj .unit) (.pair (.arr 4 tU) .unit)) v2),(8,.ow 0),(12,.dat (.sl zj) v12),(13,.dat tI v13),(14,.dat tI v14)] [.row tU o0 false]
def za0 (k0:zaZ→Option (Int × (Int × Unit))):zaZ→Option (Int × (Int × Unit)):=fun (v1,v2,v12,v13,v14,o0) =>
  bif decide (v14 < v13) then inR v14 ((List.length v12):Int) (Option.bind v2 fun q0=>Option.bind (q0 (ix za v12 v14,())) fun q1=>inR v1 (↑4:Int) (bif decide (List.length o0 + List.length (zi (List.replicate 1 (0:Int)) 0 (ix (0:Int) q1.1 v1)) ≤ lim) then k0 (v1,v2,v12,v13,wI (v14 + 1),o0 ++ zi (List.replicate 1 (0:Int)) 0 (ix (0:Int) q1.1 v1)) else none)) else Option.bind (ze0 (o0,())) fun q2=>some (q2.1,q2.2.1,())
abbrev zlo (K:Nat):zaZ→Option (Int × (Int × Unit)):=zl za0 K
theorem zui (K:Nat):∀ n,evV Es2 K Tryz.f209 0 (ch [tU,tI]) [1,1,0,1,0] [] zuh n = zl za0 n:=zt fun n0 (v1,v2,v12,v13,v14,o0)=>by kernel_rfl
def ziw (L0:zaZ→Option (Int × (Int × Unit))):(zd × (Int × ((Option ((zg × Unit)→Option ((List Int) × Unit))) × Unit)))→Option (Int × (Int × Unit)):=fun (x0,x1,x2,()) =>
  L0 (x1,x2,x0.2.1,((List.length x0.2.1):Int),0,[])
def ze2:(zd × (Int × ((Option ((zg × Unit)→Option ((List Int) × Unit))) × Unit)))→Option (Int × Int × Unit):=ziw (zlo K0)
abbrev zn0:Fun:=⟨209,(ch [zu,tI,(.fn (ch [zj]) (ch [(.arr 4 tU)]))]),(ch [tU,tI]),0,ze2⟩
theorem zxn:Sq zn0:=ml2 (d:=false) (S:=fun K=>ziw (zlo K)) Tryz.func209 (by kernel_rfl) (fun K=>tr1 (T:=ziw) (zui K K) fun (x0,x1,x2,())=>by kernel_rfl) rfl
def zcp:((List Int) × (Int × (Int × Unit)))→Option ((List Int) × (Int × Unit)):=fun (x0,x1,x2,()) =>
  Option.bind (zdD (x0,x1,x2,some zdT,())) fun q0=>some (q0.1,q0.2.1,())
abbrev zs8:Fun:=⟨54,(ch [(.arr 4 tU),tI,tU]),(ch [(.arr 4 tU),tI]),0,zcp⟩
theorem zCf:Sq zs8:=ms2 (d:=false) (K:=0) Tryz.func54 (by kernel_rfl) (funext fun (x0,x1,x2,())=>by kernel_rfl)
def zcq:((List Int) × (Int × (Int × Unit)))→Option ((List Int) × (Int × Unit)):=fun (x0,x1,x2,()) =>
  Option.bind (zdD (x0,x1,x2,some zaR,())) fun q0=>some (q0.1,q0.2.1,())
abbrev zs9:Fun:=⟨52,(ch [(.arr 4 tU),tI,tU]),(ch [(.arr 4 tU),tI]),0,zcq⟩
theorem zCg:Sq zs9:=ms2 (d:=false) (K:=0) Tryz.func52 (by kernel_rfl) (funext fun (x0,x1,x2,())=>by kernel_rfl)
def zhA:(zd × (zd × Unit))→Option (Bool × Unit):=fun (x0,x1,()) =>
  bif x0.1 == x1.1 then Option.bind (zds (x0.2.1,x1.2.1,some vX,())) fun q0=>bif q0.1 then Option.bind (zd7 (x0.2.2.1,x1.2.2.1,some zaG,())) fun q1=>bif q1.1 then Option.bind (zgo (x0.2.2.2.1,x1.2.2.2.1,())) fun q2=>bif q2.1 then Option.bind (zgq (x0.2.2.2.2.1,x1.2.2.2.2.1,())) fun q3=>bif q3.1 then Option.bind (zaG (x0.2.2.2.2.2.1,x1.2.2.2.2.2.1,())) fun q4=>bif q4.1 then some (true,()) else some (false,()) else some (false,()) else some (false,()) else some (false,()) else some (false,()) else some (false,())
abbrev zro:Fun:=⟨46,(ch [zu,zu]),(ch [.bool]),0,zhA⟩
theorem zAF:Sq zro:=ms2 (d:=false) (K:=0) Tryz.func46 (by kernel_rfl) (funext fun (x0,x1,())=>by kernel_rfl)
abbrev L3:List Fun:=zs4 :: zpE :: zvW :: znX :: znY :: zj2 :: zrn :: zs5 :: zs6 :: zpF :: zj3 :: zj4 :: zmu :: zmv :: zlk :: zll :: zmw :: zlm :: zln :: zj5 :: zj6 :: zv0 :: zj7 :: zs7 :: zn0 :: zs8 :: zs9 :: zro :: L2
theorem h3:Sds Tryz.prog E0 L3:=⟨zCb,zyH,zDS,zxj,zxk,zsD,zAE,zCc,zCd,zyI,zsE,zsF,zvX,zvY,zud,zue,zvZ,zuf,zug,zsG,zsH,zDT,zsI,zCe,zxn,zCf,zCg,zAF,h2⟩
theorem ms3 {d:Bool} {F:Fun} {f:Go.Func} {K:Nat} (hf:Tryz.prog.funcs[F.id]? = some f) (ho:jI f = true) (h:evF (En E0 d L3) K f F.md F.a F.r = F.spec):Sd Tryz.prog E0 F:=mkS h3 hf ho h
theorem ml3 {d:Bool} {F:Fun} {f:Go.Func} {S:Nat→F.a.I→Option F.r.I} (hf:Tryz.prog.funcs[F.id]? = some f) (ho:jI f = true) (h:∀ K,evF (En E0 d L3) K f F.md F.a F.r = S K) (e:S K0 = F.spec):Sd Tryz.prog E0 F:=mkS h3 hf ho ((h K0).trans e)
abbrev Es3:Env:=En E0 false L3
abbrev za1:Type:=Int × zf
abbrev zuj:za1→St:=fun (v4,o0)=>St.mk [(1,.bp 0 []),(4,.dat tI v4)] [.bx (.dat zw o0) false]
def zdx (k0:za1→Option (Bool × Unit)):za1→Option (Bool × Unit):=fun (v4,o0) =>
  bif decide (v4 < ((List.length o0.1):Int)) then inR (wI (v4 - 1)) ((List.length o0.1):Int) (inR v4 ((List.length o0.1):Int) (Option.bind (ziQ (List.getD o0.1 (Int.toNat (wI (v4 - 1))) (ze zy),ix qy o0.1 v4,())) fun q2=>bif decide (q2.1 ≥ 0) then some (false,()) else k0 (wI (v4 + 1),o0))) else some (true,())
abbrev zgu (K:Nat):za1→Option (Bool × Unit):=zl zdx K
theorem zuk (K:Nat):∀ n,evV Es3 K Tryz.f151 0 (ch [.bool]) [1,1,1,0,1,0] [] zuj n = zl zdx n:=zt fun n0 (v4,o0)=>by kernel_rfl
def ze3 (L0:za1→Option (Bool × Unit)):(zf × Unit)→Option (Bool × Unit):=fun (x0,()) =>
  Option.bind (ql (((List.length x0.1):Int),1,8,())) fun q0=>bif q0.1 then bif decide (0 < ((List.length x0.1):Int)) then bif !eqI zy (ix qy x0.1 0) (ze zy) then some (false,()) else Option.bind (yb (x0.1,some zdt,())) fun q1=>bif q1.1 then some (false,()) else L0 (1,x0) else none else some (false,())
def vu:(zf × Unit)→Option (Bool × Unit):=ze3 (zgu K0)
abbrev zn1:Fun:=⟨151,(ch [zw]),(ch [.bool]),0,vu⟩
theorem zxo:Sq zn1:=ml3 (d:=false) (S:=fun K=>ze3 (zgu K)) Tryz.func151 (by kernel_rfl) (fun K=>tr1 (T:=ze3) (zuk K K) fun (x0,())=>by kernel_rfl) rfl
def za2:(ByteArray × Unit)→Option (Bool × Unit):=fun (x0,()) =>
  bif decide ((↑(ByteArray.size x0):Int) < 1) then some (false,()) else bif decide ((↑(ByteArray.size x0):Int) > 12) then some (false,()) else bif decide (0 < (↑(ByteArray.size x0):Int)) then Option.bind (zen ((↑(UInt8.toNat (List.getD (Array.toList (ByteArray.data x0)) (Int.toNat 0) 0)):Int),())) fun q0=>bif q0.1 then Option.bind (zkg (x0,some zeY,())) fun q1=>bif q1.1 then some (true,()) else some (false,()) else some (false,()) else none
abbrev zrp:Fun:=⟨180,(ch [.str]),(ch [.bool]),0,za2⟩
theorem zAG:Sq zrp:=ms3 (d:=false) (K:=0) Tryz.func180 (by kernel_rfl) (funext fun (x0,())=>by kernel_rfl)
def ziT:(ByteArray × Unit)→Option (Bool × Unit):=fun (x0,()) =>
  bif decide ((↑(ByteArray.size x0):Int) ≥ 1) then bif decide ((↑(ByteArray.size x0):Int) ≤ 40) then Option.bind (zkg (x0,some zg9,())) fun q0=>bif q0.1 then Option.bind (zeZ (x0,ByteArray.mk #[32],())) fun q1=>bif ByteArray.toList q1.1 == ByteArray.toList x0 then some (true,()) else some (false,()) else some (false,()) else some (false,()) else some (false,())
abbrev zta:Fun:=⟨257,(ch [.str]),(ch [.bool]),0,ziT⟩
theorem zCh:Sq zta:=ms3 (d:=false) (K:=0) Tryz.func257 (by kernel_rfl) (funext fun (x0,())=>by kernel_rfl)
def zed:(zp × Unit)→Option (Bool × Unit):=fun (x0,()) =>
  bif x0.1 then Option.bind (ziR (x0,())) fun q0=>bif q0.1 then some (false,()) else some (true,()) else bif !eqI zv x0 (ze zv) then some (true,()) else some (false,())
abbrev zmx:Fun:=⟨188,(ch [zv]),(ch [.bool]),0,zed⟩
theorem zv1:Sq zmx:=ms3 (d:=false) (K:=0) Tryz.func188 (by kernel_rfl) (funext fun (x0,())=>by kernel_rfl)
def zki:(zn × Unit)→Option (Bool × Unit):=fun (x0,()) =>
  Option.bind (zfO (x0.2.2.2.1,x0.2.2.2.2.2.2.2.1,x0.2.2.2.2.2.2.1,())) fun q0=>bif q0.2.1 == 0 then bif q0.1 == x0.2.2.2.2.2.2.2.2.1 then Option.bind (zje (x0.2.1,())) fun q1=>bif q1.1 then Option.bind (zje (x0.2.2.1,())) fun q2=>bif q2.1 then Option.bind (qL (x0.2.2.2.2.1,())) fun q3=>bif q3.1 then Option.bind (qL (x0.2.2.2.2.2.1,())) fun q4=>bif q4.1 then bif x0.2.2.2.2.1 != x0.2.2.2.2.2.1 then bif decide (x0.2.2.2.2.2.2.2.2.2.1 ≥ 0) then some (true,()) else some (false,()) else some (false,()) else some (false,()) else some (false,()) else some (false,()) else some (false,()) else some (false,()) else some (false,())
abbrev zv2:Fun:=⟨192,(ch [zm]),(ch [.bool]),0,zki⟩
theorem zDU:Sq zv2:=ms3 (d:=false) (K:=0) Tryz.func192 (by kernel_rfl) (funext fun (x0,())=>by kernel_rfl)
def ziU:(zF × Unit)→Option (Bool × Unit):=fun (x0,()) =>
  bif decide (x0.1 > 4611686018427387904) then some (false,()) else Option.bind (zdj (x0.2.1,())) fun q0=>bif q0.1 then Option.bind (zdj (x0.2.2.1,())) fun q1=>bif q1.1 then Option.bind (zdj (x0.2.2.2.1,())) fun q2=>bif q2.1 then Option.bind (zdj (x0.2.2.2.2.2.2.2.2.2.1,())) fun q3=>bif q3.1 then bif x0.2.2.2.2.1 == 3 then bif eqI zr x0 (x0.1,x0.2.1,x0.2.2.1,x0.2.2.2.1,x0.2.2.2.2.1,(ze zr).2.2.2.2.2.1,(ze zr).2.2.2.2.2.2.1,(ze zr).2.2.2.2.2.2.2.1,(ze zr).2.2.2.2.2.2.2.2.1,x0.2.2.2.2.2.2.2.2.2.1,(ze zr).2.2.2.2.2.2.2.2.2.2) then some (true,()) else some (false,()) else Option.bind (zfO (x0.2.2.2.2.1,x0.2.2.2.2.2.2.2.1,x0.2.2.2.2.2.2.2.2.1,())) fun q4=>bif q4.2.1 == 0 then bif x0.2.2.2.2.2.2.2.2.2.1 == 0 then bif x0.2.2.2.2.2.1 != x0.2.2.2.2.2.2.1 then Option.bind (qL (x0.2.2.2.2.2.1,())) fun q5=>bif q5.1 then Option.bind (qL (x0.2.2.2.2.2.2.1,())) fun q6=>bif q6.1 then some (true,()) else some (false,()) else some (false,()) else some (false,()) else some (false,()) else some (false,()) else some (false,()) else some (false,()) else some (false,()) else some (false,())
abbrev ztb:Fun:=⟨193,(ch [zr]),(ch [.bool]),0,ziU⟩
theorem zCi:Sq ztb:=ms3 (d:=false) (K:=0) Tryz.func193 (by kernel_rfl) (funext fun (x0,())=>by kernel_rfl)
def zjC:(qK × (Int × Unit))→Option ((Option ((qb × Unit)→Option (Bool × Unit))) × Unit):=fun (x0,x1,()) =>
  some (some fun z=>vN (z.1,some x0,some x1,()),())
abbrev zpG:Fun:=⟨101,(ch [qe,tI]),(ch [(.fn (ch [zX]) (ch [.bool]))]),0,zjC⟩
theorem zyJ:Sq zpG:=ms3 (d:=false) (K:=0) Tryz.func101 (by kernel_rfl) (funext fun (x0,x1,())=>by kernel_rfl)
end
end Go.Proofs.YtokcjmkikhgkeaaGreatDoor
end
section
namespace Go.Proofs.YtokcjmkikhgkeaaGreatDoor
open Go.Ev
noncomputable section
abbrev vd:Type:=(List zg) × Int × Int × qK
abbrev zul:vd→St:=fun (v10,v11,v12,o0)=>St.mk [(1,.bp 0 []),(10,.dat (.sl zj) v10),(11,.dat tI v11),(12,.dat tI v12)] [.bx (.dat qe o0) true]
abbrev zdy:Type:=(List zg) × Int × Int × qK
abbrev zum:zdy→St:=fun (v10,v11,v12,o0)=>St.mk [(1,.bp 0 []),(10,.dat (.sl zj) v10),(11,.dat tI v11),(12,.dat tI v12)] [.bx (.dat qe o0) false]
def qP (k1:vd→Option (Bool × Unit)):vd→Option (Bool × Unit):=fun (v10,v11,v12,o0) =>
  bif decide (v12 < v11) then inR v12 ((List.length v10):Int) (Option.bind (yr ((ix za v10 v12).2.2.1,some fun z=>zaV (z.1,some o0,()),())) fun q3=>bif q3.1 then Option.bind (yt ((ix za v10 v12).2.2.2.1,some fun z=>vc (z.1,some o0,some v12,()),())) fun q4=>bif q4.1 then Option.bind (qE ((ix za v10 v12).2.2.2.2.1,some fun z=>qA (z.1,some o0,()),())) fun q5=>bif q5.1 then k1 (v10,v11,wI (v12 + 1),o0) else some (false,()) else Option.bind (qE ((ix za v10 v12).2.2.2.2.1,some fun z=>qA (z.1,some o0,()),())) fun q6=>bif q6.1 then some (false,()) else some (false,()) else Option.bind (yt ((ix za v10 v12).2.2.2.1,some fun z=>vc (z.1,some o0,some v12,()),())) fun q7=>bif q7.1 then Option.bind (qE ((ix za v10 v12).2.2.2.2.1,some fun z=>qA (z.1,some o0,()),())) fun q8=>bif q8.1 then some (false,()) else some (false,()) else Option.bind (qE ((ix za v10 v12).2.2.2.2.1,some fun z=>qA (z.1,some o0,()),())) fun q9=>bif q9.1 then some (false,()) else some (false,())) else some (true,())
theorem zun (K:Nat):∀ n,evV Es3 K Tryz.f38 0 (ch [.bool]) [1,0,1,0] [] zul n = zl qP n:=zt fun n1 (v10,v11,v12,o0)=>by kernel_rfl
def zlp (k1:vd→Option (Bool × Unit)):zdy→Option (Bool × Unit):=fun (v10,v11,v12,o0) =>
  bif decide (v12 < v11) then inR v12 ((List.length v10):Int) (Option.bind (yr ((ix za v10 v12).2.2.1,some fun z=>zaV (z.1,some o0,()),())) fun q0=>bif q0.1 then Option.bind (yt ((ix za v10 v12).2.2.2.1,some fun z=>vc (z.1,some o0,some v12,()),())) fun q1=>bif q1.1 then Option.bind (qE ((ix za v10 v12).2.2.2.2.1,some fun z=>qA (z.1,some o0,()),())) fun q2=>bif q2.1 then k1 (v10,v11,wI (v12 + 1),o0) else some (false,()) else Option.bind (qE ((ix za v10 v12).2.2.2.2.1,some fun z=>qA (z.1,some o0,()),())) fun q10=>bif q10.1 then some (false,()) else some (false,()) else Option.bind (yt ((ix za v10 v12).2.2.2.1,some fun z=>vc (z.1,some o0,some v12,()),())) fun q11=>bif q11.1 then Option.bind (qE ((ix za v10 v12).2.2.2.2.1,some fun z=>qA (z.1,some o0,()),())) fun q12=>bif q12.1 then some (false,()) else some (false,()) else Option.bind (qE ((ix za v10 v12).2.2.2.2.1,some fun z=>qA (z.1,some o0,()),())) fun q13=>bif q13.1 then some (false,()) else some (false,())) else some (true,())
abbrev zlq (K:Nat):zdy→Option (Bool × Unit):=zvt zlp qP K
theorem zuo (K:Nat):∀ n,evV Es3 K Tryz.f38 0 (ch [.bool]) [1,0,1,0] [] zum n = zvt zlp qP n:=zFk (zun K) fun n0 (v10,v11,v12,o0)=>by kernel_rfl
def zix (L0:zdy→Option (Bool × Unit)):(qK × Unit)→Option (Bool × Unit):=fun (x0,()) =>
  L0 (x0.2.1.2.1,((List.length x0.2.1.2.1):Int),0,x0)
def zaH:(qK × Unit)→Option (Bool × Unit):=zix (zlq K0)
abbrev zn2:Fun:=⟨38,(ch [qe]),(ch [.bool]),0,zaH⟩
theorem zxp:Sq zn2:=ml3 (d:=false) (S:=fun K=>zix (zlq K)) Tryz.func38 (by kernel_rfl) (fun K=>tr1 (T:=zix) (zuo K K) fun (x0,())=>by kernel_rfl) rfl
abbrev zbP:Type:=(List zg) × Int × Int × (List Int) × Int × Int × zg
abbrev zmy:zbP→St:=fun (v14,v15,v16,v55,v56,v57,o0)=>St.mk [(4,.bp 0 []),(14,.dat (.sl zj) v14),(15,.dat tI v15),(16,.dat tI v16),(55,.dat (.sl tI) v55),(56,.dat tI v56),(57,.dat tI v57)] [.bx (.dat zj o0) false]
abbrev zbQ:Type:=(Option zbB) × (List zg) × Int × Int × (List qc) × Int × Int × zg
abbrev zmz:zbQ→St:=fun (v5,v14,v15,v16,v24,v25,v26,o0)=>St.mk [(4,.bp 0 []),(5,.dat (.ptr vF) v5),(14,.dat (.sl zj) v14),(15,.dat tI v15),(16,.dat tI v16),(24,.dat (.sl zV) v24),(25,.dat tI v25),(26,.dat tI v26)] [.bx (.dat zj o0) false]
abbrev ju:Type:=(List zg) × Int × Int
abbrev yV:ju→St:=fun (v14,v15,v16)=>St.mk [(14,.dat (.sl zj) v14),(15,.dat tI v15),(16,.dat tI v16)] []
def zbR (k0:ju→Option (Bool × Unit)) (k2:zbP→Option (Bool × Unit)):zbP→Option (Bool × Unit):=fun (v14,v15,v16,v55,v56,v57,o0) =>
  bif decide (v57 < v56) then inR v57 ((List.length v55):Int) (inR (ix (0:Int) v55 v57) ((List.length o0.2.2.2.2.1):Int) (inR (ix (0:Int) v55 v57) ((List.length o0.2.2.2.2.1):Int) (bif decide ((List.getD o0.2.2.2.2.1 (Int.toNat (ix (0:Int) v55 v57)) (ze zv)).2.2.2.1.2.2.1 ≥ ((List.length o0.2.2.1):Int)) then some (false,()) else bif decide ((List.getD o0.2.2.2.2.1 (Int.toNat (ix (0:Int) v55 v57)) (ze zv)).2.2.2.2.1.2.2.1 ≥ ((List.length o0.2.2.1):Int)) then some (false,()) else bif decide ((List.getD o0.2.2.2.2.1 (Int.toNat (ix (0:Int) v55 v57)) (ze zv)).2.2.2.1.2.2.1 ≥ 0) then inR (List.getD o0.2.2.2.2.1 (Int.toNat (ix (0:Int) v55 v57)) (ze zv)).2.2.2.1.2.2.1 ((List.length o0.2.2.1):Int) (bif (List.getD o0.2.2.1 (Int.toNat (List.getD o0.2.2.2.2.1 (Int.toNat (ix (0:Int) v55 v57)) (ze zv)).2.2.2.1.2.2.1) (ze zV)).2.2.1 != 3 then some (false,()) else inR (List.getD o0.2.2.2.2.1 (Int.toNat (ix (0:Int) v55 v57)) (ze zv)).2.2.2.1.2.2.1 ((List.length o0.2.2.1):Int) (bif (List.getD o0.2.2.1 (Int.toNat (List.getD o0.2.2.2.2.1 (Int.toNat (ix (0:Int) v55 v57)) (ze zv)).2.2.2.1.2.2.1) (ze zV)).2.2.2.1 != ix (0:Int) v55 v57 then some (false,()) else k2 (v14,v15,v16,v55,v56,wI (v57 + 1),o0))) else k2 (v14,v15,v16,v55,v56,wI (v57 + 1),o0)))) else k0 (v14,v15,wI (v16 + 1))
abbrev zbS (K:Nat) (k0:ju→Option (Bool × Unit)):zbP→Option (Bool × Unit):=zl (fun k2=>zbR k0 k2) K
theorem zv3 (K:Nat) (n0:Nat):∀ n,evV Es3 K Tryz.f39 0 (ch [.bool]) [1,0,1,0,0,1,1,0,0,1,1,1,1,0] [n0] zmy n = zl (fun k2=>zbR (evV Es3 K Tryz.f39 0 (ch [.bool]) [1,0,1,0] [] yV n0) k2) n:=zt fun n2 (v14,v15,v16,v55,v56,v57,o0)=>by kernel_rfl
def yW (L2:zbP→Option (Bool × Unit)) (k0:ju→Option (Bool × Unit)) (k1:zbQ→Option (Bool × Unit)):zbQ→Option (Bool × Unit):=fun (v5,v14,v15,v16,v24,v25,v26,o0) =>
  bif decide (v26 < v25) then inR v26 ((List.length v24):Int) (bif (ix zdb v24 v26).2.2.1 == 3 then Option.bind (vM (v5,(ix zdb v24 v26).2.2.2.1,())) fun q1=>bif q1.1 then inR (ix zdb v24 v26).2.2.2.1 ((List.length o0.2.2.2.2.1):Int) (bif (List.getD o0.2.2.2.2.1 (Int.toNat (ix zdb v24 v26).2.2.2.1) (ze zv)).2.2.2.1.2.2.1 != v26 then some (false,()) else k1 (v5,v14,v15,v16,v24,v25,wI (v26 + 1),o0)) else some (false,()) else k1 (v5,v14,v15,v16,v24,v25,wI (v26 + 1),o0)) else Option.bind (zcA (v5,())) fun q2=>L2 (v14,v15,v16,q2.1,((List.length q2.1):Int),0,o0)
abbrev zbT (K:Nat) (k0:ju→Option (Bool × Unit)):zbQ→Option (Bool × Unit):=zl (fun k1=>yW (zbS K k0) k0 k1) K
theorem zv4 (K:Nat) (n0:Nat):∀ n,evV Es3 K Tryz.f39 0 (ch [.bool]) [1,0,1,0,0,1,1,0,0,1,1,0,1,0] [n0] zmz n = zl (fun k1=>yW (zbS K (evV Es3 K Tryz.f39 0 (ch [.bool]) [1,0,1,0] [] yV n0)) (evV Es3 K Tryz.f39 0 (ch [.bool]) [1,0,1,0] [] yV n0) k1) n:=zgC (B:=fun L2 k1=>yW L2 (evV Es3 K Tryz.f39 0 (ch [.bool]) [1,0,1,0] [] yV n0) k1) (V1:=fun n1=>evV Es3 K Tryz.f39 0 (ch [.bool]) [1,0,1,0,0,1,1,0,0,1,1,1,1,0] [n0] zmy K) (W1:=fun k1=>(zbS K (evV Es3 K Tryz.f39 0 (ch [.bool]) [1,0,1,0] [] yV n0))) (fun n1=>zv3 K n0 K) fun n1 (v5,v14,v15,v16,v24,v25,v26,o0)=>by kernel_rfl
def yX (L1:zbQ→Option (Bool × Unit)) (k0:ju→Option (Bool × Unit)):ju→Option (Bool × Unit):=fun (v14,v15,v16) =>
  bif decide (v16 < v15) then inR v16 ((List.length v14):Int) (Option.bind (yq ((ix za v14 v16).2.2.2.2.1,some vI,())) fun q0=>L1 (q0.1,v14,v15,v16,(ix za v14 v16).2.2.1,((List.length (ix za v14 v16).2.2.1):Int),0,ix za v14 v16)) else some (true,())
abbrev zmA (K:Nat):ju→Option (Bool × Unit):=zl (fun k0=>yX (zbT K k0) k0) K
theorem zv5 (K:Nat):∀ n,evV Es3 K Tryz.f39 0 (ch [.bool]) [1,0,1,0] [] yV n = zl (fun k0=>yX (zbT K k0) k0) n:=zgC (B:=fun L1 k0=>yX L1 k0) (V1:=fun n0=>evV Es3 K Tryz.f39 0 (ch [.bool]) [1,0,1,0,0,1,1,0,0,1,1,0,1,0] [n0] zmz K) (W1:=fun k0=>(zbT K k0)) (fun n0=>zv4 K n0 K) fun n0 (v14,v15,v16)=>by kernel_rfl
def zjD (L0:ju→Option (Bool × Unit)):(qK × Unit)→Option (Bool × Unit):=fun (x0,()) =>
  L0 (x0.2.1.2.1,((List.length x0.2.1.2.1):Int),0)
def zdE:(qK × Unit)→Option (Bool × Unit):=zjD (zmA K0)
abbrev zpH:Fun:=⟨39,(ch [qe]),(ch [.bool]),0,zdE⟩
theorem zyK:Sq zpH:=ml3 (d:=false) (S:=fun K=>zjD (zmA K)) Tryz.func39 (by kernel_rfl) (fun K=>tr1 (T:=zjD) (zv5 K K) fun (x0,())=>by kernel_rfl) rfl
def zhB:((List zn) × Unit)→Option ((List Int) × Unit):=fun (x0,()) =>
  Option.bind (zkh (x0,())) fun q0=>Option.bind (zfu (q0.1,())) fun q1=>some (q1.1,())
abbrev zrq:Fun:=⟨118,(ch [(.sl zm)]),(ch [(.sl tI)]),0,zhB⟩
theorem zAH:Sq zrq:=ms3 (d:=false) (K:=0) Tryz.func118 (by kernel_rfl) (funext fun (x0,())=>by kernel_rfl)
abbrev zcT:Type:=(List zp) × Int × (List Int) × Int × Int × List Int
abbrev zxq:zcT→St:=fun (v0,v1,v14,v15,v16,o0)=>St.mk [(0,.dat (.sl zv) v0),(1,.dat tI v1),(6,.ow 0),(14,.dat (.sl tI) v14),(15,.dat tI v15),(16,.dat tI v16)] [.row tU o0 false]
def zcU (k0:zcT→Option (Int × (Int × Unit))):zcT→Option (Int × (Int × Unit)):=fun (v0,v1,v14,v15,v16,o0) =>
  bif decide (v16 < v15) then inR v16 ((List.length v14):Int) (inR (ix (0:Int) v14 v16) ((List.length v0):Int) (bif (List.getD v0 (Int.toNat (ix (0:Int) v14 v16)) (ze zv)).2.2.2.1.1 == v1 then inR (ix (0:Int) v14 v16) ((List.length v0):Int) (bif decide (List.length o0 + List.length (zi (List.replicate 1 (0:Int)) 0 (List.getD v0 (Int.toNat (ix (0:Int) v14 v16)) (ze zv)).2.2.2.1.2.1) ≤ lim) then k0 (v0,v1,v14,v15,wI (v16 + 1),o0 ++ zi (List.replicate 1 (0:Int)) 0 (List.getD v0 (Int.toNat (ix (0:Int) v14 v16)) (ze zv)).2.2.2.1.2.1) else none) else k0 (v0,v1,v14,v15,wI (v16 + 1),o0))) else Option.bind (ze0 (o0,())) fun q3=>some (q3.1,q3.2.1,())
abbrev zn3 (K:Nat):zcT→Option (Int × (Int × Unit)):=zl zcU K
theorem zxr (K:Nat):∀ n,evV Es3 K Tryz.f43 0 (ch [tU,tI]) [1,1,1,0,1,0] [] zxq n = zl zcU n:=zt fun n0 (v0,v1,v14,v15,v16,o0)=>by kernel_rfl
def zhC (L0:zcT→Option (Int × (Int × Unit))):((List zp) × (Int × Unit))→Option (Int × (Int × Unit)):=fun (x0,x1,()) =>
  Option.bind (qL (x1,())) fun q0=>bif q0.1 then Option.bind (ziS (x0,())) fun q1=>Option.bind (zcA (q1.1,())) fun q2=>L0 (x0,x1,q2.1,((List.length q2.1):Int),0,[]) else some (0,1,())
def zhD:((List zp) × Int × Unit)→Option (Int × Int × Unit):=zhC (zn3 K0)
abbrev zrr:Fun:=⟨43,(ch [(.sl zv),tI]),(ch [tU,tI]),0,zhD⟩
theorem zAI:Sq zrr:=ml3 (d:=false) (S:=fun K=>zhC (zn3 K)) Tryz.func43 (by kernel_rfl) (fun K=>tr1 (T:=zhC) (zxr K K) fun (x0,x1,())=>by kernel_rfl) rfl
def zhE:(zd × (Int × Unit))→Option (Int × (Int × Unit)):=fun (x0,x1,()) =>
  Option.bind (qL (x1,())) fun q0=>bif q0.1 then Option.bind (ze2 (x0,x1,some zin,())) fun q1=>bif q1.2.1 != 0 then some (0,q1.2.1,()) else Option.bind (ze2 (x0,x1,some zio,())) fun q2=>bif q2.2.1 != 0 then some (0,q2.2.1,()) else Option.bind (zaR (q1.1,q2.1,())) fun q3=>some (q3.1,q3.2.1,()) else some (0,1,())
abbrev zrs:Fun:=⟨117,(ch [zu,tI]),(ch [tU,tI]),0,zhE⟩
theorem zAJ:Sq zrs:=ms3 (d:=false) (K:=0) Tryz.func117 (by kernel_rfl) (funext fun (x0,x1,())=>by kernel_rfl)
abbrev L4:List Fun:=zn1 :: zrp :: zta :: zmx :: zv2 :: ztb :: zpG :: zn2 :: zpH :: zrq :: zrr :: zrs :: L3
theorem h4:Sds Tryz.prog E0 L4:=⟨zxo,zAG,zCh,zv1,zDU,zCi,zyJ,zxp,zyK,zAH,zAI,zAJ,h3⟩
theorem ms4 {d:Bool} {F:Fun} {f:Go.Func} {K:Nat} (hf:Tryz.prog.funcs[F.id]? = some f) (ho:jI f = true) (h:evF (En E0 d L4) K f F.md F.a F.r = F.spec):Sd Tryz.prog E0 F:=mkS h4 hf ho h
theorem ml4 {d:Bool} {F:Fun} {f:Go.Func} {S:Nat→F.a.I→Option F.r.I} (hf:Tryz.prog.funcs[F.id]? = some f) (ho:jI f = true) (h:∀ K,evF (En E0 d L4) K f F.md F.a F.r = S K) (e:S K0 = F.spec):Sd Tryz.prog E0 F:=mkS h4 hf ho ((h K0).trans e)
abbrev Es4:Env:=En E0 false L4
def zbU:(qO × Unit)→Option (Bool × Unit):=fun (x0,()) =>
  Option.bind (za2 (x0.1,())) fun q0=>bif q0.1 then Option.bind (za2 (x0.2.1,())) fun q1=>bif q1.1 then Option.bind (ql (x0.2.2.1,0,3,())) fun q2=>bif q2.1 then some (false,()) else some (true,()) else some (true,()) else some (true,())
abbrev zjo:Fun:=⟨228,(ch [qN]),(ch [.bool]),0,zbU⟩
theorem zrt:Sq zjo:=ms4 (d:=false) (K:=0) Tryz.func228 (by kernel_rfl) (funext fun (x0,())=>by kernel_rfl)
def ze4:(ja × Unit)→Option (Bool × Unit):=fun (x0,()) =>
  bif x0.1 then Option.bind (za2 (x0.2.1,())) fun q0=>bif q0.1 then bif x0.1 then some (false,()) else bif !ByteArray.toList x0.2.1 == ByteArray.toList (ByteArray.mk #[]) then some (true,()) else some (false,()) else some (true,()) else bif x0.1 then some (false,()) else bif !ByteArray.toList x0.2.1 == ByteArray.toList (ByteArray.mk #[]) then some (true,()) else some (false,())
abbrev zn4:Fun:=⟨179,(ch [qi]),(ch [.bool]),0,ze4⟩
theorem zxs:Sq zn4:=ms4 (d:=false) (K:=0) Tryz.func179 (by kernel_rfl) (funext fun (x0,())=>by kernel_rfl)
def zf7:(qc × Unit)→Option (Bool × Unit):=fun (x0,()) =>
  bif x0.1 then Option.bind (za2 (x0.2.1,())) fun q0=>bif q0.1 then Option.bind (zoM (x0,())) fun q1=>Option.bind (zbK (q1.1,())) fun q2=>bif q2.1 then some (false,()) else some (true,()) else some (true,()) else bif !eqI zV x0 (ze zV) then some (true,()) else some (false,())
abbrev zpI:Fun:=⟨184,(ch [zV]),(ch [.bool]),0,zf7⟩
theorem zyL:Sq zpI:=ms4 (d:=false) (K:=0) Tryz.func184 (by kernel_rfl) (funext fun (x0,())=>by kernel_rfl)
def zhF:(qr × Unit)→Option (Bool × Unit):=fun (x0,()) =>
  bif x0.1 then Option.bind (ziu (x0,())) fun q0=>bif q0.1 then Option.bind (ziT (x0.2.2.2.2.1,())) fun q1=>bif q1.1 then some (false,()) else some (true,()) else some (true,()) else bif !eqI z4 x0 (ze z4) then some (true,()) else some (false,())
abbrev zru:Fun:=⟨186,(ch [z4]),(ch [.bool]),0,zhF⟩
theorem zAK:Sq zru:=ms4 (d:=false) (K:=0) Tryz.func186 (by kernel_rfl) (funext fun (x0,())=>by kernel_rfl)
def zf8:((List zp) × Unit)→Option (Bool × Unit):=fun (x0,()) =>
  Option.bind (qY (x0,some zed,())) fun q0=>bif q0.1 then some (false,()) else some (true,())
abbrev zpJ:Fun:=⟨88,(ch [(.sl zv)]),(ch [.bool]),0,zf8⟩
theorem zyM:Sq zpJ:=ms4 (d:=false) (K:=0) Tryz.func88 (by kernel_rfl) (funext fun (x0,())=>by kernel_rfl)
abbrev zcV:Type:=Int × (List zn) × Int × Int × List (Int × Int)
abbrev zxt:zcV→St:=fun (v4,v8,v9,v10,o0)=>St.mk [(3,.om 0),(4,.dat tI v4),(8,.dat (.sl zm) v8),(9,.dat tI v9),(10,.dat tI v10)] [.mp tI tI o0]
def zcW (k0:zcV→Option (Bool × Unit)):zcV→Option (Bool × Unit):=fun (v4,v8,v9,v10,o0) =>
  bif decide (v10 < v9) then inR v10 ((List.length v8):Int) (bif (ix qp v8 v10).1 then Option.bind (zki (ix qp v8 v10,())) fun q0=>bif q0.1 then bif (ix qp v8 v10).1 then bif (ix qp v8 v10).1 then k0 (wI (v4 + 1),v8,v9,wI (v10 + 1),yn tI o0 (ix qp v8 v10).2.2.2.2.2.2.2.2.2.1 (wI (zcd tI (0:Int) o0 (ix qp v8 v10).2.2.2.2.2.2.2.2.2.1 + 1))) else k0 (v4,v8,v9,wI (v10 + 1),o0) else bif !eqI zm (ix qp v8 v10) (ze zm) then some (false,()) else bif (ix qp v8 v10).1 then k0 (wI (v4 + 1),v8,v9,wI (v10 + 1),yn tI o0 (ix qp v8 v10).2.2.2.2.2.2.2.2.2.1 (wI (zcd tI (0:Int) o0 (ix qp v8 v10).2.2.2.2.2.2.2.2.2.1 + 1))) else k0 (v4,v8,v9,wI (v10 + 1),o0) else some (false,()) else bif (ix qp v8 v10).1 then bif (ix qp v8 v10).1 then k0 (wI (v4 + 1),v8,v9,wI (v10 + 1),yn tI o0 (ix qp v8 v10).2.2.2.2.2.2.2.2.2.1 (wI (zcd tI (0:Int) o0 (ix qp v8 v10).2.2.2.2.2.2.2.2.2.1 + 1))) else k0 (v4,v8,v9,wI (v10 + 1),o0) else bif !eqI zm (ix qp v8 v10) (ze zm) then some (false,()) else bif (ix qp v8 v10).1 then k0 (wI (v4 + 1),v8,v9,wI (v10 + 1),yn tI o0 (ix qp v8 v10).2.2.2.2.2.2.2.2.2.1 (wI (zcd tI (0:Int) o0 (ix qp v8 v10).2.2.2.2.2.2.2.2.2.1 + 1))) else k0 (v4,v8,v9,wI (v10 + 1),o0)) else bif ((List.length o0):Int) == v4 then some (true,()) else some (false,())
abbrev zn5 (K:Nat):zcV→Option (Bool × Unit):=zl zcW K
theorem zxu (K:Nat):∀ n,evV Es4 K Tryz.f90 0 (ch [.bool]) [1,1,1,0,1,0] [] zxt n = zl zcW n:=zt fun n0 (v4,v8,v9,v10,o0)=>by kernel_rfl
def zlr (L0:zcV→Option (Bool × Unit)):((List zn) × Unit)→Option (Bool × Unit):=fun (x0,()) =>
  L0 (0,x0,((List.length x0):Int),0,[])
def zls:((List zn) × Unit)→Option (Bool × Unit):=zlr (zn5 K0)
abbrev zrv:Fun:=⟨90,(ch [(.sl zm)]),(ch [.bool]),0,zls⟩
theorem zAL:Sq zrv:=ml4 (d:=false) (S:=fun K=>zlr (zn5 K)) Tryz.func90 (by kernel_rfl) (fun K=>tr1 (T:=zlr) (zxu K K) fun (x0,())=>by kernel_rfl) rfl
abbrev zbV:Type:=(List zF) × (List zF) × Int × Int
abbrev zv6:zbV→St:=fun (v0,v5,v6,v7)=>St.mk [(0,.dat (.sl zr) v0),(5,.dat (.sl zr) v5),(6,.dat tI v6),(7,.dat tI v7)] []
def zbW (k0:zbV→Option (Bool × Unit)):zbV→Option (Bool × Unit):=fun (v0,v5,v6,v7) =>
  bif decide (v7 < v6) then inR v7 ((List.length v5):Int) (Option.bind (ziU (ix zg1 v5 v7,())) fun q0=>bif q0.1 then bif decide (v7 > 0) then inR (wI (v7 - 1)) ((List.length v0):Int) (Option.bind (zf6 (List.getD v0 (Int.toNat (wI (v7 - 1))) (ze zr),ix zg1 v5 v7,())) fun q1=>bif decide (q1.1 ≥ 0) then some (false,()) else k0 (v0,v5,v6,wI (v7 + 1))) else k0 (v0,v5,v6,wI (v7 + 1)) else some (false,())) else some (true,())
abbrev zmB (K:Nat):zbV→Option (Bool × Unit):=zl zbW K
theorem zv7 (K:Nat):∀ n,evV Es4 K Tryz.f91 0 (ch [.bool]) [1,0,1,0] [] zv6 n = zl zbW n:=zt fun n0 (v0,v5,v6,v7)=>by kernel_rfl
def zjE (L0:zbV→Option (Bool × Unit)):((List zF) × Unit)→Option (Bool × Unit):=fun (x0,()) =>
  L0 (x0,x0,((List.length x0):Int),0)
def zjF:((List zF) × Unit)→Option (Bool × Unit):=zjE (zmB K0)
abbrev zpK:Fun:=⟨91,(ch [(.sl zr)]),(ch [.bool]),0,zjF⟩
theorem zyN:Sq zpK:=ml4 (d:=false) (S:=fun K=>zjE (zmB K)) Tryz.func91 (by kernel_rfl) (fun K=>tr1 (T:=zjE) (zv7 K K) fun (x0,())=>by kernel_rfl) rfl
abbrev zbX:Type:=(List zg) × Int × Int × qK
abbrev zv8:zbX→St:=fun (v10,v11,v12,o0)=>St.mk [(1,.bp 0 []),(10,.dat (.sl zj) v10),(11,.dat tI v11),(12,.dat tI v12)] [.bx (.dat qe o0) false]
def zbY (k0:zbX→Option (Bool × Unit)):zbX→Option (Bool × Unit):=fun (v10,v11,v12,o0) =>
  bif decide (v12 < v11) then inR v12 ((List.length v10):Int) (Option.bind (zjC (o0,v12,())) fun q0=>Option.bind (zgt ((ix za v10 v12).2.1,some fun z=>zea (z.1,some q0.1,()),())) fun q1=>bif q1.1 then Option.bind (yr ((ix za v10 v12).2.2.1,some fun z=>zbE (z.1,some q0.1,()),())) fun q2=>bif q2.1 then Option.bind (zhz ((ix za v10 v12).2.2.2.2.2.2.1,q0.1,())) fun q3=>bif q3.1 then k0 (v10,v11,wI (v12 + 1),o0) else some (false,()) else some (false,()) else Option.bind (yr ((ix za v10 v12).2.2.1,some fun z=>zbE (z.1,some q0.1,()),())) fun q4=>bif q4.1 then some (false,()) else some (false,())) else some (true,())
abbrev zmC (K:Nat):zbX→Option (Bool × Unit):=zl zbY K
theorem zv9 (K:Nat):∀ n,evV Es4 K Tryz.f37 0 (ch [.bool]) [1,0,1,0] [] zv8 n = zl zbY n:=zt fun n0 (v10,v11,v12,o0)=>by kernel_rfl
def zjG (L0:zbX→Option (Bool × Unit)):(qK × Unit)→Option (Bool × Unit):=fun (x0,()) =>
  L0 (x0.2.1.2.1,((List.length x0.2.1.2.1):Int),0,x0)
def zdF:(qK × Unit)→Option (Bool × Unit):=zjG (zmC K0)
abbrev zpL:Fun:=⟨37,(ch [qe]),(ch [.bool]),0,zdF⟩
theorem zyO:Sq zpL:=ml4 (d:=false) (S:=fun K=>zjG (zmC K)) Tryz.func37 (by kernel_rfl) (fun K=>tr1 (T:=zjG) (zv9 K K) fun (x0,())=>by kernel_rfl) rfl
abbrev zdG:Type:=(List zn) × Int × (List Int) × Int × Int × List Int
abbrev zyP:zdG→St:=fun (v0,v1,v13,v14,v15,o0)=>St.mk [(0,.dat (.sl zm) v0),(1,.dat tI v1),(6,.ow 0),(13,.dat (.sl tI) v13),(14,.dat tI v14),(15,.dat tI v15)] [.row tU o0 false]
def zdH (k0:zdG→Option (Int × (Int × Unit))):zdG→Option (Int × (Int × Unit)):=fun (v0,v1,v13,v14,v15,o0) =>
  bif decide (v15 < v14) then inR v15 ((List.length v13):Int) (inR (ix (0:Int) v13 v15) ((List.length v0):Int) (Option.bind (zf0 (List.getD v0 (Int.toNat (ix (0:Int) v13 v15)) (ze zm),())) fun q2=>bif q2.1 == v1 then inR (ix (0:Int) v13 v15) ((List.length v0):Int) (bif decide (List.length o0 + List.length (zi (List.replicate 1 (0:Int)) 0 (List.getD v0 (Int.toNat (ix (0:Int) v13 v15)) (ze zm)).2.2.2.2.2.2.2.2.1) ≤ lim) then k0 (v0,v1,v13,v14,wI (v15 + 1),o0 ++ zi (List.replicate 1 (0:Int)) 0 (List.getD v0 (Int.toNat (ix (0:Int) v13 v15)) (ze zm)).2.2.2.2.2.2.2.2.1) else none) else k0 (v0,v1,v13,v14,wI (v15 + 1),o0))) else Option.bind (ze0 (o0,())) fun q3=>some (q3.1,q3.2.1,())
abbrev zpM (K:Nat):zdG→Option (Int × (Int × Unit)):=zl zdH K
theorem zyQ (K:Nat):∀ n,evV Es4 K Tryz.f42 0 (ch [tU,tI]) [1,1,1,0,1,0] [] zyP n = zl zdH n:=zt fun n0 (v0,v1,v13,v14,v15,o0)=>by kernel_rfl
def ziV (L0:zdG→Option (Int × (Int × Unit))):((List zn) × (Int × Unit))→Option (Int × (Int × Unit)):=fun (x0,x1,()) =>
  Option.bind (qL (x1,())) fun q0=>bif q0.1 then Option.bind (zhB (x0,())) fun q1=>L0 (x0,x1,q1.1,((List.length q1.1):Int),0,[]) else some (0,1,())
def ziW:((List zn) × Int × Unit)→Option (Int × Int × Unit):=ziV (zpM K0)
abbrev ztc:Fun:=⟨42,(ch [(.sl zm),tI]),(ch [tU,tI]),0,ziW⟩
theorem zCj:Sq ztc:=ml4 (d:=false) (S:=fun K=>ziV (zpM K)) Tryz.func42 (by kernel_rfl) (fun K=>tr1 (T:=ziV) (zyQ K K) fun (x0,x1,())=>by kernel_rfl) rfl
abbrev L5:List Fun:=zjo :: zn4 :: zpI :: zru :: zpJ :: zrv :: zpK :: zpL :: ztc :: L4
theorem h5:Sds Tryz.prog E0 L5:=⟨zrt,zxs,zyL,zAK,zyM,zAL,zyN,zyO,zCj,h4⟩
theorem ms5 {d:Bool} {F:Fun} {f:Go.Func} {K:Nat} (hf:Tryz.prog.funcs[F.id]? = some f) (ho:jI f = true) (h:evF (En E0 d L5) K f F.md F.a F.r = F.spec):Sd Tryz.prog E0 F:=mkS h5 hf ho h
theorem ml5 {d:Bool} {F:Fun} {f:Go.Func} {S:Nat→F.a.I→Option F.r.I} (hf:Tryz.prog.funcs[F.id]? = some f) (ho:jI f = true) (h:∀ K,evF (En E0 d L5) K f F.md F.a F.r = S K) (e:S K0 = F.spec):Sd Tryz.prog E0 F:=mkS h5 hf ho ((h K0).trans e)
abbrev Es5:Env:=En E0 false L5
def jC:(zf × Unit)→Option (Bool × Unit):=fun (x0,()) =>
  Option.bind (ql (((List.length x0.2.2.1):Int),1,8,())) fun q0=>bif q0.1 then Option.bind (zat (x0.2.2.1,some zbU,())) fun q1=>bif q1.1 then some (false,()) else Option.bind (zfj (x0,())) fun q2=>Option.bind (zkS (q2.1,())) fun q3=>bif q3.1 then some (true,()) else some (false,()) else some (false,())
abbrev zlt:Fun:=⟨153,(ch [zw]),(ch [.bool]),0,jC⟩
theorem zup:Sq zlt:=ms5 (d:=false) (K:=0) Tryz.func153 (by kernel_rfl) (funext fun (x0,())=>by kernel_rfl)
def zhG:((List ja) × Unit)→Option (Bool × Unit):=fun (x0,()) =>
  Option.bind (zco (x0,some ze4,())) fun q0=>bif q0.1 then some (false,()) else some (true,())
abbrev zrw:Fun:=⟨84,(ch [(.sl qi)]),(ch [.bool]),0,zhG⟩
theorem zAM:Sq zrw:=ms5 (d:=false) (K:=0) Tryz.func84 (by kernel_rfl) (funext fun (x0,())=>by kernel_rfl)
def zf9:((List qc) × Unit)→Option (Bool × Unit):=fun (x0,()) =>
  Option.bind (jg (x0,some zf7,())) fun q0=>bif q0.1 then some (false,()) else some (true,())
abbrev zpN:Fun:=⟨86,(ch [(.sl zV)]),(ch [.bool]),0,zf9⟩
theorem zyR:Sq zpN:=ms5 (d:=false) (K:=0) Tryz.func86 (by kernel_rfl) (funext fun (x0,())=>by kernel_rfl)
def zhH:((List qr) × Unit)→Option (Bool × Unit):=fun (x0,()) =>
  Option.bind (jh (x0,some zhF,())) fun q0=>bif q0.1 then some (false,()) else some (true,())
abbrev zrx:Fun:=⟨87,(ch [(.sl z4)]),(ch [.bool]),0,zhH⟩
theorem zAN:Sq zrx:=ms5 (d:=false) (K:=0) Tryz.func87 (by kernel_rfl) (funext fun (x0,())=>by kernel_rfl)
abbrev zcX:Type:=Int × (List zg) × Int × Int × (List (List Int)) × Int × Int × List Int
abbrev zn6:zcX→St:=fun (v1,v31,v32,v33,v52,v53,v54,o0)=>St.mk [(1,.dat tI v1),(8,.ow 0),(31,.dat (.sl zj) v31),(32,.dat tI v32),(33,.dat tI v33),(52,.dat (.sl (.arr 4 tU)) v52),(53,.dat tI v53),(54,.dat tI v54)] [.row tU o0 false]
abbrev yu:Type:=Int × (List zg) × Int × Int × List Int
abbrev zn7:yu→St:=fun (v1,v31,v32,v33,o0)=>St.mk [(1,.dat tI v1),(8,.ow 0),(31,.dat (.sl zj) v31),(32,.dat tI v32),(33,.dat tI v33)] [.row tU o0 false]
def zcY (k0:yu→Option (Int × (Int × Unit))) (k1:zcX→Option (Int × (Int × Unit))):zcX→Option (Int × (Int × Unit)):=fun (v1,v31,v32,v33,v52,v53,v54,o0) =>
  bif decide (v54 < v53) then inR v54 ((List.length v52):Int) (inR v1 (↑4:Int) (bif decide (List.length o0 + List.length (zi (List.replicate 1 (0:Int)) 0 (List.getD (List.getD v52 (Int.toNat v54) (ze (.arr 4 tU))) (Int.toNat v1) (0:Int))) ≤ lim) then k1 (v1,v31,v32,v33,v52,v53,wI (v54 + 1),o0 ++ zi (List.replicate 1 (0:Int)) 0 (List.getD (List.getD v52 (Int.toNat v54) (ze (.arr 4 tU))) (Int.toNat v1) (0:Int))) else none)) else k0 (v1,v31,v32,wI (v33 + 1),o0)
abbrev zcZ (K:Nat) (k0:yu→Option (Int × (Int × Unit))):zcX→Option (Int × (Int × Unit)):=zl (fun k1=>zcY k0 k1) K
theorem zxv (K:Nat) (n0:Nat):∀ n,evV Es5 K Tryz.f13 0 (ch [tU,tI]) [1,1,1,1,1,0,1,0,0,1,1,0,0,1,1,1,1,1,0] [n0] zn6 n = zl (fun k1=>zcY (evV Es5 K Tryz.f13 0 (ch [tU,tI]) [1,1,1,1,1,0,1,0] [] zn7 n0) k1) n:=zt fun n1 (v1,v31,v32,v33,v52,v53,v54,o0)=>by kernel_rfl
def zaI (L1:zcX→Option (Int × (Int × Unit))) (k0:yu→Option (Int × (Int × Unit))):yu→Option (Int × (Int × Unit)):=fun (v1,v31,v32,v33,o0) =>
  bif decide (v33 < v32) then inR v33 ((List.length v31):Int) (Option.bind (zhD ((ix za v31 v33).2.2.2.2.1,v1,())) fun q2=>bif q2.2.1 != 0 then some (0,q2.2.1,()) else bif decide (List.length o0 + List.length (zi (List.replicate 1 (0:Int)) 0 q2.1) ≤ lim) then L1 (v1,v31,v32,v33,(ix za v31 v33).2.2.2.2.2.1,((List.length (ix za v31 v33).2.2.2.2.2.1):Int),0,o0 ++ zi (List.replicate 1 (0:Int)) 0 q2.1) else none) else Option.bind (ze0 (o0,())) fun q3=>some (q3.1,q3.2.1,())
abbrev zn8 (K:Nat):yu→Option (Int × (Int × Unit)):=zl (fun k0=>zaI (zcZ K k0) k0) K
theorem zxw (K:Nat):∀ n,evV Es5 K Tryz.f13 0 (ch [tU,tI]) [1,1,1,1,1,0,1,0] [] zn7 n = zl (fun k0=>zaI (zcZ K k0) k0) n:=zgC (B:=fun L1 k0=>zaI L1 k0) (V1:=fun n0=>evV Es5 K Tryz.f13 0 (ch [tU,tI]) [1,1,1,1,1,0,1,0,0,1,1,0,0,1,1,1,1,1,0] [n0] zn6 K) (W1:=fun k0=>(zcZ K k0)) (fun n0=>zxv K n0 K) fun n0 (v1,v31,v32,v33,o0)=>by kernel_rfl
def zhI (L0:yu→Option (Int × (Int × Unit))):(zd × (Int × Unit))→Option (Int × (Int × Unit)):=fun (x0,x1,()) =>
  Option.bind (qL (x1,())) fun q0=>bif q0.1 then Option.bind (ziW (x0.2.2.2.1,x1,())) fun q1=>bif q1.2.1 != 0 then some (0,q1.2.1,()) else L0 (x1,x0.2.1,((List.length x0.2.1):Int),0,[q1.1]) else some (0,1,())
def zc0:(zd × Int × Unit)→Option (Int × Int × Unit):=zhI (zn8 K0)
abbrev zry:Fun:=⟨13,(ch [zu,tI]),(ch [tU,tI]),0,zc0⟩
theorem zAO:Sq zry:=ml5 (d:=false) (S:=fun K=>zhI (zn8 K)) Tryz.func13 (by kernel_rfl) (fun K=>tr1 (T:=zhI) (zxw K K) fun (x0,x1,())=>by kernel_rfl) rfl
abbrev L6:List Fun:=zlt :: zrw :: zpN :: zrx :: zry :: L5
theorem h6:Sds Tryz.prog E0 L6:=⟨zup,zAM,zyR,zAN,zAO,h5⟩
theorem ms6 {d:Bool} {F:Fun} {f:Go.Func} {K:Nat} (hf:Tryz.prog.funcs[F.id]? = some f) (ho:jI f = true) (h:evF (En E0 d L6) K f F.md F.a F.r = F.spec):Sd Tryz.prog E0 F:=mkS h6 hf ho h
theorem ml6 {d:Bool} {F:Fun} {f:Go.Func} {S:Nat→F.a.I→Option F.r.I} (hf:Tryz.prog.funcs[F.id]? = some f) (ho:jI f = true) (h:∀ K,evF (En E0 d L6) K f F.md F.a F.r = S K) (e:S K0 = F.spec):Sd Tryz.prog E0 F:=mkS h6 hf ho ((h K0).trans e)
abbrev Es6:Env:=En E0 false L6
abbrev zbZ:Type:=Int × Int × zf × List (Option ((zf × Unit)→Option (Bool × Unit)))
abbrev zwa:zbZ→St:=fun (v6,v7,o0,o1)=>St.mk [(1,.bp 0 []),(5,.ow 1),(6,.dat tI v6),(7,.dat tI v7)] [.bx (.dat zw o0) false,.row (.fn (.pair zw .unit) (.pair .bool .unit)) o1 false]
def zee (k0:zbZ→Option (Bool × Unit)):zbZ→Option (Bool × Unit):=fun (v6,v7,o0,o1) =>
  bif decide (v7 < v6) then inR v7 ((List.length o1):Int) (Option.bind (List.getD o1 (Int.toNat v7) (ze (.fn (.pair zw .unit) (.pair .bool .unit)))) fun q0=>Option.bind (q0 (o0,())) fun q1=>bif q1.1 then k0 (v6,wI (v7 + 1),o0,o1) else some (false,())) else some (true,())
abbrev zmD (K:Nat):zbZ→Option (Bool × Unit):=zl zee K
theorem zwb (K:Nat):∀ n,evV Es6 K Tryz.f55 0 (ch [.bool]) [1,0,1,0] [] zwa n = zl zee n:=zt fun n0 (v6,v7,o0,o1)=>by kernel_rfl
def zjH (L0:zbZ→Option (Bool × Unit)):(zf × Unit)→Option (Bool × Unit):=fun (x0,()) =>
  L0 (((List.length (zi (zi (zi (zi (zi (zi (List.replicate 6 (ze (.fn (.pair zw .unit) (.pair .bool .unit)))) 0 (some vu)) 1 (some vZ)) 2 (some jC)) 3 (some vq)) 4 (some vt)) 5 (some yL))):Int),0,x0,[some vu,some vZ,some jC,some vq,some vt,some yL])
def y7:(zf × Unit)→Option (Bool × Unit):=zjH (zmD K0)
abbrev zpO:Fun:=⟨55,(ch [zw]),(ch [.bool]),0,y7⟩
theorem zyS:Sq zpO:=ml6 (d:=false) (S:=fun K=>zjH (zmD K)) Tryz.func55 (by kernel_rfl) (fun K=>tr1 (T:=zjH) (zwb K K) fun (x0,())=>by kernel_rfl) rfl
def zef:(zg × Unit)→Option (Bool × Unit):=fun (x0,()) =>
  Option.bind (zhG (x0.1,())) fun q0=>bif q0.1 then Option.bind (zlj (x0.2.1,())) fun q1=>bif q1.1 then Option.bind (zf9 (x0.2.2.1,())) fun q2=>bif q2.1 then Option.bind (zhH (x0.2.2.2.1,())) fun q3=>bif q3.1 then Option.bind (zf8 (x0.2.2.2.2.1,())) fun q4=>bif q4.1 then some (true,()) else some (false,()) else some (false,()) else some (false,()) else some (false,()) else some (false,())
abbrev zmE:Fun:=⟨83,(ch [zj]),(ch [.bool]),0,zef⟩
theorem zwc:Sq zmE:=ms6 (d:=false) (K:=0) Tryz.func83 (by kernel_rfl) (funext fun (x0,())=>by kernel_rfl)
abbrev zb0:Type:=Int × Int × (List zg) × Int × Int × qK
abbrev zmF:zb0→St:=fun (v3,v10,v15,v16,v17,o0)=>St.mk [(1,.bp 0 []),(3,.dat tI v3),(10,.dat tI v10),(15,.dat (.sl zj) v15),(16,.dat tI v16),(17,.dat tI v17)] [.bx (.dat qe o0) false]
abbrev vO:Type:=Int × qK
abbrev zmG:vO→St:=fun (v10,o0)=>St.mk [(1,.bp 0 []),(10,.dat tI v10)] [.bx (.dat qe o0) false]
def zb1 (k0:vO→Option (Bool × Unit)) (k1:zb0→Option (Bool × Unit)):zb0→Option (Bool × Unit):=fun (v3,v10,v15,v16,v17,o0) =>
  bif decide (v17 < v16) then inR v17 ((List.length v15):Int) (inR v3 (↑4:Int) (inR v17 ((List.length o0.1.2.2.2.2.1):Int) (bif decide (List.getD (ix za v15 v17).2.2.2.2.2.2.2.1 (Int.toNat v3) (0:Int) > (ix qz o0.1.2.2.2.2.1 v17).2.2.2.2.2.1) then some (false,()) else k1 (v3,v10,v15,v16,wI (v17 + 1),o0)))) else Option.bind (zc0 (o0.2.1,v3,())) fun q0=>Option.bind (zhE (o0.2.1,v3,())) fun q1=>bif q0.2.1 != 0 then some (false,()) else bif q1.2.1 != 0 then some (false,()) else bif q0.1 != q1.1 then some (false,()) else k0 (wI (v10 + 1),o0)
abbrev zb2 (K:Nat) (k0:vO→Option (Bool × Unit)):zb0→Option (Bool × Unit):=zl (fun k1=>zb1 k0 k1) K
theorem zwd (K:Nat) (n0:Nat):∀ n,evV Es6 K Tryz.f40 0 (ch [.bool]) [1,0,1,0,0,1,1,0,0,1,0,1,0] [n0] zmF n = zl (fun k1=>zb1 (evV Es6 K Tryz.f40 0 (ch [.bool]) [1,0,1,0] [] zmG n0) k1) n:=zt fun n1 (v3,v10,v15,v16,v17,o0)=>by kernel_rfl
def zb3 (L1:zb0→Option (Bool × Unit)) (k0:vO→Option (Bool × Unit)):vO→Option (Bool × Unit):=fun (v10,o0) =>
  bif decide (v10 < 4) then L1 (v10,v10,o0.2.1.2.1,((List.length o0.2.1.2.1):Int),0,o0) else some (true,())
abbrev zmH (K:Nat):vO→Option (Bool × Unit):=zl (fun k0=>zb3 (zb2 K k0) k0) K
theorem zwe (K:Nat):∀ n,evV Es6 K Tryz.f40 0 (ch [.bool]) [1,0,1,0] [] zmG n = zl (fun k0=>zb3 (zb2 K k0) k0) n:=zgC (B:=fun L1 k0=>zb3 L1 k0) (V1:=fun n0=>evV Es6 K Tryz.f40 0 (ch [.bool]) [1,0,1,0,0,1,1,0,0,1,0,1,0] [n0] zmF K) (W1:=fun k0=>(zb2 K k0)) (fun n0=>zwd K n0 K) fun n0 (v10,o0)=>by kernel_rfl
def zjI (L0:vO→Option (Bool × Unit)):(qK × Unit)→Option (Bool × Unit):=fun (x0,()) =>
  L0 (0,x0)
def zdI:(qK × Unit)→Option (Bool × Unit):=zjI (zmH K0)
abbrev zpP:Fun:=⟨40,(ch [qe]),(ch [.bool]),0,zdI⟩
theorem zyT:Sq zpP:=ml6 (d:=false) (S:=fun K=>zjI (zmH K)) Tryz.func40 (by kernel_rfl) (fun K=>tr1 (T:=zjI) (zwe K K) fun (x0,())=>by kernel_rfl) rfl
abbrev L7:List Fun:=zpO :: zmE :: zpP :: L6
theorem h7:Sds Tryz.prog E0 L7:=⟨zyS,zwc,zyT,h6⟩
theorem ms7 {d:Bool} {F:Fun} {f:Go.Func} {K:Nat} (hf:Tryz.prog.funcs[F.id]? = some f) (ho:jI f = true) (h:evF (En E0 d L7) K f F.md F.a F.r = F.spec):Sd Tryz.prog E0 F:=mkS h7 hf ho h
theorem ml7 {d:Bool} {F:Fun} {f:Go.Func} {S:Nat→F.a.I→Option F.r.I} (hf:Tryz.prog.funcs[F.id]? = some f) (ho:jI f = true) (h:∀ K,evF (En E0 d L7) K f F.md F.a F.r = S K) (e:S K0 = F.spec):Sd Tryz.prog E0 F:=mkS h7 hf ho ((h K0).trans e)
abbrev Es7:Env:=En E0 false L7
abbrev Ed7:Env:=En E0 true L7
abbrev zb4:Type:=Int × (List zg) × Int × Int × qK
abbrev zwf:zb4→St:=fun (v3,v65,v66,v67,o0)=>St.mk [(1,.bp 0 []),(3,.dat tI v3),(65,.dat (.sl zj) v65),(66,.dat tI v66),(67,.dat tI v67)] [.bx (.dat qe o0) false]
def zeg (k0:zb4→Option (Bool × Unit)):zb4→Option (Bool × Unit):=fun (v3,v65,v66,v67,o0) =>
  bif decide (v67 < v66) then inR v67 ((List.length v65):Int) (inR v67 ((List.length o0.1.2.2.2.2.1):Int) (bif ((List.length (ix za v65 v67).1):Int) != (ix qz o0.1.2.2.2.2.1 v67).1 then some (false,()) else bif ((List.length (ix za v65 v67).2.1):Int) != (ix qz o0.1.2.2.2.2.1 v67).2.1 then some (false,()) else bif ((List.length (ix za v65 v67).2.2.1):Int) != (ix qz o0.1.2.2.2.2.1 v67).2.2.1 then some (false,()) else bif ((List.length (ix za v65 v67).2.2.2.1):Int) != (ix qz o0.1.2.2.2.2.1 v67).2.2.2.1 then some (false,()) else bif ((List.length (ix za v65 v67).2.2.2.2.1):Int) != (ix qz o0.1.2.2.2.2.1 v67).2.2.2.2.1 then some (false,()) else bif ((List.length (ix za v65 v67).2.2.2.2.2.1):Int) != v3 then some (false,()) else bif ((List.length (ix za v65 v67).2.2.2.2.2.2.1):Int) != v3 then some (false,()) else k0 (v3,v65,v66,wI (v67 + 1),o0))) else some (true,())
abbrev zhJ (K:Nat):zb4→Option (Bool × Unit):=zl zeg K
theorem zwg (K:Nat):∀ n,evV Es7 K Tryz.f34 0 (ch [.bool]) [1,1,1,0,1,0] [] zwf n = zl zeg n:=zt fun n0 (v3,v65,v66,v67,o0)=>by kernel_rfl
def zga (L0:zb4→Option (Bool × Unit)):(qK × Unit)→Option (Bool × Unit):=fun (x0,()) =>
  Option.bind (y7 (x0.1,())) fun q0=>bif q0.1 then bif ((List.length x0.2.1.2.1):Int) != ((List.length x0.1.1):Int) then some (false,()) else bif ((List.length x0.2.1.2.2.2.1):Int) != x0.1.2.2.2.2.2.1 then some (false,()) else bif decide (((List.length x0.2.1.2.2.2.2.1):Int) > x0.1.2.2.2.2.2.2.1) then some (false,()) else bif ((List.length x0.2.1.2.2.2.2.2.1):Int) != ((List.length x0.1.2.1):Int) then some (false,()) else bif decide (x0.2.1.1 > 4611686018427387904) then some (false,()) else L0 (((List.length x0.1.2.2.1):Int),x0.2.1.2.1,((List.length x0.2.1.2.1):Int),0,x0) else some (false,())
def zbp:(qK × Unit)→Option (Bool × Unit):=zga (zhJ K0)
abbrev zpQ:Fun:=⟨34,(ch [qe]),(ch [.bool]),0,zbp⟩
theorem zyU:Sq zpQ:=ml7 (d:=false) (S:=fun K=>zga (zhJ K)) Tryz.func34 (by kernel_rfl) (fun K=>tr1 (T:=zga) (zwg K K) fun (x0,())=>by kernel_rfl) rfl
def zbq:(qK × Unit)→Option (Bool × Unit):=fun (x0,()) =>
  Option.bind (zfq (x0.2.1.2.1,some zef,())) fun q0=>bif q0.1 then some (true,()) else some (false,())
abbrev zpR:Fun:=⟨35,(ch [qe]),(ch [.bool]),0,zbq⟩
theorem zyV:Sq zpR:=ms7 (d:=false) (K:=0) Tryz.func35 (by kernel_rfl) (funext fun (x0,())=>by kernel_rfl)
abbrev zc1:Type:=(Option ((Int × Unit)→Option (Bool × Unit))) × (List (List Int)) × Int × Int × zf
abbrev zxx:zc1→St:=fun (v5,v19,v20,v21,o0)=>St.mk [(2,.bp 0 []),(5,.dat (.fn (.pair tI .unit) (.pair .bool .unit)) v5),(19,.dat (.sl (.sl tI)) v19),(20,.dat tI v20),(21,.dat tI v21)] [.bx (.dat zw o0) false]
def ze5 (k0:zc1→Option (Bool × Unit)):zc1→Option (Bool × Unit):=fun (v5,v19,v20,v21,o0) =>
  bif decide (v21 < v20) then inR v21 ((List.length v19):Int) (bif ((List.length (List.getD v19 (Int.toNat v21) ([]:List Int))):Int) != ((List.length o0.2.2.1):Int) then some (false,()) else Option.bind (qB (List.getD v19 (Int.toNat v21) ([]:List Int),v5,())) fun q1=>bif q1.1 then some (false,()) else inR v21 ((List.length o0.2.2.2.1):Int) (inR (ix qR o0.2.2.2.1 v21).2.1 ((List.length (List.getD v19 (Int.toNat v21) ([]:List Int))):Int) (bif List.getD (List.getD v19 (Int.toNat v21) ([]:List Int)) (Int.toNat (ix qR o0.2.2.2.1 v21).2.1) (0:Int) != 2 then some (false,()) else k0 (v5,v19,v20,wI (v21 + 1),o0)))) else some (true,())
abbrev ziy (K:Nat):zc1→Option (Bool × Unit):=zl ze5 K
theorem zxy (K:Nat):∀ n,evV Es7 K Tryz.f89 0 (ch [.bool]) [1,1,1,0,1,0] [] zxx n = zl ze5 n:=zt fun n0 (v5,v19,v20,v21,o0)=>by kernel_rfl
def zhK (L0:zc1→Option (Bool × Unit)):(zf × ((List (List Int)) × Unit))→Option (Bool × Unit):=fun (x0,x1,()) =>
  Option.bind (y7 (x0,())) fun q0=>bif q0.1 then bif ((List.length x1):Int) != ((List.length x0.2.2.2.1):Int) then some (false,()) else L0 (some zaF,x1,((List.length x1):Int),0,x0) else some (false,())
def zhL:(zf × (List (List Int)) × Unit)→Option (Bool × Unit):=zhK (ziy K0)
abbrev zrz:Fun:=⟨89,(ch [zw,(.sl (.sl tI))]),(ch [.bool]),0,zhL⟩
theorem zAP:Sq zrz:=ml7 (d:=false) (S:=fun K=>zhK (ziy K)) Tryz.func89 (by kernel_rfl) (fun K=>tr1 (T:=zhK) (zxy K K) fun (x0,x1,())=>by kernel_rfl) rfl
def zb5:(zf × (Int × Unit))→Option (Bool × Unit):=fun (x0,x1,()) =>
  Option.bind (y7 (x0,())) fun q0=>bif q0.1 then Option.bind (ql (x1,0,wI (((List.length x0.1):Int) - 1),())) fun q1=>bif q1.1 then some (true,()) else some (false,()) else some (false,())
abbrev zmI:Fun:=⟨48,(ch [zw,tI]),(ch [.bool]),0,zb5⟩
theorem zwh:Sq zmI:=ms7 (d:=false) (K:=0) Tryz.func48 (by kernel_rfl) (funext fun (x0,x1,())=>by kernel_rfl)
abbrev zeC:Type:=(List qb) × Int × Int × zf × List (List Int) × Nat
abbrev zAQ:zeC→St:=fun (v11,v12,v13,o0,o1,c1)=>St.mk [(1,.bp 0 []),(3,.ow 1),(11,.dat (.sl zaP) v11),(12,.dat tI v12),(13,.dat tI v13)] [.bx (.dat zw o0) false,.drow (.sl tI) o1 c1]
def zeD (k0:zeC→Option ((List (List Int)) × Unit)):zeC→Option ((List (List Int)) × Unit):=fun (v11,v12,v13,o0,o1,c1) =>
  bif decide (v13 < v12) then inR v13 ((List.length v11):Int) (bif decide (((List.length o0.2.2.1):Int) ≤ ((List.length o0.2.2.1):Int)) then bif decide (((List.length o0.2.2.1):Int) ≤ (↑lim:Int)) then inR (ix qR v11 v13).2.1 ((List.length (List.replicate (Int.toNat ((List.length o0.2.2.1):Int)) (0:Int))):Int) (bif decide (List.length o1 + List.length [List.set (List.replicate (Int.toNat ((List.length o0.2.2.1):Int)) (0:Int)) (Int.toNat (ix qR v11 v13).2.1) 2] ≤ lim) then bif decide (c1 = List.length o1) then k0 (v11,v12,wI (v13 + 1),o0,o1 ++ [List.set (List.replicate (Int.toNat ((List.length o0.2.2.1):Int)) (0:Int)) (Int.toNat (ix qR v11 v13).2.1) 2],c1 + (0 + 1)) else none else none) else none else none) else bif decide (c1 = List.length o1) then some (o1,()) else none
abbrev zrA (K:Nat):zeC→Option ((List (List Int)) × Unit):=zl zeD K
theorem zAR (K:Nat):∀ n,evV Ed7 K Tryz.f56 4 (ch [(.sl (.sl tI))]) [1,1,1,0,1,0] [] zAQ n = zl zeD n:=zt fun n0 (v11,v12,v13,o0,o1,c1)=>by kernel_rfl
def zkj (L0:zeC→Option ((List (List Int)) × Unit)):(zf × Unit)→Option ((List (List Int)) × Unit):=fun (x0,()) =>
  Option.bind (y7 (x0,())) fun q0=>bif q0.1 then L0 (x0.2.2.2.1,((List.length x0.2.2.2.1):Int),0,x0,[],0) else some ([],())
def zkk:(zf × Unit)→Option ((List (List Int)) × Unit):=zkj (zrA K0)
abbrev zwi:Fun:=⟨56,(ch [zw]),(ch [(.sl (.sl tI))]),4,zkk⟩
theorem zDV:Sq zwi:=ml7 (d:=true) (S:=fun K=>zkj (zrA K)) Tryz.func56 (by kernel_rfl) (fun K=>tr1 (T:=zkj) (zAR K K) fun (x0,())=>by kernel_rfl) rfl
abbrev L8:List Fun:=zpQ :: zpR :: zrz :: zmI :: zwi :: L7
theorem h8:Sds Tryz.prog E0 L8:=⟨zyU,zyV,zAP,zwh,zDV,h7⟩
theorem ms8 {d:Bool} {F:Fun} {f:Go.Func} {K:Nat} (hf:Tryz.prog.funcs[F.id]? = some f) (ho:jI f = true) (h:evF (En E0 d L8) K f F.md F.a F.r = F.spec):Sd Tryz.prog E0 F:=mkS h8 hf ho h
theorem ml8 {d:Bool} {F:Fun} {f:Go.Func} {S:Nat→F.a.I→Option F.r.I} (hf:Tryz.prog.funcs[F.id]? = some f) (ho:jI f = true) (h:∀ K,evF (En E0 d L8) K f F.md F.a F.r = S K) (e:S K0 = F.spec):Sd Tryz.prog E0 F:=mkS h8 hf ho ((h K0).trans e)
abbrev Ed8:Env:=En E0 true L8
def zaJ:(qK × Unit)→Option (Bool × Unit):=fun (x0,()) =>
  Option.bind (zhL (x0.1,x0.2.1.2.2.1,())) fun q0=>bif q0.1 then Option.bind (zls (x0.2.1.2.2.2.1,())) fun q1=>bif q1.1 then Option.bind (zjF (x0.2.1.2.2.2.2.1,())) fun q2=>bif q2.1 then Option.bind (zdC (x0.2.1,ze zX,())) fun q3=>bif q3.1 then Option.bind (zfr (x0.2.1.2.2.2.1,some fun z=>zdv (z.1,some x0,()),())) fun q4=>bif q4.1 then Option.bind (zcz (x0.2.1.2.2.2.2.1,some fun z=>zaU (z.1,some x0,()),())) fun q5=>bif q5.1 then Option.bind (yU (x0.2.1.2.2.2.2.2.1,some fun z=>vb (z.1,some x0,()),())) fun q6=>bif q6.1 then some (true,()) else some (false,()) else Option.bind (yU (x0.2.1.2.2.2.2.2.1,some fun z=>vb (z.1,some x0,()),())) fun q7=>bif q7.1 then some (false,()) else some (false,()) else Option.bind (zcz (x0.2.1.2.2.2.2.1,some fun z=>zaU (z.1,some x0,()),())) fun q8=>bif q8.1 then Option.bind (yU (x0.2.1.2.2.2.2.2.1,some fun z=>vb (z.1,some x0,()),())) fun q9=>bif q9.1 then some (false,()) else some (false,()) else Option.bind (yU (x0.2.1.2.2.2.2.2.1,some fun z=>vb (z.1,some x0,()),())) fun q10=>bif q10.1 then some (false,()) else some (false,()) else some (false,()) else some (false,()) else some (false,()) else some (false,())
abbrev zn9:Fun:=⟨36,(ch [qe]),(ch [.bool]),0,zaJ⟩
theorem zxz:Sq zn9:=ms8 (d:=false) (K:=0) Tryz.func36 (by kernel_rfl) (funext fun (x0,())=>by kernel_rfl)
def ziX:(zf × (Int × (Int × Unit)))→Option (Bool × Unit):=fun (x0,x1,x2,()) =>
  Option.bind (zb5 (x0,x1,())) fun q0=>bif q0.1 then Option.bind (zb5 (x0,x2,())) fun q1=>bif q1.1 then inR x1 ((List.length x0.1):Int) (inR x2 ((List.length x0.1):Int) (Option.bind (zaC (ix qy x0.1 x1,ix qy x0.1 x2,())) fun q2=>bif q2.1 then some (true,()) else some (false,()))) else some (false,()) else some (false,())
abbrev ztd:Fun:=⟨18,(ch [zw,tI,tI]),(ch [.bool]),0,ziX⟩
theorem zCk:Sq ztd:=ms8 (d:=false) (K:=0) Tryz.func18 (by kernel_rfl) (funext fun (x0,x1,x2,())=>by kernel_rfl)
end
end Go.Proofs.YtokcjmkikhgkeaaGreatDoor
end
