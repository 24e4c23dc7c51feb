import Derived.Test.YtokcjmkikhgkeaaGreatDoorMac
import Derived.Carry
import Derived.OpenShut
import Derived.Test.YtokcjmkikhgkeaaGreatDoorProg
set_option linter.unusedSimpArgs false
set_option linter.unusedVariables false
section
namespace Go.Ev
open Go.RowKit
section
variable {P:Program} {nt:Up} {F0 F G:FH} {w0 w:World} {st st':St} {m:MM} {a:Act} {E:Env} {v:AV} {u:Value}
def zm0 (ids:Nat→Option Nat) (h:List Obj):(b:Ty)→Nat→b.I→List AV→Prop
  | .pair (.sl σ) b,i,x,v :: vs=>(∃ id,v = .ow id ∧ ids i = some id ∧ atN h id = some (mkO σ (bif σ.deep then some (List.length x.1) else none) x.1)) ∧ zm0 ids h b (i + 1) x.2 vs
  | .pair a b,i,x,v :: vs=>v = .dat a x.1 ∧ zm0 ids h b (i + 1) x.2 vs
  | .unit,_,_,[]=>True
  | _,_,_,_=>False
theorem zm0.ids {ids ids':Nat→Option Nat} {h:List Obj}:∀ {b:Ty} {i:Nat} {x:b.I} {vs:List AV},(∀ f,i ≤ f→ids' f = ids f)→zm0 ids h b i x vs→zm0 ids' h b i x vs:=by
  intro b
  induction b with
  | unit=>intro i x vs _ ho; cases vs <;> exact ho
  | pair t b _ ihb =>
    intro i x vs hi ho
    cases vs with
    | nil=>cases t <;> exact ho.elim
    | cons v vs =>
      cases t with
      | sl σ =>
        obtain ⟨⟨id,h1,h2,h3⟩,h4⟩:=ho
        exact ⟨⟨id,h1,by rw [hi i (Nat.le_refl _)]; exact h2,h3⟩,ihb (fun f hf=>hi f (by omega)) h4⟩
      | _=>exact ⟨ho.1,ihb (fun f hf=>hi f (by omega)) ho.2⟩
  | _=>intro i x vs _ ho; cases vs <;> exact ho.elim
theorem zm0.heap {ids:Nat→Option Nat} {h h':List Obj}:∀ {b:Ty} {i:Nat} {x:b.I} {vs:List AV},(∀ f id,ids f = some id→atN h' id = atN h id)→zm0 ids h b i x vs→zm0 ids h' b i x vs:=by
  intro b
  induction b with
  | unit=>intro i x vs _ ho; cases vs <;> exact ho
  | pair t b _ ihb =>
    intro i x vs hi ho
    cases vs with
    | nil=>cases t <;> exact ho.elim
    | cons v vs =>
      cases t with
      | sl σ =>
        obtain ⟨⟨id,h1,h2,h3⟩,h4⟩:=ho
        exact ⟨⟨id,h1,h2,by rw [hi _ _ h2]; exact h3⟩,ihb hi h4⟩
      | _=>exact ⟨ho.1,ihb hi ho.2⟩
  | _=>intro i x vs _ ho; cases vs <;> exact ho.elim
theorem zFl {h h0 h1:List Obj} (hdr:∀ i τ xs k,atN h i = some (.drow τ xs k)→τ.deep = true) {t:Ty} {x:t.I} (hz:ztA h0 t v = some (x,h1)) (l:yK h0 h) :
    (v = .dat t x ∧ t.dl = false ∧ h1 = h0) ∨ ∃ (σ:Ty) (xs:List σ.I) (id:Nat),(⟨t,x⟩:(τ:Ty) × τ.I) = ⟨.sl σ,xs⟩ ∧ v = .ow id ∧ atN h id = some (mkO σ (bif σ.deep then some (List.length xs) else none) xs) ∧ atN h0 id ≠ some .gone ∧ (∃ o,atN h0 id = some o) ∧ h1 = zi h0 id .gone:=by
  cases v with
  | dat τ y =>
    simp only [ztA] at hz
    obtain ⟨hdl,hz⟩:=qq hz
    split at hz
    · rename_i z hc
      cases hz
      obtain ⟨rfl,rfl⟩:=zK hc
      exact .inl ⟨rfl,hdl,rfl⟩
    · cases hz
  | ow id =>
    simp only [ztA] at hz
    right
    split at hz
    · rename_i τ xs ho
      obtain ⟨hd,hz⟩:=qq hz
      split at hz
      · rename_i z hc
        cases hz
        obtain ⟨e,rfl⟩:=zK hc
        subst e
        refine ⟨τ,xs,id,rfl,rfl,?_,(by rw [ho]; intro e; cases e),⟨_,ho⟩,rfl⟩
        rw [l.at ho (by intro e; cases e),hd]
        rfl
      · cases hz
    · rename_i τ xs n ho
      split at hz
      · rename_i z hc
        obtain ⟨hn,hz⟩:=zd hz
        cases hz
        obtain ⟨e,rfl⟩:=zK hc
        subst e
        have hat:=l.at ho (by intro e; cases e)
        refine ⟨τ,xs,id,rfl,rfl,?_,(by rw [ho]; intro e; cases e),⟨_,ho⟩,rfl⟩
        rw [hat,hdr _ _ _ _ hat,of_decide_eq_true hn]
        rfl
      · cases hz
    · cases hz
  | _=>cases hz
theorem zx8 {h:List Obj} (hdr:∀ i τ xs k,atN h i = some (.drow τ xs k)→τ.deep = true):∀ {b:Ty} {vs:List AV} {x:b.I} {h0 h1:List Obj} (i:Nat),ownC b vs h0 = some (x,h1)→yK h0 h →
    ∃ ids:Nat→Option Nat,zm0 ids h b i x vs ∧ yK h1 h ∧ (∀ f id,ids f = some id→i ≤ f ∧ atN h0 id ≠ some .gone ∧ atN h1 id = some .gone ∧ ∃ σ k xs,atN h id = some (mkO σ k xs)) ∧ (∀ j,atN h0 j = some .gone→atN h1 j = some .gone) ∧
      ∀ f f' id,ids f = some id→ids f' = some id→f = f':=by
  intro b
  induction b with
  | unit =>
    intro vs x h0 h1 i hz l
    cases vs with
    | nil=>cases hz; exact ⟨fun _=>none,trivial,l,fun f id e=>(by cases e),fun _ h=>h,fun f f' id e=>(by cases e)⟩
    | cons _ _=>cases hz
  | pair t b _ ihb =>
    intro vs x h0 h1 i hz l
    cases vs with
    | nil=>cases hz
    | cons v vs =>
      simp only [ownC] at hz
      split at hz
      · rename_i y h2 hy
        split at hz
        · rename_i ys h3 hys
          cases hz
          rcases zFl hdr hy l with ⟨rfl,hdl,rfl⟩ | ⟨σ,xs,id,e,rfl,hat,hng,⟨o,ho⟩,rfl⟩
          · obtain ⟨ids,g1,g2,g3,g4,g5⟩:=ihb (i + 1) hys l
            refine ⟨ids,?_,g2,fun f id hf=>⟨by have:=(g3 f id hf).1; omega,(g3 f id hf).2⟩,g4,g5⟩
            cases t with
            | sl σ=>cases hdl
            | _=>exact ⟨rfl,g1⟩
          · cases e
            obtain ⟨ids,g1,g2,g3,g4,g5⟩:=ihb (i + 1) hys (l.gone ho)
            have hid:atN (zi h0 id .gone) id = some .gone:=yt ho
            have hids:∀ f,i + 1 ≤ f→(if f = i then some id else ids f) = ids f:=fun f hf=>by rw [if_neg (by omega)]
            refine ⟨fun f=>if f = i then some id else ids f,⟨⟨id,rfl,if_pos rfl,hat⟩,g1.ids hids⟩,g2,fun f id' hf=>?_,fun j hj=>?_,fun f f' id' hf hf'=>?_⟩
            · by_cases e:f = i
              · simp only [e,if_true,Option.some.injEq] at hf
                subst hf
                exact ⟨by omega,hng,g4 _ hid,σ,_,_,hat⟩
              · simp only [e,if_false] at hf
                obtain ⟨k1,k2,k3,k4⟩:=g3 f id' hf
                refine ⟨by omega,fun hg=>k2 ?_,k3,k4⟩
                by_cases e2:id = id'
                · rw [← e2]; exact hid
                · rw [qm e2]; exact hg
            · refine g4 j ?_
              by_cases e2:id = j
              · rw [← e2]; exact hid
              · rw [qm e2]; exact hj
            · by_cases e:f = i <;> by_cases e':f' = i
              · omega
              · simp only [e,if_true,Option.some.injEq] at hf
                simp only [e',if_false] at hf'
                subst hf
                exact absurd hid (g3 f' _ hf').2.1
              · simp only [e,if_false] at hf
                simp only [e',if_true,Option.some.injEq] at hf'
                subst hf'
                exact absurd hid (g3 f _ hf).2.1
              · simp only [e,if_false] at hf
                simp only [e',if_false] at hf'
                exact g5 f f' id' hf hf'
        · cases hz
      · cases hz
  | _=>intro vs x h0 h1 i hz l; cases vs <;> cases hz
def MM.ofI (m:MM) (ids:Nat→Option Nat):Nat→Nat→List Nat→Option (Nat × Nat):=fun f=>match ids f with | some id=>m.d id | none=>fun _ _=>none
theorem MM.ofI_some {m:MM} {ids:Nat→Option Nat} {f j:Nat} {p:List Nat} {b:Nat × Nat} (h:m.ofI ids f j p = some b):∃ id,ids f = some id ∧ m.d id j p = some b:=by
  unfold MM.ofI at h
  cases hi:ids f with
  | none=>rw [hi] at h; cases h
  | some id=>rw [hi] at h; exact ⟨id,rfl,h⟩
theorem zC4 (h:Rel P nt F0 w0 st m F a w) {ids:Nat→Option Nat}:∀ {b:Ty} {i:Nat} {x:b.I} {vs:List AV} {cs:List Value},zm0 ids st.h b i x vs→zR P st.h m F b vs cs→zgZ P F w (fun f=>(ids f).bind m) (m.ofI ids) b i x cs:=by
  intro b
  induction b with
  | unit =>
    intro i x vs cs ho hv
    cases vs with
    | nil=>exact hv
    | cons _ _=>exact hv.elim
  | pair t b _ ihb =>
    intro i x vs cs ho hv
    cases vs with
    | nil=>exact hv.elim
    | cons v vs =>
      obtain ⟨c,d,rfl,h1,h2⟩:=hv
      cases t with
      | sl σ =>
        obtain ⟨⟨id,rfl,hi,hat⟩,h4⟩:=ho
        obtain ⟨σ',u,e1,rfl,hs,_⟩:=h1
        cases e1
        refine ⟨u,d,rfl,⟨fun j p bk n hp=>?_,?_⟩,ihb h4 h2⟩
        · obtain ⟨id',hi',hp⟩:=MM.ofI_some hp
          rw [hi] at hi'; cases hi'
          obtain ⟨⟨o,g1,g2⟩,_⟩:=h.dok _ _ _ _ _ hp
          rw [hat] at g1
          cases g1
          cases hd:σ.deep with
          | false=>rw [hd] at g2; cases g2
          | true =>
            rw [hd] at g2
            simp only [cond_true,mkO,Obj.deepAt,decide_eq_true_eq] at g2
            exact ⟨rfl,g2⟩
        · have hq:=zC.owAt hat (znr _ _ _) hs
          show match (ids i).bind m with | some (b,n)=>_ | none=>_
          rw [hi,Option.bind_some]
          cases hmi:m id with
          | none =>
            rw [hmi] at hq
            exact ⟨zzY (h.obs _ _ hat) hmi,hq.2⟩
          | some bn =>
            obtain ⟨bk,n⟩:=bn
            rw [hmi] at hq
            obtain ⟨cap,g1,g2,g3⟩:=hq
            refine ⟨cap,g1,g2,g3,?_⟩
            have:=zoF (h.obs _ _ hat) hmi
            have hd:m.ofI ids i = m.d id:=by unfold MM.ofI; rw [hi]
            rw [hd]
            exact this
      | _ =>
        obtain ⟨rfl,h4⟩:=ho
        exact ⟨c,d,rfl,h1.2,ihb h4 h2⟩
  | _=>intro i x vs cs ho; cases vs <;> exact ho.elim
theorem zC5 (h:Rel P nt F0 w0 st m F a w) {ids:Nat→Option Nat} (hat:∀ f id,ids f = some id→∃ σ k xs,atN st.h id = some (mkO σ k xs)) (hinj:∀ f f' id,ids f = some id→ids f' = some id→f = f'):zzL F w w0.heap.size (fun f=>(ids f).bind m) (m.ofI ids):=by
  refine ⟨fun f b n hf=>?_,fun f j p b n hp=>?_,fun f f' b n n' hf hf'=>?_,fun f j p b n f' j' p' n' hp hp'=>?_,fun f b n f' j p n' hf hp=>?_⟩
  · obtain ⟨id,hi,hf⟩:=Option.bind_eq_some_iff.1 hf
    obtain ⟨σ,k,xs,ho⟩:=hat f id hi
    obtain ⟨el,cs,c,d,_,_,_,hF,_⟩:=zoF (h.obs _ _ ho) hf
    have:=h.rng _ _ _ hf
    exact ⟨this.2.1,this.2.2,hF⟩
  · obtain ⟨id,hi,hp⟩:=MM.ofI_some hp
    have:=h.dok _ _ _ _ _ hp
    exact ⟨this.2.1,this.2.2.1,this.2.2.2.1⟩
  · obtain ⟨id,hi,hf⟩:=Option.bind_eq_some_iff.1 hf
    obtain ⟨id',hi',hf'⟩:=Option.bind_eq_some_iff.1 hf'
    have:=h.inj _ _ _ _ _ hf hf'
    subst this
    exact hinj _ _ _ hi hi'
  · obtain ⟨id,hi,hp⟩:=MM.ofI_some hp
    obtain ⟨id',hi',hp'⟩:=MM.ofI_some hp'
    obtain ⟨rfl,e2,e3⟩:=h.din _ _ _ _ _ _ _ _ _ hp hp'
    exact ⟨hinj _ _ _ hi hi',e2,e3⟩
  · obtain ⟨id,hi,hf⟩:=Option.bind_eq_some_iff.1 hf
    obtain ⟨id',hi',hp⟩:=MM.ofI_some hp
    exact (h.dok _ _ _ _ _ hp).2.2.2.2 _ _ hf
theorem zGg {ρ:Type} {h:List Obj} {σ:Ty} {v:AV} {k:σ.I→List Obj→Option ρ}:zDi h σ v k = (ztA h σ v).bind fun p=>k p.1 p.2:=by
  unfold zDi ztA
  cases v with
  | dat τ x =>
    simp only
    cases τ.dl with
    | true=>rfl
    | false=>simp only [cond_false]; cases qL τ σ x <;> rfl
  | ow id =>
    simp only
    cases atN h id with
    | none=>rfl
    | some o =>
      cases o with
      | row τ xs f =>
        cases f with
        | true=>rfl
        | false =>
          simp only
          cases τ.deep with
          | true=>rfl
          | false=>simp only [cond_false]; cases qL (.sl τ) σ xs <;> rfl
      | drow τ xs n =>
        simp only
        cases qL (.sl τ) σ xs with
        | none=>rfl
        | some x=>simp only; cases decide (n = List.length xs) <;> rfl
      | _=>rfl
  | _=>rfl
theorem zAg {ρ:Type}:∀ {σ:Ty} {vs:List AV} {h:List Obj} {k:σ.I→List Obj→Option ρ},zuW σ vs h k = (ownC σ vs h).bind fun p=>k p.1 p.2:=by
  intro σ
  induction σ with
  | unit=>intro vs h k; cases vs <;> rfl
  | pair a b _ ihb =>
    intro vs h k
    cases vs with
    | nil=>rfl
    | cons v vs =>
      simp only [zuW,ownC,zGg,ihb]
      cases ztA h a v with
      | none=>rfl
      | some p =>
        obtain ⟨x,h1⟩:=p
        simp only [Option.bind_some]
        cases ownC b vs h1 <;> rfl
  | _=>intro vs h k; cases vs <;> rfl
theorem zFm {md:Nat} {r:Ty} {y:r.I} {vs:List AV} {us:List Value} (h:Rel P nt F0 w0 st m F a w) (hv:jt P st.h m F vs us) (hz:zDj md r vs st = some y) :
    ∃ F',F0.grow F' w0.heap.size ∧ F'.ok w ∧ zir P F' w w0.heap.size md r y us:=by
  unfold zDj at hz
  split at hz
  ·
    rename_i b c v vs
    split at hz
    · rename_i x h1 hx
      split at hz
      · rename_i p hp
        cases hz
        obtain ⟨u,r,rfl,hv1,hv2⟩:=hv
        obtain ⟨id,k,rfl,hat,rfl,hkr⟩:∃ id k,v = .ow id ∧ atN st.h id = some (mkO b k x) ∧ h1 = zi st.h id .gone ∧ (k = none ∨ k = some 0):=by
          unfold zEI at hx
          split at hx
          · rename_i id
            split at hx
            · rename_i τ xs ho
              split at hx
              · rename_i z hc
                cases hx
                obtain ⟨e,rfl⟩:=zK hc
                cases e
                exact ⟨id,none,rfl,ho,rfl,.inl rfl⟩
              · cases hx
            · rename_i τ xs n ho
              split at hx
              · rename_i z hc
                obtain ⟨hn,hx⟩:=zd hx
                cases hx
                obtain ⟨e,rfl⟩:=zK hc
                cases e
                have hn:n = 0:=of_decide_eq_true hn
                subst hn
                exact ⟨id,some 0,rfl,ho,rfl,.inr rfl⟩
              · cases hx
            · cases hx
          · cases hx
        obtain ⟨st2fr,st2h⟩:=st
        have l:yK (zi st2h id .gone) st2h:=(yK.refl st2h).gone hat
        obtain ⟨h',e1,e2,e3⟩:=zmZ l (show jA false c vs ⟨st2fr,zi st2h id .gone⟩ = some (p.1,p.2) from hp)
        obtain ⟨m',F',g1,g2,g3⟩:=zdS e1 h hv2
        have hat':atN h' id = some (mkO b k x):=by rw [(e3.2 id (yt hat)).2]; exact hat
        have hq:=zC.owAt hat' (znr _ _ _) (show zC P h' m' F' (.ow id) u from hv1.ext g3)
        refine ⟨F',g1.gro,g1.fok,?_⟩
        simp only [zir]
        refine ⟨u,r,rfl,g2,?_⟩
        cases hmi:m' id with
        | none =>
          rw [hmi] at hq
          exact .inr ⟨zzY (g1.obs _ _ hat') hmi,hq.2⟩
        | some bn =>
          obtain ⟨bk,n⟩:=bn
          rw [hmi] at hq
          obtain ⟨cap,k1,k2,k3⟩:=hq
          obtain ⟨el,cs,cc,d,f1,f2,f3,f4,f5⟩:=zoF (g1.obs _ _ hat') hmi
          refine .inl ⟨bk,cap,el,cs,cc,d,k3,k2,(g1.rng _ _ _ hmi).2.1,f1,f4,by rw [f2,k1],f3,?_⟩
          rcases hkr with rfl | rfl
          · exact f5
          · exact zX.toL (fun j x c _ _ hx=>by unfold DE at hx; rw [if_neg (by omega)] at hx; exact hx) (show zX (DE P F' w (m'.d id) b 0) 0 x cc from f5)
      · cases hz
    · cases hz
  ·
    rename_i b c c' vs us'
    obtain ⟨hbc,hz⟩:=zd hz
    simp only [decide_eq_true_eq] at hbc
    rw [zAg] at hz
    obtain ⟨⟨x,h1⟩,hx,hz⟩:=Option.bind_eq_some_iff.1 hz
    · split at hz
      · rename_i p hp
        cases hz
        obtain ⟨u,r,rfl,hv1,hv2⟩:=hv
        obtain ⟨cs,rfl,hfs⟩:=(show zB P st.h m F (.fld c' vs) u from hv1)
        subst hbc
        obtain ⟨ids,k1,k2,k3,k4,k5⟩:=zx8 (fun i τ xs k ho=>(h.drowk ho).2) 0 hx (yK.refl _)
        obtain ⟨st2fr,st2h⟩:=st
        obtain ⟨h',e1,e2,e3⟩:=zmZ k2 (show jA false c us' ⟨st2fr,h1⟩ = some (p.1,p.2) from hp)
        obtain ⟨m',F',g1,g2,g3⟩:=zdS e1 h hv2
        have hkeep:∀ f id,ids f = some id→atN h' id = atN st2h id:=fun f id hf=>(e3.2 id (k3 f id hf).2.2.1).2
        refine ⟨F',g1.gro,g1.fok,?_⟩
        simp only [zir]
        refine ⟨.agg cs,r,cs,_,_,rfl,g2,rfl,zC4 g1 (k1.heap hkeep) (hfs.ext g3),zC5 g1 (fun f id hf=>?_) k5⟩
        obtain ⟨σ,k,xs,ho⟩:=(k3 f id hf).2.2.2
        exact ⟨σ,k,xs,by rw [hkeep f id hf]; exact ho⟩
      · cases hz
  ·
    rename_i b c v us'
    rw [zAg] at hz
    obtain ⟨⟨x,h1⟩,hx,hz⟩:=Option.bind_eq_some_iff.1 hz
    · split at hz
      · rename_i p hp
        cases hz
        obtain ⟨u,r,rfl,hv1,hv2⟩:=hv
        obtain ⟨ids,k1,k2,k3,k4,k5⟩:=zx8 (fun i τ xs k ho=>(h.drowk ho).2) 0 hx (yK.refl _)
        obtain ⟨⟨id,rfl,hi0,hat0⟩,_⟩:=(show (∃ id,v = .ow id ∧ ids 0 = some id ∧ atN st.h id = some (mkO b _ x.1)) ∧ _ from k1)
        have hT:zaO st.h id = some b:=by rw [zrZ hat0,znr]; rfl
        have hfs:zR P st.h m F (.pair (.sl b) .unit) [.ow id] [u]:=⟨[u],[],rfl,vD.ofRow hT (show zC P st.h m F (.ow id) u from hv1),rfl⟩
        obtain ⟨st2fr,st2h⟩:=st
        obtain ⟨h',e1,e2,e3⟩:=zmZ k2 (show jA false c us' ⟨st2fr,h1⟩ = some (p.1,p.2) from hp)
        obtain ⟨m',F',g1,g2,g3⟩:=zdS e1 h hv2
        have hkeep:∀ f id,ids f = some id→atN h' id = atN st2h id:=fun f id hf=>(e3.2 id (k3 f id hf).2.2.1).2
        refine ⟨F',g1.gro,g1.fok,?_⟩
        simp only [zir]
        refine ⟨u,r,_,_,rfl,g2,zC4 g1 (k1.heap hkeep) (hfs.ext g3),zC5 g1 (fun f id hf=>?_) k5⟩
        obtain ⟨σ,k,xs,ho⟩:=(k3 f id hf).2.2.2
        exact ⟨σ,k,xs,by rw [hkeep f id hf]; exact ho⟩
      · cases hz
  ·
    split at hz
    · rename_i p hp
      cases hz
      obtain ⟨m',F',g1,g2,_⟩:=zdS (x:=p.1) (st':=p.2) hp h hv
      exact ⟨F',g1.gro,g1.fok,g2⟩
    · cases hz
  · cases hz
theorem zFn (hm:P.follows .mixedOrders = true) (hE:EnvOk P G E) {fi:FuncId} {f:Func} (hf:P.funcs[fi]? = some f) {K md:Nat} {a r:Ty} {x:a.I} {y:r.I} (he:evF E K f md a r x = some y)
    {F0:FH} {w:World} {vs:List Value} (hG:G.le F0) (hk:F0.ok w) (hr:RepA P F0 a x vs) :
    Calls P fi vs.toArray w fun e w'=>∃ us F',e = .returned (zor us) ∧ Below w.heap.size w w' ∧ F0.grow F' w.heap.size ∧ F'.ok w' ∧ zir P F' w' w.heap.size md r y us:=by
  unfold evF at he
  cases hb:f.body with
  | none=>rw [hb] at he; cases he
  | some c =>
    rw [hb] at he
    simp only at he
    have hE':EnvOk P G { E with nt:=f.ntmps }:=⟨hE.types,hE.funs,hE.glob,hE.ext,hE.hnd⟩
    refine calls_of_wp hf hb ?_
    refine zC3 (nt:=⟨f.ntmps,[],F0⟩) (F0:=F0) (w0:=w) (.inr rfl) hm hE' hG rfl c (r:=y) ?_ ⟨_,F0,Rel.enter hk hr f.ntmps⟩ he
    rintro e st a' w' ⟨m,F,h⟩ hfin
    have hdone:(cond ((f.results.toList.map (zcw { E with nt:=f.ntmps } st)).all Option.isSome) (zDj md r ((f.results.toList.map (zcw { E with nt:=f.ntmps } st)).filterMap id) st) none) = some y →
        a'.defers = [] ∧ ∃ v,(results f a'.tmps).run P w' = .ok v w' ∧ ∃ us F',Ending.returned v = .returned (zor us) ∧ Below w.heap.size w w' ∧ F0.grow F' w.heap.size ∧ F'.ok w' ∧ zir P F' w' w.heap.size md r y us:=by
      intro hfin
      obtain ⟨h1,h2⟩:=zd hfin
      obtain ⟨us,h3,h4⟩:=zs3 hE' h (zjD h1)
      obtain ⟨F',g1,g2,g3⟩:=zFm h h4 h2
      exact ⟨h.dfr,_,h3,us,F',rfl,h.bel,g1,g2,g3⟩
    cases e with
    | normal=>exact hdone hfin
    | ret=>exact hdone hfin
    | exit id=>cases hfin
theorem jt.one {h:List Obj}:∀ {vs:List AV} {us:List Value},jt P h m F vs us→vs.all AV.one = true→ziT P h m F vs us
  | [],_,e,_=>e
  | v :: vs,_,⟨u,r,e,h1,h2⟩,ho=>by
    simp only [List.all_cons,Bool.and_eq_true] at ho
    rw [zh.eq1 (by rintro ws rfl; cases ho.1)] at h1
    exact ⟨u,r,e,h1,jt.one h2 ho.2⟩
theorem zvv:∀ {vs:List AV} {us:List Value} {h:List Obj} {m:MM} {F:FH} {i t:Nat} {v:AV},look (slots vs i) t = some v→jt P h m F vs us→i ≤ t ∧ ∃ u,us[t - i]? = some u ∧ zh P h m F v u
  | [],_,_,_,_,_,_,_,h,_=>by simp [slots,look] at h
  | x :: vs,_,hp,m,F,i,t,v,h,⟨u,r,rfl,h1,h2⟩=>by
    simp only [slots] at h
    by_cases e:i = t
    · subst e
      simp only [look,beq_self,cond_true,Option.some.injEq] at h
      subst h
      exact ⟨Nat.le_refl _,u,by simp,h1⟩
    · simp only [look,zaQ e,cond_false] at h
      obtain ⟨g1,u',g2,g3⟩:=zvv h h2
      refine ⟨by omega,u',?_,g3⟩
      rw [show t - i = (t - (i + 1)) + 1 by omega,List.getElem?_cons_succ]
      exact g2
theorem zG0 (hm:P.follows .mixedOrders = true) (hE:EnvOk P G E) {fi:FuncId} {f:Func} (hf:P.funcs[fi]? = some f) (hn:(f.name == "runtime.NumGoroutine") = false) (hb':f.body.isNone = false):zHm P G fi (zHv E f):=by
  refine ⟨⟨f,hf,hn,hb'⟩,fun args h h' v he nt F0 w0 fr m F a w vs hG hr hv=>?_⟩
  change zoL E f (AV × List Obj) args h (fun v h=>some (v,h)) = some (v,h') at he
  unfold zoL at he
  cases hb:f.body with
  | none=>rw [hb] at he; cases he
  | some c =>
    rw [hb] at he
    simp only at he
    have hE':EnvOk P G (inE E f):=⟨hE.types,hE.funs,hE.glob,hE.ext,hE.hnd⟩
    refine calls_of_wp hf hb ?_
    let up:List (AV × Value):=fr.filterMap (fun p=>(look fr p.1).map fun v=>(v,a.tmps.getD p.1 undef)) ++ nt.up
    have hup:∀ v u,(v,u) ∈ up→zh P h m F v u:=by
      intro v u hv
      rcases List.mem_append.1 hv with hv | hv
      · obtain ⟨p,hp,e⟩:=List.mem_filterMap.1 hv
        obtain ⟨v',h1,h2⟩:=Option.map_eq_some_iff.1 e
        cases h2
        exact hr.fr _ _ h1
      · exact hr.up v u hv
    have hst:Rel P ⟨f.ntmps,up,F⟩ F0 w0 ⟨slots args 0,h⟩ m F { tmps:=vs.toArray ++ Array.replicate (f.ntmps - vs.toArray.size) undef,defers:=[] } w:=by
      refine ⟨by simp; omega,fun t v ht=>?_,hup,.refl F,hr.obs,hr.inj,hr.rng,hr.dok,hr.din,hr.fok,hr.gro,hr.bel,rfl⟩
      obtain ⟨_,u,h2,h3⟩:=zvv ht hv
      rw [Nat.sub_zero] at h2
      have hlt:=(List.getElem?_eq_some_iff.1 h2).1
      have:(vs.toArray ++ Array.replicate (f.ntmps - vs.toArray.size) undef).getD t undef = u:=by
        rw [Array.getD_eq_getD_getElem?,Array.getElem?_append_left (by simpa using hlt)]
        simp [h2]
      rw [this]
      exact h3
    refine zC3 (nt:=⟨f.ntmps,up,F⟩) (F0:=F0) (w0:=w0) (.inl rfl) hm hE' hG rfl c (r:=(v,h')) ?_ ⟨m,F,hst⟩ he
    rintro e st a' w' ⟨m',F',h2⟩ hfin
    have hdone:(cond ((f.results.toList.map (zcw (inE E f) st)).all Option.isSome && ((f.results.toList.map (zcw (inE E f) st)).filterMap id).all AV.one) (some (unT ((f.results.toList.map (zcw (inE E f) st)).filterMap id),st.h)) none) = some (v,h') →
        a'.defers = [] ∧ ∃ v1,(results f a'.tmps).run P w' = .ok v1 w' ∧ ∃ u m' F',Ending.returned v1 = .returned u ∧ F.le F' ∧ Rel P nt F0 w0 ⟨fr,h'⟩ m' F' a w' ∧ zh P h' m' F' v u:=by
      intro hfin
      obtain ⟨g1,g2⟩:=zd hfin
      rw [Bool.and_eq_true] at g1
      cases g2
      obtain ⟨us,g3,g4⟩:=zs3 hE' h2 (zjD g1.1)
      refine ⟨h2.dfr,_,g3,_,m',F',rfl,h2.lo,⟨hr.nt,fun t v ht=>?_,fun v u hv=>h2.up v u (List.mem_append.2 (.inr hv)),hr.lo.trans h2.lo,h2.obs,h2.inj,h2.rng,h2.dok,h2.din,h2.fok,h2.gro,h2.bel,hr.dfr⟩,zcH (jt.one g4 g1.2)⟩
      have hmem:∀ (l:List (Nat × AV)),look l t = some v→∃ p ∈ l,p.1 = t:=by
        intro l
        induction l with
        | nil=>intro h; simp [look] at h
        | cons p l ih =>
          intro h
          obtain ⟨k,y⟩:=p
          simp only [look] at h
          cases hb:Nat.beq k t with
          | true=>exact ⟨(k,y),by simp,Nat.eq_of_beq_eq_true hb⟩
          | false=>rw [hb] at h; obtain ⟨p,hp,e⟩:=ih h; exact ⟨p,by simp [hp],e⟩
      obtain ⟨p,hp,rfl⟩:=hmem fr ht
      exact h2.up v _ (List.mem_append.2 (.inl (List.mem_filterMap.2 ⟨p,hp,by rw [ht]; rfl⟩)))
    cases e with
    | normal=>exact hdone hfin
    | ret=>exact hdone hfin
    | exit id=>cases hfin
end
end Go.Ev
end
section
namespace Go.Ev
open Go.RowKit Go.ChangeShapes
def InR:(τ:Ty)→τ.I→Prop
  | .int k,n=>(Lit.int k n).wf = true
  | .str,s=>ByteArray.size s ≤ maxLen
  | .pair a b,x=>InR a x.1 ∧ InR b x.2
  | .st a,x=>InR a x
  | .arr n a,xs=>List.length xs = n ∧ ∀ x ∈ (show List a.I from xs),InR a x
  | .sl a,xs=>List.length xs ≤ maxLen ∧ ∀ x ∈ (show List a.I from xs),InR a x
  | _,_=>True
def Ty.data:Ty→Bool
  | .bool | .int _ | .str | .unit=>true
  | .pair a b=>a.data && b.data
  | .st a=>a.data
  | .arr _ a=>a.data
  | .sl a=>a.data
  | _=>false
mutual
def dbk {H:Type}:DataW H→Nat
  | .slice elems _=>zfy elems + 1
  | .agg parts=>zfy parts + 1
  | _=>1
def zfy {H:Type}:List (DataW H)→Nat
  | []=>0
  | d :: r=>dbk d + zfy r
end
def bkI:(τ:Ty)→τ.I→Nat
  | .unit,_=>0
  | .pair a b,x=>bkI a x.1 + bkI b x.2
  | .st a,x=>bkI a x + 1
  | .arr _ a,xs=>(List.map (bkI a) xs).sum + 1
  | .sl a,xs=>(List.map (bkI a) xs).sum + 1
  | _,_=>1
theorem zr9 {H:Type} (d:DataW H):1 ≤ dbk d:=by cases d <;> simp [dbk]
section
variable {P:Program} {H:Type} {enc:TypeId × Value→H} {w:World} {base:Nat} {sp:Nat→Bool} {held:Bool}
theorem zAh {a:Addr} {j:Nat} {v:Value} (h:w.cell? (a.add j) = some v) (h0:a.spot = none ∨ j = 0):a.spot = none ∧ ∃ c el fz,w.heap[a.block]? = some (.cells c el fz) ∧ c[a.off + j]? = some v:=by
  have hs:a.spot = none:=by
    rcases h0 with h0 | rfl
    · exact h0
    · have:a.add 0 = a:=by unfold Addr.add; rfl
      rw [this] at h
      unfold World.cell? at h
      split at h
      · cases hsp:a.spot with
        | none=>rfl
        | some x=>rw [hsp] at h; simp at h
      · cases h
  refine ⟨hs,?_⟩
  rw [zov hs] at h
  unfold World.cell? at h
  simp only at h
  split at h
  · rename_i c el fz hk
    exact ⟨c,el,fz,hk,by simpa using h⟩
  · cases h
theorem zAi {a:Addr} {n:Nat} {cs:List Value} (h:w.cells? base a n = some cs) (hn:0 < n):∃ c,FH.of w a.block = some c ∧ a.spot = none ∧ ∀ (j:Nat) (v:Value),cs[j]? = some v→c[a.off + j]? = some v:=by
  obtain ⟨hb,hl,hc⟩:=World.cells?_some h
  have h0:=hc 0 hn
  rw [List.getElem?_eq_getElem (by omega)] at h0
  obtain ⟨hs,c,el,fz,hk,_⟩:=zAh h0 (.inr rfl)
  refine ⟨c,by simp [FH.of,hk],hs,fun j v hv=>?_⟩
  have hj:=(List.getElem?_eq_some_iff.1 hv).1
  have:=hc j (by omega)
  rw [hv] at this
  obtain ⟨_,c',_,_,hk',h2⟩:=zAh this (.inl hs)
  rw [hk] at hk'
  cases hk'
  exact h2
theorem zC6 {ad:Addr} {n:Nat} (hn:0 < n) {c:Array Value} (hs:ad.spot = none) (hc:FH.of w ad.block = some c):∀ (m i0:Nat) (css:List (List Value)),((List.range' i0 m).mapM fun i=>w.cells? base (ad.add (i * n)) n) = some css →
    ∀ (j:Nat) (v:Value),css.flatten[j]? = some v→c[ad.off + i0 * n + j]? = some v
  | 0,i0,css,h,j,v,hj=>by simp at h; subst h; simp at hj
  | m + 1,i0,css,h,j,v,hj=>by
    rw [List.range'_succ,List.mapM_cons] at h
    simp only [Option.bind_eq_bind,Option.bind_eq_some_iff,Option.pure_def,Option.some.injEq] at h
    obtain ⟨cs,h1,css',h2,rfl⟩:=h
    have hl:=(World.cells?_some h1).2.1
    obtain ⟨c',h3,_,h5⟩:=zAi h1 hn
    rw [zov hs] at h3 h5
    simp only at h3 h5
    rw [hc] at h3
    cases h3
    rw [List.flatten_cons] at hj
    by_cases hjn:j < n
    · rw [List.getElem?_append_left (by omega)] at hj
      exact h5 j v hj
    · rw [List.getElem?_append_right (by omega),hl] at hj
      have:=zC6 hn hs hc m (i0 + 1) css' h2 (j - n) v hj
      rw [show ad.off + i0 * n + j = ad.off + (i0 + 1) * n + (j - n) by rw [Nat.add_mul]; omega]
      exact this
theorem ztP {α:Type} {R:α→List Value→Prop} {f:Nat→Option (List Value)} {g:List Value→Option (DataW H × List MemPlace)} {I:α→Prop} {bk:α→Nat} (hg:∀ cs y,g cs = some y→∃ x,R x cs ∧ I x ∧ bk x ≤ dbk y.1) :
    ∀ (l:List Nat) (ys:List (DataW H × List MemPlace)),(l.mapM fun i=>(f i).bind g) = some ys→∃ (xs:List α) (css:List (List Value)),xs.length = l.length ∧ l.mapM f = some css ∧ zq R xs css.flatten ∧ (∀ x ∈ xs,I x) ∧ (xs.map bk).sum ≤ zfy (ys.map (·.1))
  | [],ys,h=>⟨[],[],rfl,rfl,rfl,by simp,Nat.zero_le _⟩
  | i :: l,ys,h=>by
    rw [List.mapM_cons] at h
    simp only [Option.bind_eq_bind,Option.bind_eq_some_iff,Option.pure_def,Option.some.injEq] at h
    obtain ⟨y,⟨cs,hcs,hy⟩,ys',h2,rfl⟩:=h
    obtain ⟨x,hx,hI,hk⟩:=hg cs y hy
    obtain ⟨xs,css,h3,h4,h5,h6,h7⟩:=ztP hg l ys' h2
    refine ⟨x :: xs,cs :: css,by simp [h3],?_,⟨cs,css.flatten,rfl,hx,h5⟩,?_,by simp only [List.map_cons,List.sum_cons,zfy]; omega⟩
    · rw [List.mapM_cons,hcs,h4]; rfl
    · intro z hz
      rcases List.mem_cons.1 hz with rfl | hz
      · exact hI
      · exact h6 z hz
theorem znw {cs:List Value} {n:Nat}:∀ (m i0:Nat) (css:List (List Value)),(i0 + m) * n ≤ cs.length→((List.range' i0 m).mapM fun i=>some ((cs.drop (i * n)).take n)) = some css→css.flatten = (cs.drop (i0 * n)).take (m * n)
  | 0,i0,css,_,h=>by simp at h; subst h; simp
  | m + 1,i0,css,hl,h=>by
    rw [List.range'_succ,List.mapM_cons] at h
    simp only [Option.bind_eq_bind,Option.bind_some,Option.bind_eq_some_iff,Option.pure_def,Option.some.injEq] at h
    obtain ⟨css',h2,rfl⟩:=h
    have:=znw m (i0 + 1) css' (by rw [show i0 + 1 + m = i0 + (m + 1) by omega]; exact hl) h2
    rw [List.flatten_cons,this,Nat.add_mul i0 1 n,Nat.one_mul,← List.drop_drop,show (m + 1) * n = n + m * n by rw [Nat.add_mul]; omega,List.take_add]
theorem zGh:∀ (τ:Ty),τ.data = true →
    (∀ (fuel:Nat) (t:TypeId) (cs:List Value) (x:DataW H × List MemPlace),τ.np = true→zT P t τ→DataW.trod enc P w base sp held fuel t cs = some x→∃ y,Rep P (FH.of w) τ y cs ∧ InR τ y ∧ bkI τ y ≤ dbk x.1) ∧
    (∀ (fuel:Nat) (fs:List Field) (off:Nat) (cs:List Value) (xs:List (DataW H × List MemPlace)),(tyB P τ).2 fs off = true→(fs.mapM fun f=>DataW.trod enc P w base sp held fuel f.type ((cs.drop f.offset).take (P.cellsOf f.type))) = some xs→cs.length = off + nc τ→∃ y,Rep P (FH.of w) τ y (cs.drop off) ∧ InR τ y ∧ bkI τ y ≤ zfy (xs.map (·.1))):=by
  intro τ
  induction τ with
  | unit =>
    intro _
    refine ⟨fun fuel t cs x _ h=>(by cases h),fun fuel fs off cs xs h _ hl=>⟨(),?_,trivial,Nat.zero_le _⟩⟩
    show cs.drop off = []
    rw [List.drop_eq_nil_iff]
    simp only [nc] at hl
    omega
  | bool =>
    intro _
    refine ⟨fun fuel t cs x _ h hx=>?_,fun fuel fs off cs xs h=>(by cases h)⟩
    have hu:P.underlying t = some .bool:=by
      simp only [zT,tyB,Bool.and_eq_true] at h
      have:=h.2
      split at this
      · assumption
      · cases this
    cases fuel with
    | zero=>simp [DataW.trod] at hx
    | succ fuel =>
      unfold DataW.trod at hx
      rw [hu] at hx
      split at hx <;> first | (cases hx; done) | skip
      all_goals first | exact ⟨_,rfl,trivial,zr9 _⟩ | (rename_i hh; simp at hh)
  | int k =>
    intro _
    refine ⟨fun fuel t cs x _ h hx=>?_,fun fuel fs off cs xs h=>(by cases h)⟩
    have hu:P.underlying t = some (.int k):=by
      simp only [zT,tyB,Bool.and_eq_true] at h
      have:=h.2
      split at this
      · simp only [decide_eq_true_eq] at this; subst this; assumption
      · cases this
    cases fuel with
    | zero=>simp [DataW.trod] at hx
    | succ fuel =>
      unfold DataW.trod at hx
      rw [hu] at hx
      split at hx <;> first | (cases hx; done) | skip
      · rename_i hh; cases hh
      · rename_i k1 k2 n hh
        cases hh
        split at hx
        · rename_i hc; obtain ⟨rfl,hw⟩:=hc; exact ⟨n,rfl,hw,zr9 _⟩
        · cases hx
      all_goals (rename_i hh; simp at hh)
  | str =>
    intro _
    refine ⟨fun fuel t cs x _ h hx=>?_,fun fuel fs off cs xs h=>(by cases h)⟩
    have hu:P.underlying t = some .string:=by
      simp only [zT,tyB,Bool.and_eq_true] at h
      have:=h.2
      split at this
      · assumption
      · cases this
    cases fuel with
    | zero=>simp [DataW.trod] at hx
    | succ fuel =>
      unfold DataW.trod at hx
      rw [hu] at hx
      split at hx <;> first | (cases hx; done) | skip
      all_goals first
        | (rename_i hh; simp at hh; done)
        | (rename_i s hh; split at hx; · rename_i hc; exact ⟨s,rfl,hc,zr9 _⟩
           · cases hx)
        | skip
  | pair a b iha ihb =>
    intro hd
    simp only [Ty.data,Bool.and_eq_true] at hd
    refine ⟨fun fuel t cs x _ h hx=>?_,fun fuel fs off cs xs h hx hl=>?_⟩
    · rename_i hnp; cases hnp
    · cases fs with
      | nil=>cases h
      | cons f fs =>
        simp only [tyB,Bool.and_eq_true] at h
        obtain ⟨⟨⟨⟨h1,h2⟩,h3⟩,_⟩,h4⟩:=h
        obtain rfl:=Nat.eq_of_beq_eq_true h1
        obtain ⟨i,hi,hsz⟩:=zT.size h2 (Ty.np_spec h3.2)
        rw [List.mapM_cons] at hx
        simp only [Option.bind_eq_bind,Option.bind_eq_some_iff,Option.pure_def,Option.some.injEq] at hx
        obtain ⟨x1,hx1,xs2,hx2,rfl⟩:=hx
        have hcells:P.cellsOf f.type = nc a:=by unfold Program.cellsOf; rw [hi]; exact hsz
        rw [hcells] at hx1
        obtain ⟨y1,g1,g2,b1⟩:=(iha hd.1).1 fuel f.type _ x1 h3.2 h2 hx1
        simp only [nc] at hl
        obtain ⟨y2,g3,g4,b2⟩:=(ihb hd.2).2 fuel fs (f.offset + nc a) cs xs2 h4 hx2 (by omega)
        refine ⟨(y1,y2),⟨_,_,?_,g1,g3⟩,⟨g2,g4⟩,by simp only [bkI,List.map_cons,zfy]; omega⟩
        rw [← List.drop_drop,List.take_append_drop]
  | st a iha =>
    intro hd
    refine ⟨fun fuel t cs x _ h hx=>?_,fun fuel fs off cs xs h=>(by cases h)⟩
    obtain ⟨fs,hu,hf,_⟩:=zT.st h
    obtain ⟨i,hi,hsz⟩:=zT.size h (by intro a b e; cases e)
    have hcells:P.cellsOf t = nc a:=by unfold Program.cellsOf; rw [hi]; exact hsz
    cases fuel with
    | zero=>simp [DataW.trod] at hx
    | succ fuel =>
      unfold DataW.trod at hx
      rw [hu] at hx
      simp only at hx
      split at hx
      · rename_i hl
        simp only [Option.map_eq_some_iff] at hx
        obtain ⟨xs,hx,rfl⟩:=hx
        obtain ⟨y,g1,g2,b1⟩:=(iha hd).2 fuel fs.toList 0 cs xs hf hx (by omega)
        exact ⟨y,g1,g2,by simp only [bkI,dbk]; omega⟩
      · cases hx
  | arr n a iha =>
    intro hd
    refine ⟨fun fuel t cs x _ h hx=>?_,fun fuel fs off cs xs h=>(by cases h)⟩
    obtain ⟨e,hu,he,hpos,hnp,_⟩:=zT.arr h
    obtain ⟨i,hi,hsz⟩:=zT.size h (by intro a b e; cases e)
    obtain ⟨ie,hie,hsze⟩:=zT.size he (Ty.np_spec hnp)
    have hcells:P.cellsOf t = n * nc a:=by unfold Program.cellsOf; rw [hi]; exact hsz
    have hcellse:P.cellsOf e = nc a:=by unfold Program.cellsOf; rw [hie]; exact hsze
    cases fuel with
    | zero=>simp [DataW.trod] at hx
    | succ fuel =>
      unfold DataW.trod at hx
      rw [hu] at hx
      simp only at hx
      split at hx
      · rename_i hl
        simp only [Option.map_eq_some_iff] at hx
        obtain ⟨xs,hx,rfl⟩:=hx
        rw [hcellse] at hx
        obtain ⟨ys,css,h1,h2,h3,h4,h5⟩:=ztP (bk:=bkI a) (f:=fun i=>some ((cs.drop (i * nc a)).take (nc a))) (g:=DataW.trod enc P w base sp held fuel e) (R:=Rep P (FH.of w) a) (I:=InR a) (fun cs y hy=>(iha hd).1 fuel e cs y hnp he hy) (List.range n) xs hx
        rw [List.range_eq_range'] at h2
        have:=znw n 0 css (by rw [Nat.zero_add]; omega) h2
        rw [this] at h3
        simp only [Nat.zero_mul,List.drop_zero] at h3
        rw [List.take_of_length_le (by omega)] at h3
        refine ⟨ys,⟨by simpa using h1,h3⟩,⟨by simpa using h1,h4⟩,by simp only [bkI,dbk]; omega⟩
      · cases hx
  | sl a iha =>
    intro hd
    refine ⟨fun fuel t cs x _ h hx=>?_,fun fuel fs off cs xs h=>(by cases h)⟩
    obtain ⟨e,hu,he,hpos,hnp⟩:=zT.sl h
    obtain ⟨ie,hie,hsze⟩:=zT.size he (Ty.np_spec hnp)
    have hcellse:P.cellsOf e = nc a:=by unfold Program.cellsOf; rw [hie]; exact hsze
    cases fuel with
    | zero=>simp [DataW.trod] at hx
    | succ fuel =>
      unfold DataW.trod at hx
      rw [hu] at hx
      split at hx <;> first | (cases hx; done) | skip
      all_goals first
        | (rename_i hh; cases hh; done)
        | exact ⟨[],⟨_,0,rfl,Nat.le_refl _,fun hne=>absurd rfl hne⟩,⟨Nat.zero_le _,fun x hx=>(by cases hx)⟩,zr9 _⟩
        | skip
      rename_i e' ad len cap heq
      simp only [Option.some.injEq,TypeDesc.slice.injEq] at heq
      subst heq
      simp only at hx
      split at hx
      · rename_i hc
        simp only [Option.bind_eq_some_iff] at hx
        obtain ⟨elems,hx,hx2⟩:=hx
        rw [hcellse] at hx
        obtain ⟨ys,css,h1,h2,h3,h4,h5⟩:=ztP (bk:=bkI a) (f:=fun i=>w.cells? base (ad.add (i * nc a)) (nc a)) (g:=DataW.trod enc P w base sp held fuel e) (R:=Rep P (FH.of w) a) (I:=InR a) (fun cs y hy=>(iha hd).1 fuel e cs y hnp he hy) (List.range len) elems hx
        rw [List.length_range] at h1
        refine ⟨ys,⟨some ad,cap,by rw [h1],by rw [h1]; exact hc.2.1,fun hne=>?_⟩,⟨(show ys.length ≤ maxLen by omega),h4⟩,?_⟩
        rotate_left
        · obtain ⟨rest,-,rfl⟩:=Option.map_eq_some_iff.1 hx2
          simp only [bkI,dbk]; omega
        have hlen:0 < len:=by
          rw [← h1]
          exact List.length_pos_iff.2 hne
        rw [List.range_eq_range'] at h2
        obtain ⟨m,rfl⟩:∃ m,len = m + 1:=⟨len - 1,by omega⟩
        have h2':=h2
        rw [List.range'_succ,List.mapM_cons] at h2'
        simp only [Option.bind_eq_bind,Option.bind_eq_some_iff,Option.pure_def,Option.some.injEq] at h2'
        obtain ⟨cs0,g1,_⟩:=h2'
        rw [Nat.zero_mul,show ad.add 0 = ad from rfl] at g1
        obtain ⟨c,g2,g3,g4⟩:=zAi g1 hpos
        refine ⟨ad,css.flatten,rfl,⟨g3,c,g2,fun j v hv=>?_⟩,h3⟩
        have:=zC6 hpos g3 g2 (m + 1) 0 css h2 j v hv
        simpa using this
      · cases hx
  | ptr a=>intro hd; cases hd
  | fn a b=>intro hd; cases hd
def tyL (P:Program):Ty→List TypeId→Bool
  | .unit,[]=>true
  | .pair a b,t :: ts=>(tyB P a).1 t && a.np && a.data && tyL P b ts
  | _,_=>false
theorem zs4:∀ {τ:Ty} {ts:List TypeId} {vs:List Value} {ds:List (DataW H)} {ps:List MemPlace},tyL P τ ts = true→DataW.TrodAll enc P w base sp held ts vs ds ps→(∀ (j:Nat) (t:TypeId) (v:Value),ts[j]? = some t→vs[j]? = some v→∃ W r b,Value.okWide P W r b t v) →
    ∃ x,RepA P (FH.of w) τ x vs ∧ InR τ x ∧ bkI τ x ≤ zfy ds
  | .unit,[],[],[],ps,_,_,_=>⟨(),rfl,trivial,Nat.zero_le _⟩
  | .pair a b,t :: ts,v :: vs,d :: ds,ps,h,hr,hf=>by
    simp only [tyL,Bool.and_eq_true] at h
    obtain ⟨⟨⟨h1,h2⟩,h3⟩,h4⟩:=h
    obtain ⟨p,q,⟨fuel,h5⟩,h6,_⟩:=hr
    obtain ⟨y,g1,g2,b1⟩:=(zGh a h3).1 fuel t v.cells.toList (d,p) h2 h1 h5
    obtain ⟨x,g3,g4,b2⟩:=zs4 h4 h6 fun j t v ht hv=>hf (j + 1) t v (by simpa using ht) (by simpa using hv)
    refine ⟨(y,x),⟨v,vs,rfl,g1,?_,g3⟩,⟨g2,g4⟩,by simp only [bkI,zfy]; exact Nat.add_le_add b1 b2⟩
    obtain ⟨W,r,b0,hform⟩:=hf 0 t v rfl rfl
    obtain ⟨de,hu,hagg⟩:=zT.isAgg h1
    unfold Value.okWide at hform
    rw [hu] at hform
    rw [← hagg]
    have hno:∀ cs,v = .agg cs→Cell.okWide P W r b0 t v→(match de with | .struct _ | .array _ _=>true | _=>false) = false→False:=by
      rintro cs rfl hc hde
      unfold Cell.okWide at hc
      rw [hu] at hc
      cases de <;> simp [Cell.ok,hu] at hc hde
    cases de <;> simp only at hform hno ⊢
    case struct=>obtain ⟨cs,rfl,_⟩:=hform; rfl
    case array=>obtain ⟨cs,rfl,_⟩:=hform; rfl
    all_goals (cases v <;> first | rfl | exact (hno _ rfl hform trivial).elim)
  | .unit,[],[],_ :: _,_,_,h,_=>h.elim
  | .unit,[],_ :: _,_,_,_,h,_=>(by cases h)
  | .unit,_ :: _,_,_,_,h,_,_=>(by cases h)
  | .pair _ _,[],_,_,_,h,_,_=>(by cases h)
  | .pair _ _,_ :: _,[],_,_,_,h,_=>(by cases h)
  | .pair _ _,_ :: _,_ :: _,[],_,_,h,_=>(by cases h)
  | .bool,_,_,_,_,h,_,_=>(by cases h)
  | .int _,_,_,_,_,h,_,_=>(by cases h)
  | .str,_,_,_,_,h,_,_=>(by cases h)
  | .st _,_,_,_,_,h,_,_=>(by cases h)
  | .arr _ _,_,_,_,_,h,_,_=>(by cases h)
  | .sl _,_,_,_,_,h,_,_=>(by cases h)
  | .ptr _,_,_,_,_,h,_,_=>(by cases h)
  | .fn _ _,_,_,_,_,h,_,_=>(by cases h)
theorem zpp {W W':World} (hl:laidOutB P = true) (hb:Below W.heap.size W W'):∀ {ts:List TypeId} {vs:List Value} {ds:List (DataW H)} {ps:List MemPlace},
    (∀ t ∈ ts,P.readableRec t = true ∧ t < P.types.size)→DataW.TrodAll enc P W 0 (fun _=>true) true ts vs ds ps→(∀ x ∈ ps,x.block < W.heap.size)→∀ s:Nat→Bool,(∀ p ∈ ps,s p.block = true)→DataW.TrodAll enc P W' 0 s true ts vs ds ps
  | [],[],[],ps,_,h,_,s,_=>h
  | t :: ts,v :: vs,d :: ds,ps,ht,⟨p,q,h1,h2,e⟩,hlt,s,hs=>by
    subst e
    have h0:=ht t (by simp)
    refine ⟨p,q,?_,zpp hl hb (fun t' h'=>ht t' (by simp [h'])) h2 (fun x hx=>hlt x (by simp [hx])) s (fun x hx=>hs x (by simp [hx])),rfl⟩
    exact WideElems.Trod_stays hl h0.1 h0.2 h1 (fun x hx=>hb.same (hlt x (by simp [hx]))) (fun x hx=>hs x (by simp [hx]))
  | [],[],_ :: _,_,_,h,_,_,_=>h.elim
  | [],_ :: _,_,_,_,h,_,_,_=>h.elim
  | _ :: _,[],_,_,_,h,_,_,_=>h.elim
  | _ :: _,_ :: _,[],_,_,h,_,_,_=>h.elim
end
section
variable {P:Program} {H:Type} {enc:TypeId × Value→H}
theorem law_contract {fi:FuncId} {f:Func} {a:Ty} {tb:TypeId} {spec:ChangeSpec} {W:World} {base:Nat} {args:Array Value} {ds gs:List (DataW H)} {before:List MemPlace}
    (hl:laidOutB P = true) (hts:∀ t ∈ f.params.toList,P.readableRec t = true ∧ t < P.types.size) (hty:tyL P a f.params.toList = true) (hres:f.resultTypes = #[tb]) (hbool:P.underlying tb = some .bool) (hvars:spec.vars = [])
    (hfn:∀ ds:List (DataW H),ds.length = f.params.size→spec.fn H ds = { results:=[.lit (.bool true)],args:=ds })
    (hval:∀ (j:Nat) t v,f.params[j]? = some t→args[j]? = some v→Value.okWide P W .any base t v)
    (hW:DataW.Whole enc P f.params.toList spec.vars false W args.toList ds gs before)
    (hcall:∀ x,InR a x→bkI a x ≤ zfy ds→RepA P (FH.of W) a x args.toList→Calls P fi args W fun e W'=>e = .returned (.bool true) ∧ Below W.heap.size W W') :
    Calls P fi args W fun e W'=>∃ v,e = .returned v ∧ spec.post enc P f false true false false W args v W':=by
  have hW':=hW
  obtain ⟨p,q,hA,hV,rfl,hfz,hnd⟩:=hW
  rw [hvars] at hV
  obtain ⟨rfl,rfl⟩:=trodVars_none hV
  have hlt:∀ x ∈ p,x.block < W.heap.size:=fun x hx=>by simpa using hW'.lt x (by simp [hx])
  obtain ⟨x,hx,hin,hbk⟩:=zs4 (w:=W) hty hA fun j t v ht hv=>⟨W,.any,base,hval j t v (by rw [← Array.getElem?_toList]; exact ht) (by rw [← Array.getElem?_toList]; exact hv)⟩
  have hlen:∀ {ts:List TypeId} {vs:List Value} {ds:List (DataW H)} {ps:List MemPlace},DataW.TrodAll enc P W 0 (fun _=>true) true ts vs ds ps→ds.length = ts.length:=by
    intro ts
    induction ts with
    | nil=>intro vs ds ps h; cases vs <;> cases ds <;> first | rfl | exact h.elim
    | cons t ts ih=>intro vs ds ps h; cases vs <;> cases ds <;> first | exact h.elim | (obtain ⟨_,_,_,h2,_⟩:=h; simp [ih h2])
  have hfn':=hfn ds (by rw [hlen hA]; simp)
  refine (hcall x hin hbk hx).mono fun e W' ⟨he,hb⟩=>?_
  subst he
  simp only [List.append_nil] at *
  refine ⟨_,rfl,ds,[],p,[],p,[],hW',?_,?_,?_,hb.frame _,fun h=>(by cases h)⟩
  · rw [List.append_nil,hfn',hres]
    exact trodAll_cons_mk (shut_bool hbool _) trodAll_mk0
  · rw [List.append_nil,hfn']
    exact zpp hl hb hts hA hlt _ (fun x hx=>by simpa using hlt x hx)
  · rw [List.append_nil,hfn',hvars]
    rfl
end
end Go.Ev
end
section
namespace Go.Ev
open Go.RowKit
section
variable {P:Program} {G:FH} {E:Env}
theorem zmV.mk (hm:P.follows .mixedOrders = true) (hE:EnvOk P G E) {fi:FuncId} {f:Func} (hf:P.funcs[fi]? = some f) (hn:(f.name == "runtime.NumGoroutine") = false) (hb:f.body.isNone = false)
    {F:Fun} (h:∀ x y,F.spec x = some y→∃ K,evF E K f F.md F.a F.r x = some y):zmV P G fi F:=by
  refine ⟨⟨f,hf,hn,hb⟩,fun x y hy F0 w vs hG hk hr=>?_⟩
  obtain ⟨K,he⟩:=h x y hy
  exact zFn hm hE hf he hG hk hr
theorem EnvOk.nil {types:TT} {nt:Nat} {dp:Bool} (ht:types.all (fun k τ=>(tyB P τ).1 k) = true) {glob:List (Nat × AV)} (hg:∀ g v,look glob g = some v→∃ τ x cs,v = .dat (.ptr τ) (some x) ∧ At G ⟨g,0,none⟩ cs ∧ Rep P G τ x cs) {ext:List (Nat × Bool)} {jn:List Nat} (hx:∀ f add,look ext f = some add→ExtOk P f add):EnvOk P G ⟨types,[],glob,nt,dp,ext,jn,fun _=>none,false,false⟩ :=
  ⟨fun t τ h=>TT.all_look ht h,fun f F h=>by simp [look] at h,hg,hx,fun f H h=>by cases h⟩
theorem EnvOk.deep (hE:EnvOk P G E) (d:Bool):EnvOk P G { E with deep:=d }:=⟨hE.types,hE.funs,hE.glob,hE.ext,hE.hnd⟩
theorem EnvOk.cons (hE:EnvOk P G E) {fi:FuncId} {F:Fun} (h:zmV P G fi F):EnvOk P G { E with funs:=(fi,F) :: E.funs }:=by
  refine ⟨hE.types,fun f F' h'=>?_,hE.glob,hE.ext,hE.hnd⟩
  simp only [look] at h'
  cases hb:Nat.beq fi f with
  | true =>
    rw [hb] at h'
    simp only [cond_true,Option.some.injEq] at h'
    subst h'
    rw [← Nat.eq_of_beq_eq_true hb]
    exact h
  | false=>rw [hb] at h'; exact hE.funs f F' h'
end
end Go.Ev
end
section
namespace Go.Ev
theorem zAj {n:Nat} (h:n ≤ Go.maxLen):IntKind.wrap .i64 (n:Int) = (n:Int):=by
  unfold Go.maxLen at h
  exact IntWalk.i64_in _ (by omega)
def vG {α:Type} (p:α→Bool):List α→Int→Int
  | [],_=>-1
  | x :: xs,i=>cond (p x) i (vG p xs (i + 1))
theorem ztQ {α:Type} {p:α→Bool}:∀ (xs:List α) (i:Int),0 ≤ i→decide (vG p xs i ≥ 0) = xs.any p
  | [],_,_=>rfl
  | x :: xs,i,h=>by
    have ih:=ztQ (p:=p) xs (i + 1) (by omega)
    simp only [vG,List.any_cons]
    by_cases hp:p x = true
    · simp [hp,h]
    · simp only [Bool.not_eq_true] at hp
      simp only [hp,cond_false,Bool.false_or]
      exact ih
end Go.Ev
end
section
namespace Go.Ev
theorem zvw {i len:Nat} (h:i < len) (hl:len ≤ Go.maxLen):IntKind.wrap .i64 ((i:Int) + 1) = (i:Int) + 1:=by
  rw [show (i:Int) + 1 = ((i + 1:Nat):Int) by omega]
  exact zAj (by omega)
theorem zbB {α:Type} {l:List α} {i:Nat} (d:α) (h:i < l.length):l.drop i = l.getD i d :: l.drop (i + 1):=by
  rw [List.drop_eq_getElem_cons h]
  simp [List.getD,h]
theorem zGi {σ ρ:Type} {L:Nat→Int→σ→Option ρ} {len:Nat} (hl:len ≤ Go.maxLen) (F:Nat→σ→Option ρ) (I:Nat→σ→Prop)
    (hstep:∀ n i s,i < len→I i s→(∀ s',I (i + 1) s'→L n ((i:Int) + 1) s' = F (i + 1) s')→L (n + 1) (i:Int) s = F i s)
    (hend:∀ n s,I len s→L (n + 1) (len:Int) s = F len s) :
    ∀ (k i n:Nat) (s:σ),i + k = len→k < n→I i s→L n (i:Int) s = F i s:=by
  intro k
  induction k with
  | zero =>
    intro i n s hi hn hI
    obtain ⟨m,rfl⟩:∃ m,n = m + 1:=⟨n - 1,by omega⟩
    obtain rfl:i = len:=by omega
    exact hend m s hI
  | succ k ih =>
    intro i n s hi hn hI
    obtain ⟨m,rfl⟩:∃ m,n = m + 1:=⟨n - 1,by omega⟩
    refine hstep m i s (by omega) hI fun s' hI'=>?_
    have:=ih (i + 1) m s' (by omega) (by omega) hI'
    rw [show (i:Int) + 1 = ((i + 1:Nat):Int) by omega]
    exact this
theorem zFo {σ ρ:Type} {L:Nat→Int→σ→Option ρ} {len:Nat} (hl:len ≤ Go.maxLen) (F:Nat→σ→Option ρ) (I:Nat→σ→Prop)
    (hstep:∀ n i s,i < len→I i s→(∀ s',I (i + 1) s'→L n ((i:Int) + 1) s' = F (i + 1) s')→L (n + 1) (i:Int) s = F i s)
    (hend:∀ n s,I len s→L (n + 1) (len:Int) s = F len s) (n:Nat) (hn:len < n) (s:σ) (h0:I 0 s):L n 0 s = F 0 s :=
  zGi hl F I hstep hend len 0 n s (by omega) hn h0
end Go.Ev
end
section
namespace Go.Ev
abbrev Fnc (A R:Ty):Type:=A.I→Option R.I
def zl {σ ρ:Type} (B:(σ→Option ρ)→σ→Option ρ):Nat→σ→Option ρ
  | 0,_=>none
  | n + 1,s=>B (zl B n) s
noncomputable def evV {σ:Type} (E:Env) (K:Nat) (f:Func) (md:Nat) (R:Ty) (p ns:List Nat) (S:σ→St) (n:Nat):σ→Option R.I:=fun s=>evL E K f md R p ns n (S s)
theorem zAk {E:Env} {K:Nat} {f:Func} {md:Nat} {R:Ty} {p ns:List Nat} {st:St}:evL E K f md R p ns 0 st = none:=by
  unfold evL
  split
  · split <;> rfl
  · rfl
theorem zv {σ:Type} {E:Env} {K:Nat} {f:Func} {md:Nat} {R:Ty} {p ns:List Nat} {S:σ→St} {B:(σ→Option R.I)→σ→Option R.I}
    (h:∀ n s,evV E K f md R p ns S (n + 1) s = B (evV E K f md R p ns S n) s):∀ n,evV E K f md R p ns S n = zl B n
  | 0=>by funext s; exact zAk
  | n + 1=>by funext s; rw [h,zv h n]; rfl
theorem zgF {σ τ:Type} {E:Env} {K:Nat} {f:Func} {md:Nat} {R:Ty} {p ns:List Nat} {S:σ→St} {B:(τ→Option R.I)→(σ→Option R.I)→σ→Option R.I} {V1:Nat→τ→Option R.I} {W1:(σ→Option R.I)→τ→Option R.I}
    (h1:∀ n,V1 n = W1 (evV E K f md R p ns S n)) (h:∀ n s,evV E K f md R p ns S (n + 1) s = B (V1 n) (evV E K f md R p ns S n) s):∀ n,evV E K f md R p ns S n = zl (fun k=>B (W1 k) k) n :=
  zv fun n s=>by rw [← h1]; exact h n s
def zvx {σ τ ρ:Type} (B0:(τ→Option ρ)→σ→Option ρ) (B1:(τ→Option ρ)→τ→Option ρ):Nat→σ→Option ρ
  | 0,_=>none
  | n + 1,s=>B0 (zl B1 n) s
theorem zFp {σ τ:Type} {E:Env} {K:Nat} {f:Func} {md:Nat} {R:Ty} {p ns:List Nat} {S0:σ→St} {S1:τ→St} {B0:(τ→Option R.I)→σ→Option R.I} {B1:(τ→Option R.I)→τ→Option R.I}
    (h1:∀ n,evV E K f md R p ns S1 n = zl B1 n) (h:∀ n s,evV E K f md R p ns S0 (n + 1) s = B0 (evV E K f md R p ns S1 n) s):∀ n,evV E K f md R p ns S0 n = zvx B0 B1 n
  | 0=>by funext s; exact zAk
  | n + 1=>by funext s; rw [h,h1]; rfl
theorem tr1 {α X Y:Type} {T:α→X→Y} {V W:α} (h:V = W) {F:X→Y} (hx:∀ x,F x = T V x):F = T W:=by subst h; funext x; exact hx x
def En (E:Env) (d:Bool) (l:List Fun):Env:=⟨E.types,l.map fun F=>(F.id,F),E.glob,0,d,E.ext,[],fun _=>none,false,false⟩
def Ej (E:Env) (d:Bool) (js:List Nat) (l:List Fun):Env:=⟨E.types,l.map fun F=>(F.id,F),E.glob,0,d,E.ext,js,fun _=>none,false,js.any (Nat.beq 999999)⟩
def Sd (P:Program) (E:Env) (F:Fun):Prop:=∀ G,EnvOk P G E→zmV P G F.id F
def Sds (P:Program) (E:Env):List Fun→Prop
  | []=>True
  | F :: l=>Sd P E F ∧ Sds P E l
def jL (f:Func):Bool:=!(f.name == "runtime.NumGoroutine") && !f.body.isNone
theorem Sds.env {P:Program} {E:Env} {l:List Fun} {d:Bool} {G:FH} (h:Sds P E l) (hE:EnvOk P G E):EnvOk P G (En E d l):=by
  refine ⟨hE.types,?_,hE.glob,hE.ext,fun f H h=>by cases h⟩
  intro f F hf
  have key:∀ l:List Fun,Sds P E l→look (l.map fun F=>(F.id,F)) f = some F→zmV P G f F:=by
    intro l
    induction l with
    | nil=>intro _ h; cases h
    | cons F' l ih =>
      intro hs hl
      simp only [List.map_cons,look] at hl
      cases hb:Nat.beq F'.id f with
      | true =>
        rw [hb] at hl
        cases hl
        rw [← Nat.eq_of_beq_eq_true hb]
        exact hs.1 G hE
      | false=>rw [hb] at hl; exact ih hs.2 hl
  exact key l h hf
theorem Sds.envJ {P:Program} {E:Env} {l:List Fun} {d:Bool} {js:List Nat} {G:FH} (h:Sds P E l) (hE:EnvOk P G E):EnvOk P G (Ej E d js l) :=
  have h':=h.env (d:=d) hE
  ⟨h'.types,h'.funs,h'.glob,h'.ext,fun f H h=>by cases h⟩
theorem Sd.mk {P:Program} {E:Env} {l:List Fun} {d:Bool} {F:Fun} {f:Func} {K:Nat} (hm:P.follows .mixedOrders = true) (hl:Sds P E l) (hf:P.funcs[F.id]? = some f) (ho:jL f = true)
    (h:evF (En E d l) K f F.md F.a F.r = F.spec):Sd P E F:=by
  intro G hE
  unfold jL at ho
  simp only [Bool.and_eq_true,Bool.not_eq_true'] at ho
  exact zmV.mk hm (hl.env hE) hf ho.1 ho.2 fun x y hy=>⟨K,by rw [h]; exact hy⟩
def FOk (P:Program):List (Nat × Func)→Prop
  | []=>True
  | p :: l=>(P.funcs[p.1]? = some p.2 ∧ jL p.2 = true) ∧ FOk P l
theorem FOk.look {P:Program}:∀ {l:List (Nat × Func)} {i:Nat} {f:Func},FOk P l→look l i = some f→P.funcs[i]? = some f ∧ jL f = true
  | (j,g) :: l,i,f,h,hl=>by
    simp only [Go.Ev.look] at hl
    cases hb:Nat.beq j i with
    | true=>rw [hb] at hl; cases hl; rw [← Nat.eq_of_beq_eq_true hb]; exact h.1
    | false=>rw [hb] at hl; exact FOk.look h.2 hl
theorem EnvOk.inl {P:Program} {G:FH} {E:Env} (hm:P.follows .mixedOrders = true) (hE:EnvOk P G E) {fs:List (Nat × Func)} (hfs:FOk P fs):∀ d,EnvOk P G (E.inl fs d)
  | 0=>hE
  | d + 1=>⟨hE.types,hE.funs,hE.glob,hE.ext,fun i H h=>by
    obtain ⟨fn,h1,rfl⟩:=Option.map_eq_some_iff.1 h
    obtain ⟨h2,h3⟩:=hfs.look h1
    unfold jL at h3
    simp only [Bool.and_eq_true,Bool.not_eq_true'] at h3
    exact zG0 hm (EnvOk.inl hm hE hfs d) h2 h3.1 h3.2⟩
theorem Sd.mkI {P:Program} {E:Env} {l:List Fun} {d:Bool} {js:List Nat} {fs:List (Nat × Func)} {n:Nat} {F:Fun} {f:Func} {K:Nat} (hm:P.follows .mixedOrders = true) (hl:Sds P E l) (hfs:FOk P fs) (hf:P.funcs[F.id]? = some f) (ho:jL f = true)
    (h:evF ((Ej E d js l).inl fs n) K f F.md F.a F.r = F.spec):Sd P E F:=by
  intro G hE
  unfold jL at ho
  simp only [Bool.and_eq_true,Bool.not_eq_true'] at ho
  exact zmV.mk hm ((hl.envJ hE).inl hm hfs n) hf ho.1 ho.2 fun x y hy=>⟨K,by rw [h]; exact hy⟩
@[reducible] def ch:List Ty→Ty
  | []=>.unit
  | a :: l=>.pair a (ch l)
abbrev u0 {a0 a1:Type} (x:a0 × a1) (v:a0):a0 × a1:=(v,x.2)
abbrev u1 {a0 a1 a2:Type} (x:a0 × a1 × a2) (v:a1):a0 × a1 × a2:=(x.1,v,x.2.2)
abbrev u2 {a0 a1 a2 a3:Type} (x:a0 × a1 × a2 × a3) (v:a2):a0 × a1 × a2 × a3:=(x.1,x.2.1,v,x.2.2.2)
abbrev u5 {a0 a1 a2 a3 a4 a5 a6:Type} (x:a0 × a1 × a2 × a3 × a4 × a5 × a6) (v:a5):a0 × a1 × a2 × a3 × a4 × a5 × a6:=(x.1,x.2.1,x.2.2.1,x.2.2.2.1,x.2.2.2.2.1,v,x.2.2.2.2.2.2)
abbrev u7 {a0 a1 a2 a3 a4 a5 a6 a7 a8:Type} (x:a0 × a1 × a2 × a3 × a4 × a5 × a6 × a7 × a8) (v:a7):a0 × a1 × a2 × a3 × a4 × a5 × a6 × a7 × a8:=(x.1,x.2.1,x.2.2.1,x.2.2.2.1,x.2.2.2.2.1,x.2.2.2.2.2.1,x.2.2.2.2.2.2.1,v,x.2.2.2.2.2.2.2.2)
abbrev u8 {a0 a1 a2 a3 a4 a5 a6 a7 a8 a9:Type} (x:a0 × a1 × a2 × a3 × a4 × a5 × a6 × a7 × a8 × a9) (v:a8):a0 × a1 × a2 × a3 × a4 × a5 × a6 × a7 × a8 × a9:=(x.1,x.2.1,x.2.2.1,x.2.2.2.1,x.2.2.2.2.1,x.2.2.2.2.2.1,x.2.2.2.2.2.2.1,x.2.2.2.2.2.2.2.1,v,x.2.2.2.2.2.2.2.2.2)
def inR {ρ:Type} (i n:Int) (x:Option ρ):Option ρ:=cond (decide (0 ≤ i)) (cond (decide (i < n)) x none) none
theorem zFq {ρ:Type} {i n:Int} {x:Option ρ} (h0:0 ≤ i) (h1:i < n):inR i n x = x:=by unfold inR; rw [decide_eq_true h0,decide_eq_true h1]; rfl
abbrev ix {α:Type} (d:α) (l:List α) (i:Int):α:=List.getD l (Int.toNat i) d
def K0:Nat:=Go.maxLen + 2
theorem zzt {n:Nat} (h:n ≤ Go.maxLen):n < K0:=by unfold K0; omega
abbrev tI:Ty:=.int .i64
abbrev tU:Ty:=.int .u64
abbrev wI (n:Int):Int:=IntKind.wrap .i64 n
abbrev wU (n:Int):Int:=IntKind.wrap .u64 n
end Go.Ev
end
section
namespace Go.Ev
theorem yV {σ α ρ:Type} {B:(σ→Option ρ)→σ→Option ρ} {len:Nat} (hl:len ≤ Go.maxLen) (st:Int→α→σ) (F:Nat→α→Option ρ) (I:Nat→α→Prop)
    (hstep:∀ k (i:Nat) s,i < len→I i s→(∀ s',I (i + 1) s'→k (st (wI (i + 1)) s') = F (i + 1) s')→B k (st i s) = F i s)
    (hend:∀ k s,I len s→B k (st len s) = F len s) (s:α) (h0:I 0 s):zl B K0 (st 0 s) = F 0 s:=by
  refine zFo (L:=fun n i s=>zl B n (st i s)) hl F I (fun n i s hi hI h=>?_) (fun n s hI=>hend _ s hI) K0 (zzt hl) s h0
  refine hstep _ i s hi hI fun s' hI'=>?_
  rw [wI,zvw hi hl]
  exact h s' hI'
theorem z8 {α:Type} {l:List α} {i:Nat} {d:α} (h:i < l.length):l.getD i d ∈ l:=by
  rw [List.getD_eq_getElem?_getD,List.getElem?_eq_getElem h]
  exact List.getElem_mem h
theorem zN (p:Bool):some (p,()) = bif p then some (true,()) else some (false,()):=by cases p <;> rfl
theorem ztR {σ α ρ:Type} {B:(σ→Option ρ)→σ→Option ρ} {l:List α} (d:α) {p:α→Bool} {fin bad:Option ρ} (st:Int→σ) (hl:l.length ≤ Go.maxLen)
    (hin:∀ k (i:Nat) x,i < l.length→l.getD i d = x→x ∈ l→B k (st i) = bif p x then k (st (wI (i + 1))) else bad) (hout:∀ k,B k (st l.length) = fin):zl B K0 (st 0) = bif l.all p then fin else bad:=by
  have:=yV (α:=Unit) (B:=B) hl (fun i _=>st i) (fun i _=>bif (l.drop i).all p then fin else bad) (fun _ _=>True) (fun k i s hi _ h=>?_) (fun k s _=>?_) () trivial
  · simpa using this
  · rw [hin k i _ hi rfl (z8 hi),h () trivial,zbB d hi,List.all_cons]
    cases p (l.getD i d) <;> rfl
  · rw [hout,List.drop_of_length_le (Nat.le_refl _)]; rfl
theorem zqO {σ α β ρ:Type} {B:(σ→Option ρ)→σ→Option ρ} {l:List β} (d:β) (st:Int→α→σ) (G:List β→α→Option ρ) (hl:l.length ≤ Go.maxLen)
    (hin:∀ k (i:Nat) x rest s,i < l.length→l.getD i d = x→x ∈ l→l.drop (i + 1) = rest→(∀ s',k (st (wI (i + 1)) s') = G rest s')→B k (st i s) = G (x :: rest) s) (hout:∀ k s,B k (st l.length s) = G [] s) (s:α):zl B K0 (st 0 s) = G l s:=by
  have:=yV (B:=B) hl st (fun i s=>G (l.drop i) s) (fun _ _=>True) (fun k i s hi _ h=>?_) (fun k s _=>?_) s trivial
  · simpa using this
  · rw [zbB d hi]
    exact hin k i _ _ s hi rfl (z8 hi) rfl fun s'=>h s' trivial
  · rw [hout,List.drop_of_length_le (Nat.le_refl _)]
def qn (p:Nat→Bool) (i:Nat):Nat→Bool
  | 0=>true
  | n + 1=>p i && qn p (i + 1) n
theorem vc {p:Nat→Bool}:∀ {n i:Nat},qn p i n = true ↔ ∀ j,i ≤ j→j < i + n→p j = true
  | 0,i=>by simp only [qn,true_iff]; intro j h1 h2; omega
  | n + 1,i=>by
    simp only [qn,Bool.and_eq_true,vc (n:=n)]
    constructor
    · rintro ⟨h1,h2⟩ j h3 h4
      by_cases e:j = i
      · subst e; exact h1
      · exact h2 j (by omega) (by omega)
    · intro h
      exact ⟨h i (Nat.le_refl i) (by omega),fun j h1 h2=>h j (by omega) (by omega)⟩
theorem yE {σ ρ:Type} {B:(σ→Option ρ)→σ→Option ρ} {i0 n:Nat} (hn:n ≤ Go.maxLen) (h0:i0 ≤ n) {p:Nat→Bool} {fin bad:Option ρ} (st:Int→σ)
    (hin:∀ k (i:Nat),i0 ≤ i→i < n→B k (st i) = bif p i then k (st (wI (i + 1))) else bad) (hout:∀ k,B k (st n) = fin):zl B K0 (st i0) = bif qn p i0 (n - i0) then fin else bad:=by
  have key:∀ (m i fuel:Nat),i0 ≤ i→i + m = n→m < fuel→zl B fuel (st i) = bif qn p i m then fin else bad:=by
    intro m
    induction m with
    | zero =>
      intro i fuel _ h1 h2
      obtain ⟨f,rfl⟩:∃ f,fuel = f + 1:=⟨fuel - 1,by omega⟩
      obtain rfl:i = n:=by omega
      exact hout _
    | succ m ih =>
      intro i fuel h1 h2 h3
      obtain ⟨f,rfl⟩:∃ f,fuel = f + 1:=⟨fuel - 1,by omega⟩
      show B (zl B f) (st i) = _
      rw [hin _ i h1 (by omega),wI,zvw (len:=n) (by omega) hn,show ((i:Int) + 1) = ((i + 1:Nat):Int) by omega,ih (i + 1) f (by omega) (by omega) (by omega)]
      simp only [qn]
      cases p i <;> rfl
  exact key (n - i0) i0 K0 (Nat.le_refl _) (by omega) (by have:=zzt hn; omega)
theorem zsa {i:Nat} (h:1 ≤ i) (hi:i ≤ Go.maxLen):wI ((i:Int) - 1) = ((i - 1:Nat):Int):=by
  rw [show ((i:Int) - 1) = ((i - 1:Nat):Int) by omega]
  exact zAj (by omega)
section
variable {τ:Ty} {l:List τ.I} {g:τ.I × Unit→Option (Bool × Unit)} {p:τ.I→Bool}
theorem zE {ρ:Type} {i n:Nat} {x:Option ρ} (h:i < n):inR (i:Int) (n:Int) x = x:=zFq (by omega) (by omega)
theorem ltT {i n:Nat} (h:i < n):decide ((i:Int) < (n:Int)) = true:=decide_eq_true (by omega)
theorem ltF (n:Nat):decide ((n:Int) < (n:Int)) = false:=decide_eq_false (by omega)
theorem qw {α:Type} {d:α} {l:List α} {i:Nat}:ix d l (i:Int) = l.getD i d:=by rw [ix,Int.toNat_natCast]
theorem qJ {B:((List τ.I × Option (τ.I × Unit→Option (Bool × Unit)) × Int × Int)→Option (Int × Unit))→(List τ.I × Option (τ.I × Unit→Option (Bool × Unit)) × Int × Int)→Option (Int × Unit)}
    (hB:∀ k l g n i,B k (l,g,n,i) = bif decide (i < n) then inR i (List.length l:Int) (Option.bind g fun q0=>Option.bind (q0 (ix (zf τ) l i,())) fun q1=>bif q1.1 then some (i,()) else k (l,g,n,wI (i + 1))) else some (-1,()))
    (hl:l.length ≤ Go.maxLen) (hp:∀ x ∈ l,g (x,()) = some (p x,())):zl B K0 (l,some g,(l.length:Int),0) = some (vG p l 0,()):=by
  have:=yV (α:=Unit) (B:=B) hl (fun i _=>(l,some g,(l.length:Int),i)) (fun i _=>some (vG p (l.drop i) i,())) (fun _ _=>True) (fun k i s hi _ h=>?_) (fun k s _=>?_) () trivial
  · simpa using this
  · rw [hB,ltT hi,zE hi,qw,Option.bind_some,hp _ (z8 hi),Option.bind_some,h () trivial,zbB (zf τ) hi]
    simp only [vG,cond_true]
    cases p (l.getD i (zf τ)) <;> rfl
  · rw [hB,ltF,List.drop_of_length_le (Nat.le_refl _)]; rfl
theorem qk {f:Fnc (.pair (.sl τ) (.pair (.fn (.pair τ .unit) (.pair .bool .unit)) .unit)) (.pair (.int .i64) .unit)} (hf:f (l,some g,()) = some (vG p l 0,())) :
    (Option.bind (f (l,some g,())) fun q0=>bif decide ((q0.1:Int) ≥ 0) then some (true,()) else some (false,())) = some (l.any p,()):=by
  rw [hf,Option.bind_some,ztQ (p:=p) l 0 (Int.le_refl 0)]
  cases l.any p <;> rfl
theorem jU {α:Type} {l:List α} {p:α→Bool}:(!(l.any fun x=>!p x)) = l.all p:=by
  rw [List.not_any_eq_all_not]
  congr 1
  funext x
  simp
def eqL (τ:Ty) (a b:List τ.I):Bool:=decide (a.length = b.length) && (List.zip a b).all fun q=>eqI τ q.1 q.2
theorem zmd (a b:Nat):((a:Int) != (b:Int)) = !decide (a = b):=by
  by_cases h:a = b
  · subst h; simp
  · have:(a:Int) ≠ (b:Int):=by omega
    simp [h,this]
theorem zoM {α β:Type} {d:α} {e:β}:∀ (a:List α) (b:List β) (i:Nat),i < a.length→i < b.length→(List.zip a b).getD i (d,e) = (a.getD i d,b.getD i e)
  | x :: a,y :: b,0,_,_=>rfl
  | x :: a,y :: b,i + 1,h1,h2=>zoM a b i (by simpa using h1) (by simpa using h2)
  | [],_,_,h,_=>by simp at h
  | _ :: _,[],_,_,h=>by simp at h
theorem zaE {B:((List τ.I × List τ.I × Int × Int)→Option (Bool × Unit))→(List τ.I × List τ.I × Int × Int)→Option (Bool × Unit)}
    (hB:∀ k a b n i,B k (a,b,n,i) = bif decide (i < n) then inR i (List.length a:Int) (inR i (List.length b:Int) (bif !eqI τ (ix (zf τ) a i) (ix (zf τ) b i) then some (false,()) else k (a,b,n,wI (i + 1)))) else some (true,()))
    {a b:List τ.I} (hl:a.length ≤ Go.maxLen):(bif ((List.length a:Int) != (List.length b:Int)) then some (false,()) else zl B K0 (a,b,(a.length:Int),0)) = some (eqL τ a b,()):=by
  rw [zmd]
  unfold eqL
  by_cases h:a.length = b.length
  · rw [decide_eq_true h]
    simp only [Bool.not_true,cond_false,Bool.true_and]
    have hz:(List.zip a b).length = a.length:=by rw [List.length_zip]; omega
    have hx:∀ i,i < a.length→(List.zip a b).getD i (zf τ,zf τ) = (a.getD i (zf τ),b.getD i (zf τ)):=fun i hi=>zoM a b i hi (by omega)
    have:=ztR (B:=B) (l:=List.zip a b) (zf τ,zf τ) (p:=fun q=>eqI τ q.1 q.2) (fin:=some (true,())) (bad:=some (false,())) (fun i=>(a,b,(a.length:Int),i)) (by rw [hz]; exact hl) (fun k i x hi hx' _=>?_) (fun k=>?_)
    · rw [this]
      cases (List.zip a b).all fun q=>eqI τ q.1 q.2 <;> rfl
    · rw [hz] at hi
      rw [hx i hi] at hx'
      subst hx'
      rw [hB,ltT hi,zE hi,zE (by omega),qw,qw]
      simp only [cond_true]
      cases eqI τ (a.getD i (zf τ)) (b.getD i (zf τ)) <;> rfl
    · rw [hB,hz,ltF]; rfl
  · rw [decide_eq_false h]; rfl
theorem vZ {x:Option (List τ.I × Unit)} (h:l.length ≤ lim) (hx:x = bif decide (List.length (List.replicate 0 (zf τ)) + List.length l ≤ lim) then some (List.replicate 0 (zf τ) ++ l,()) else none) :
    (bif List.isEmpty l then zdZ (some ([],())) x else x) = some (l,()):=by
  have e:x = some (l,()):=by rw [hx,decide_eq_true (by simpa using h)]; rfl
  rw [e]
  cases l with
  | nil=>exact zFb _
  | cons y l=>rfl
end
end Go.Ev
end
section
namespace Go.Proofs.YtokcjmkikhgkeaaGreatDoor
open Go.Ev
abbrev tMe:Ty:=.st (.pair (.int .i64) (.pair (.int .i64) (.pair (.int .i64) .unit)))
abbrev pMe:Type:=(Int × (Int × (Int × Unit)))
abbrev qW:Ty:=.st (.pair (.int .i64) (.pair (.int .i64) (.pair (.int .i64) (.pair (.int .i64) (.pair (.int .u64) .unit)))))
abbrev zag:Type:=(Int × (Int × (Int × (Int × (Int × Unit)))))
abbrev zA:Ty:=.st (.pair (.int .i64) (.pair (.int .u64) .unit))
abbrev zr:Type:=(Int × (Int × Unit))
abbrev qz:zr:=zf zA
abbrev zcJ:Ty:=.st (.pair (.int .i64) (.pair (.int .i64) (.pair (.int .i64) (.pair (.int .i64) (.pair (.int .i64) (.pair (.int .u64) .unit))))))
abbrev zah:Type:=(Int × (Int × (Int × (Int × (Int × (Int × Unit))))))
abbrev qC:zah:=zf zcJ
abbrev qQ:Ty:=.st (.pair .str (.pair .str (.pair (.int .i64) (.pair .bool .unit))))
abbrev qR:Type:=(ByteArray × (ByteArray × (Int × (Bool × Unit))))
abbrev zcf:qR:=zf qQ
abbrev zaS:Ty:=.st (.pair (.int .i64) (.pair (.int .i64) .unit))
abbrev qb:Type:=(Int × (Int × Unit))
abbrev qU:qb:=zf zaS
abbrev qj:Ty:=.st (.pair .bool (.pair .str .unit))
abbrev jc:Type:=(Bool × (ByteArray × Unit))
abbrev zsb:jc:=zf qj
abbrev zW:Ty:=.st (.pair (.int .i64) (.pair (.int .i64) .unit))
abbrev vA:Type:=(Int × (Int × Unit))
abbrev zH8:vA:=zf zW
abbrev zm:Ty:=.st (.pair .bool (.pair (.int .i64) (.pair (.int .i64) (.pair (.int .i64) (.pair (.int .i64) (.pair (.int .i64) (.pair (.int .u64) (.pair (.int .u64) (.pair (.int .u64) (.pair (.int .i64) .unit))))))))))
abbrev zn:Type:=(Bool × (Int × (Int × (Int × (Int × (Int × (Int × (Int × (Int × (Int × Unit))))))))))
abbrev qr:zn:=zf zm
abbrev zt:Ty:=.st (.pair (.int .u64) (.pair (.int .i64) (.pair (.int .i64) (.pair (.int .i64) (.pair (.int .i64) (.pair (.int .i64) (.pair (.int .i64) (.pair (.int .u64) (.pair (.int .u64) (.pair (.int .i64) .unit))))))))))
abbrev zF:Type:=(Int × (Int × (Int × (Int × (Int × (Int × (Int × (Int × (Int × (Int × Unit))))))))))
abbrev zg6:zF:=zf zt
abbrev zV:Ty:=.st (.pair .bool (.pair zW (.pair zW (.pair (.int .i64) .unit))))
abbrev z9:Type:=(Bool × (vA × (vA × (Int × Unit))))
abbrev vH:z9:=zf zV
abbrev z4:Ty:=.st (.pair .bool (.pair (.int .i64) (.pair (.int .i64) (.pair (.int .i64) (.pair .str .unit)))))
abbrev qs:Type:=(Bool × (Int × (Int × (Int × (ByteArray × Unit)))))
abbrev zzu:qs:=zf z4
abbrev zU:Ty:=.st (.pair .bool (.pair .str (.pair (.int .i64) (.pair (.int .i64) (.pair zW .unit)))))
abbrev qc:Type:=(Bool × (ByteArray × (Int × (Int × (vA × Unit)))))
abbrev zdd:qc:=zf zU
abbrev zde:Ty:=.st (.pair (.int .i64) (.pair (.int .u64) (.pair (.int .i64) .unit)))
abbrev zkh:Type:=(Int × (Int × (Int × Unit)))
abbrev zw:Ty:=.st (.pair .bool (.pair (.int .i64) (.pair (.int .i64) (.pair zde (.pair zde .unit)))))
abbrev zp:Type:=(Bool × (Int × (Int × (zkh × (zkh × Unit)))))
abbrev qY:zp:=zf zw
abbrev vI:Ty:=.st (.pair (.sl zw) (.pair (.fn (.pair zw .unit) (.pair .bool .unit)) .unit))
abbrev zbC:Type:=((List zp) × ((Option ((zp × Unit)→Option (Bool × Unit))) × Unit))
abbrev zsc:Ty:=.st (.pair (.int .i64) (.pair (.int .i64) (.pair zW .unit)))
abbrev zw1:Type:=(Int × (Int × (vA × Unit)))
abbrev yF:Ty:=.st (.pair (.sl zm) (.pair (.fn (.pair zm .unit) (.pair .bool .unit)) .unit))
abbrev zdf:Type:=((List zn) × ((Option ((zn × Unit)→Option (Bool × Unit))) × Unit))
abbrev zjV:Ty:=.st (.pair (.int .u8) (.pair (.int .u8) .unit))
abbrev zy:Ty:=.st (.pair (.sl zA) (.pair (.sl (.int .i64)) (.pair (.sl qQ) (.pair (.sl zaS) (.pair (.sl zcJ) (.pair (.int .i64) (.pair (.int .i64) (.pair (.int .i64) (.pair (.int .i64) .unit)))))))))
abbrev ze:Type:=((List zr) × ((List Int) × ((List qR) × ((List qb) × ((List zah) × (Int × (Int × (Int × (Int × Unit)))))))))
abbrev zj:Ty:=.st (.pair (.sl qj) (.pair (.sl zV) (.pair (.sl zU) (.pair (.sl z4) (.pair (.sl zw) (.pair (.sl (.arr 4 (.int .u64))) (.pair (.sl zW) (.pair (.arr 4 (.int .u64)) (.pair (.arr 4 (.int .u64)) .unit)))))))))
abbrev zg:Type:=((List jc) × ((List z9) × ((List qc) × ((List qs) × ((List zp) × ((List (List Int)) × ((List vA) × ((List Int) × ((List Int) × Unit)))))))))
abbrev za:zg:=zf zj
abbrev zu:Ty:=.st (.pair (.int .u64) (.pair (.sl zj) (.pair (.sl (.sl (.int .i64))) (.pair (.sl zm) (.pair (.sl zt) (.pair (.sl (.int .i64)) .unit))))))
abbrev zb:Type:=(Int × ((List zg) × ((List (List Int)) × ((List zn) × ((List zF) × ((List Int) × Unit))))))
abbrev zfz:Ty:=.st (.pair (.fn (.pair (.ptr zu) .unit) (.pair (.int .i64) .unit)) .unit)
abbrev qe:Ty:=.st (.pair zy (.pair zu .unit))
abbrev qN:Type:=(ze × (zb × Unit))
def types:TT:=(.node (.node (.node (.node (.node (.node (.node (.node (.node .nil 1 (.fn .unit .unit) .nil) 2 (.int .i64) .nil) 3 (.int .i64) (.node .nil 4 .bool .nil)) 5 (.int .u8) (.node (.node .nil 6 (.int .u8) .nil) 7 (.st (.pair (.int .i64) (.pair (.int .i64) (.pair .bool (.pair (.int .u8) .unit))))) (.node .nil 8 (.st (.pair (.int .i64) (.pair (.int .i64) (.pair .bool (.pair (.int .u8) .unit))))) .nil))) 9 .str (.node (.node (.node (.node .nil 10 .str .nil) 11 .str .nil) 12 (.int .u64) (.node .nil 21 (.int .i32) .nil)) 22 (.sl zA) (.node (.node .nil 23 (.sl (.int .i64)) .nil) 24 (.sl qQ) (.node .nil 25 (.sl zaS) .nil)))) 26 (.sl zcJ) (.node (.node (.node (.node (.node .nil 27 (.st (.pair (.sl zA) (.pair (.sl (.int .i64)) (.pair (.sl qQ) (.pair (.sl zaS) (.pair (.sl zcJ) (.pair (.int .i64) (.pair (.int .i64) (.pair (.int .i64) (.pair (.int .i64) .unit)))))))))) .nil) 28 zy .nil) 29 (.int .u64) (.node .nil 30 (.sl zj) .nil)) 31 (.sl (.sl (.int .i64))) (.node (.node .nil 32 (.sl zm) .nil) 33 (.sl zt) (.node .nil 34 (.st (.pair (.int .u64) (.pair (.sl zj) (.pair (.sl (.sl (.int .i64))) (.pair (.sl zm) (.pair (.sl zt) (.pair (.sl (.int .i64)) .unit))))))) .nil))) 35 zu (.node (.node (.node .nil 36 (.st (.pair (.int .i64) (.pair (.int .i64) (.pair (.int .i64) .unit)))) .nil) 37 tMe (.node .nil 38 (.st (.pair (.int .i64) (.pair (.int .i64) (.pair (.int .i64) (.pair (.int .i64) (.pair (.int .u64) .unit)))))) .nil)) 39 qW (.node (.node .nil 40 (.int .i64) .nil) 42 (.fn (.pair zy (.pair zu (.pair tMe (.pair (.int .i64) (.pair (.int .i64) (.pair (.int .i64) (.pair (.int .u64) .unit))))))) (.pair zu (.pair (.int .i64) .unit))) (.node .nil 43 (.fn .unit (.pair .bool .unit)) .nil))))) 44 (.fn (.pair zy (.pair zu .unit)) (.pair .bool .unit)) (.node (.node (.node (.node (.node (.node .nil 45 (.fn (.pair zA (.pair zA .unit)) (.pair .bool .unit)) .nil) 46 (.st (.pair (.int .i64) (.pair (.int .u64) .unit))) .nil) 47 zA (.node .nil 48 (.arr 4 (.int .u64)) .nil)) 49 (.sl qj) (.node (.node .nil 50 (.sl zV) .nil) 51 (.sl zU) (.node .nil 52 (.sl z4) .nil))) 53 (.sl zw) (.node (.node (.node .nil 54 (.sl (.arr 4 (.int .u64))) .nil) 55 (.sl zW) (.node .nil 56 (.st (.pair (.sl qj) (.pair (.sl zV) (.pair (.sl zU) (.pair (.sl z4) (.pair (.sl zw) (.pair (.sl (.arr 4 (.int .u64))) (.pair (.sl zW) (.pair (.arr 4 (.int .u64)) (.pair (.arr 4 (.int .u64)) .unit)))))))))) .nil)) 57 zj (.node (.node .nil 58 (.fn (.pair zy (.pair zu (.pair tMe (.pair qW .unit)))) (.pair .bool .unit)) .nil) 59 (.fn (.pair zy (.pair zu (.pair tMe (.pair qW .unit)))) (.pair zu (.pair (.int .i64) .unit))) (.node .nil 60 (.fn (.pair zy (.pair zu (.pair tMe .unit))) (.pair .bool .unit)) .nil)))) 62 (.fn (.pair zu (.pair (.int .i64) .unit)) (.pair (.int .u64) (.pair (.int .i64) .unit))) (.node (.node (.node (.node (.node .nil 63 (.fn (.pair zA .unit) (.pair .bool .unit)) .nil) 64 (.fn (.pair zy (.pair zu (.pair zu (.pair zA .unit)))) (.pair .bool .unit)) .nil) 65 (.fn (.pair zy (.pair zu (.pair tMe (.pair qW (.pair zA .unit))))) (.pair .bool .unit)) (.node .nil 67 (.fn (.pair zy (.pair zu (.pair tMe .unit))) (.pair (.arr 4 (.int .u64)) (.pair (.int .i64) .unit))) .nil)) 68 (.fn (.pair zy (.pair zu (.pair zu (.pair tMe (.pair qW (.pair zA .unit)))))) (.pair .bool .unit)) (.node (.node .nil 69 (.fn (.pair zy (.pair zu (.pair tMe (.pair (.int .i64) (.pair (.int .u64) .unit))))) (.pair .bool .unit)) .nil) 70 (.fn (.pair zy (.pair (.int .i64) (.pair (.int .i64) .unit))) (.pair .bool .unit)) (.node .nil 71 (.fn (.pair zu (.pair (.sl zfz) .unit)) (.pair zu (.pair (.int .i64) .unit))) .nil))) 72 (.fn (.pair (.ptr zu) .unit) (.pair (.int .i64) .unit)) (.node (.node (.node .nil 73 (.st (.pair (.fn (.pair (.ptr zu) .unit) (.pair (.int .i64) .unit)) .unit)) .nil) 74 zfz (.node .nil 75 (.fn (.pair .bool (.pair (.int .i64) .unit)) (.pair zfz .unit)) .nil)) 76 (.fn (.pair (.int .i64) (.pair (.int .i64) (.pair (.int .i64) (.pair (.int .u64) .unit)))) (.pair zfz .unit)) (.node (.node .nil 77 (.fn .unit (.pair zy .unit)) .nil) 78 (.fn (.pair zy .unit) (.pair zu (.pair (.int .i64) .unit))) (.node .nil 79 (.fn (.pair zy (.pair zu (.pair tMe (.pair (.int .i64) (.pair (.int .u64) .unit))))) (.pair zu (.pair (.int .i64) .unit))) .nil)))))) 80 (.fn (.pair zy (.pair zu (.pair tMe (.pair (.int .i64) (.pair (.int .i64) (.pair (.int .u64) .unit)))))) (.pair zu (.pair (.int .i64) .unit))) (.node (.node (.node (.node (.node (.node (.node .nil 81 (.fn (.pair zy .unit) (.pair .bool .unit)) .nil) 82 (.fn (.pair zy (.pair zu (.pair (.int .i64) .unit))) (.pair .bool .unit)) .nil) 83 (.st (.pair (.int .i64) (.pair (.int .i64) (.pair (.int .i64) (.pair (.int .i64) (.pair (.int .i64) (.pair (.int .u64) .unit))))))) (.node .nil 84 zcJ .nil)) 85 (.st (.pair zy (.pair zu .unit))) (.node (.node .nil 86 qe .nil) 87 (.sl (.fn .unit (.pair .bool .unit))) (.node .nil 88 (.fn (.pair (.int .i64) .unit) (.pair .bool .unit)) .nil))) 89 (.fn (.pair (.sl zm) (.pair (.int .i64) .unit)) (.pair (.int .u64) (.pair (.int .i64) .unit))) (.node (.node (.node (.node .nil 90 (.sl (.int .u64)) .nil) 91 (.fn (.pair (.sl zw) (.pair (.int .i64) .unit)) (.pair (.int .u64) (.pair (.int .i64) .unit))) .nil) 92 (.fn (.pair (.sl (.int .u64)) .unit) (.pair (.int .u64) (.pair (.int .i64) .unit))) (.node .nil 93 (.fn (.pair zy (.pair zu (.pair zA .unit))) (.pair zu (.pair (.int .i64) .unit))) .nil)) 94 (.fn (.pair zu (.pair zu .unit)) (.pair .bool .unit)) (.node (.node .nil 95 (.ptr (.arr 4 (.int .u64))) .nil) 96 (.fn (.pair (.ptr zu) (.pair (.int .i64) (.pair (.int .i64) .unit))) (.pair (.ptr (.arr 4 (.int .u64))) .unit)) (.node .nil 97 (.ptr zu) .nil)))) 98 (.fn (.pair zy (.pair (.int .i64) .unit)) (.pair .bool .unit)) (.node (.node (.node (.node (.node .nil 99 (.sl zfz) .nil) 100 (.fn (.pair zu .unit) (.pair zu .unit)) .nil) 101 (.fn (.pair (.arr 4 (.int .u64)) (.pair (.int .i64) (.pair (.int .u64) .unit))) (.pair (.arr 4 (.int .u64)) (.pair (.int .i64) .unit))) (.node .nil 102 (.st (.pair .str (.pair .str (.pair (.int .i64) (.pair .bool .unit))))) .nil)) 103 qQ (.node (.node .nil 104 (.st (.pair (.int .i64) (.pair (.int .i64) .unit))) .nil) 105 zaS (.node .nil 106 (.fn (.pair zy .unit) (.pair (.sl (.sl (.int .i64))) .unit)) .nil))) 107 (.fn (.pair zy (.pair zcJ .unit)) (.pair zj .unit)) (.node (.node (.node .nil 108 (.st (.pair .bool (.pair .str .unit))) .nil) 109 qj (.node .nil 110 (.fn (.pair (.sl zA) .unit) (.pair .bool .unit)) .nil)) 111 (.fn (.pair (.sl qQ) .unit) (.pair .bool .unit)) (.node (.node .nil 112 (.fn (.pair (.sl zaS) (.pair (.sl zA) (.pair (.int .i64) .unit))) (.pair .bool .unit)) .nil) 113 (.fn (.pair (.sl zcJ) .unit) (.pair .bool .unit)) (.node .nil 114 (.fn (.pair zy (.pair (.sl (.sl (.int .i64))) .unit)) (.pair .bool .unit)) .nil))))) 115 (.fn (.pair (.sl zm) .unit) (.pair .bool .unit)) (.node (.node (.node (.node (.node (.node .nil 116 (.fn (.pair (.sl zt) .unit) (.pair .bool .unit)) .nil) 117 (.fn (.pair zu (.pair zW .unit)) (.pair .bool .unit)) .nil) 118 (.st (.pair (.int .i64) (.pair (.int .i64) .unit))) (.node .nil 119 zW .nil)) 120 (.st (.pair .bool (.pair (.int .i64) (.pair (.int .i64) (.pair (.int .i64) (.pair (.int .i64) (.pair (.int .i64) (.pair (.int .u64) (.pair (.int .u64) (.pair (.int .u64) (.pair (.int .i64) .unit))))))))))) (.node (.node .nil 121 zm .nil) 122 (.st (.pair (.int .u64) (.pair (.int .i64) (.pair (.int .i64) (.pair (.int .i64) (.pair (.int .i64) (.pair (.int .i64) (.pair (.int .i64) (.pair (.int .u64) (.pair (.int .u64) (.pair (.int .i64) .unit))))))))))) (.node .nil 123 zt .nil))) 124 (.fn (.pair (.sl qj) .unit) (.pair .bool .unit)) (.node (.node (.node .nil 125 (.fn (.pair (.sl zV) .unit) (.pair .bool .unit)) .nil) 126 (.fn (.pair (.sl zU) .unit) (.pair .bool .unit)) (.node .nil 127 (.fn (.pair (.sl z4) .unit) (.pair .bool .unit)) .nil)) 128 (.fn (.pair (.sl zw) .unit) (.pair .bool .unit)) (.node (.node .nil 129 (.st (.pair .bool (.pair zW (.pair zW (.pair (.int .i64) .unit))))) .nil) 130 zV (.node .nil 131 (.fn (.pair zy (.pair zu (.pair zW (.pair (.int .i64) .unit)))) (.pair .bool .unit)) .nil)))) 132 (.fn (.pair zy (.pair zu (.pair (.int .i64) (.pair (.int .i64) .unit)))) (.pair .bool .unit)) (.node (.node (.node (.node (.node .nil 133 (.fn (.pair zy (.pair zj (.pair (.int .i64) .unit))) (.pair .bool .unit)) .nil) 134 (.st (.pair .bool (.pair (.int .i64) (.pair (.int .i64) (.pair (.int .i64) (.pair .str .unit)))))) .nil) 135 z4 (.node .nil 136 (.fn (.pair (.int .u64) (.pair (.int .u64) .unit)) (.pair (.int .u64) (.pair (.int .i64) .unit))) .nil)) 137 (.fn (.pair (.sl zj) (.pair (.fn (.pair zj .unit) (.pair .bool .unit)) .unit)) (.pair .bool .unit)) (.node (.node .nil 138 (.fn (.pair zj .unit) (.pair .bool .unit)) .nil) 139 (.fn (.pair (.sl zm) (.pair (.fn (.pair zm .unit) (.pair .bool .unit)) .unit)) (.pair .bool .unit)) (.node .nil 140 (.fn (.pair zm .unit) (.pair .bool .unit)) .nil))) 141 (.fn (.pair (.sl zt) (.pair (.fn (.pair zt .unit) (.pair .bool .unit)) .unit)) (.pair .bool .unit)) (.node (.node (.node .nil 142 (.fn (.pair zt .unit) (.pair .bool .unit)) .nil) 143 (.fn (.pair (.sl (.int .i64)) (.pair (.fn (.pair (.int .i64) .unit) (.pair .bool .unit)) .unit)) (.pair .bool .unit)) (.node .nil 144 (.fn (.pair zW .unit) (.pair .bool .unit)) .nil)) 145 (.fn (.pair (.int .i64) .unit) (.pair (.fn (.pair zW .unit) (.pair .bool .unit)) .unit)) (.node (.node .nil 146 (.fn (.pair (.sl zV) (.pair (.fn (.pair zV .unit) (.pair .bool .unit)) .unit)) (.pair .bool .unit)) .nil) 147 (.fn (.pair zV .unit) (.pair .bool .unit)) (.node .nil 148 (.fn (.pair (.sl zU) (.pair (.fn (.pair zU .unit) (.pair .bool .unit)) .unit)) (.pair .bool .unit)) .nil))))))) 149 (.st (.pair .bool (.pair .str (.pair (.int .i64) (.pair (.int .i64) (.pair zW .unit)))))) (.node (.node (.node (.node (.node (.node (.node (.node .nil 150 zU .nil) 151 (.fn (.pair zU .unit) (.pair .bool .unit)) .nil) 152 (.fn (.pair (.sl zW) (.pair (.fn (.pair zW .unit) (.pair .bool .unit)) .unit)) (.pair .bool .unit)) (.node .nil 153 (.fn (.pair (.sl z4) (.pair (.fn (.pair z4 .unit) (.pair .bool .unit)) .unit)) (.pair .bool .unit)) .nil)) 154 (.fn (.pair (.int .i64) (.pair (.int .i64) .unit)) (.pair .bool .unit)) (.node (.node .nil 155 (.fn (.pair z4 .unit) (.pair .bool .unit)) .nil) 156 (.fn (.pair (.sl zw) (.pair (.fn (.pair zw .unit) (.pair .bool .unit)) .unit)) (.pair .bool .unit)) (.node .nil 157 (.st (.pair (.int .i64) (.pair (.int .u64) (.pair (.int .i64) .unit)))) .nil))) 158 zde (.node (.node (.node (.node .nil 159 (.st (.pair .bool (.pair (.int .i64) (.pair (.int .i64) (.pair zde (.pair zde .unit)))))) .nil) 160 zw .nil) 161 (.fn (.pair zw .unit) (.pair .bool .unit)) (.node .nil 162 (.ptr vI) .nil)) 163 (.fn (.pair (.sl zw) (.pair (.fn (.pair zw .unit) (.pair .bool .unit)) .unit)) (.pair (.ptr vI) .unit)) (.node (.node .nil 164 (.fn .unit (.pair (.sl (.int .i64)) .unit)) .nil) 165 (.fn (.pair (.sl zm) .unit) (.pair (.sl (.int .i64)) .unit)) (.node .nil 166 (.fn (.pair zm .unit) (.pair (.int .i64) .unit)) .nil)))) 167 (.fn (.pair (.sl zw) .unit) (.pair (.ptr vI) .unit)) (.node (.node (.node (.node (.node .nil 169 (.fn (.pair (.int .i64) .unit) (.pair zA (.pair (.int .i64) .unit))) .nil) 170 (.fn (.pair (.sl zj) (.pair (.sl zj) (.pair (.fn (.pair (.int .i64) .unit) (.pair .bool .unit)) .unit))) (.pair (.sl zj) .unit)) .nil) 171 (.fn (.pair (.sl (.sl (.int .i64))) (.pair (.sl (.sl (.int .i64))) (.pair (.fn (.pair (.int .i64) .unit) (.pair .bool .unit)) .unit))) (.pair (.sl (.sl (.int .i64))) .unit)) (.node .nil 172 (.fn (.pair (.sl (.int .i64)) (.pair (.sl (.int .i64)) (.pair (.fn (.pair (.int .i64) .unit) (.pair .bool .unit)) .unit))) (.pair (.sl (.int .i64)) .unit)) .nil)) 173 (.fn (.pair (.sl zj) (.pair (.sl zj) (.pair (.fn (.pair zj (.pair zj .unit)) (.pair .bool .unit)) .unit))) (.pair .bool .unit)) (.node (.node .nil 174 (.fn (.pair zj (.pair zj .unit)) (.pair .bool .unit)) .nil) 175 (.fn (.pair (.sl (.sl (.int .i64))) (.pair (.sl (.sl (.int .i64))) (.pair (.fn (.pair (.sl (.int .i64)) (.pair (.sl (.int .i64)) .unit)) (.pair .bool .unit)) .unit))) (.pair .bool .unit)) (.node .nil 176 (.fn (.pair (.sl (.int .i64)) (.pair (.sl (.int .i64)) .unit)) (.pair .bool .unit)) .nil))) 177 (.fn (.pair (.sl zm) (.pair (.sl zm) .unit)) (.pair .bool .unit)) (.node (.node (.node .nil 178 (.fn (.pair (.sl zt) (.pair (.sl zt) .unit)) (.pair .bool .unit)) .nil) 179 (.fn (.pair (.int .i64) (.pair (.int .i64) (.pair (.int .i64) .unit))) (.pair .bool .unit)) (.node .nil 180 (.fn (.pair (.sl zm) .unit) (.pair (.sl zm) .unit)) .nil)) 181 (.fn (.pair (.sl zt) .unit) (.pair (.sl zt) .unit)) (.node (.node .nil 182 (.fn (.pair (.sl (.int .i64)) .unit) (.pair (.sl (.int .i64)) .unit)) .nil) 183 (.fn (.pair (.sl (.sl (.int .i64))) .unit) (.pair (.sl (.sl (.int .i64))) .unit)) (.node .nil 184 (.fn (.pair (.sl zj) .unit) (.pair (.sl zj) .unit)) .nil))))) 185 (.fn (.pair (.sl qj) .unit) (.pair (.sl qj) .unit)) (.node (.node (.node (.node (.node (.node .nil 186 (.fn (.pair (.sl zV) .unit) (.pair (.sl zV) .unit)) .nil) 187 (.fn (.pair (.sl zU) .unit) (.pair (.sl zU) .unit)) .nil) 188 (.fn (.pair (.sl z4) .unit) (.pair (.sl z4) .unit)) (.node .nil 189 (.fn (.pair (.sl zw) .unit) (.pair (.sl zw) .unit)) .nil)) 190 (.fn (.pair (.sl (.arr 4 (.int .u64))) .unit) (.pair (.sl (.arr 4 (.int .u64))) .unit)) (.node (.node .nil 191 (.fn (.pair (.sl zW) .unit) (.pair (.sl zW) .unit)) .nil) 192 (.fn (.pair (.arr 4 (.int .u64)) (.pair (.int .i64) (.pair (.int .u64) (.pair (.fn (.pair (.int .u64) (.pair (.int .u64) .unit)) (.pair (.int .u64) (.pair (.int .i64) .unit))) .unit)))) (.pair (.arr 4 (.int .u64)) (.pair (.int .i64) .unit))) (.node .nil 193 (.sl (.fn (.pair zy .unit) (.pair .bool .unit))) .nil))) 194 (.fn (.pair zA (.pair zA .unit)) (.pair (.int .i64) .unit)) (.node (.node (.node .nil 195 (.fn (.pair .str .unit) (.pair .bool .unit)) .nil) 196 (.fn (.pair (.sl zA) (.pair zA .unit)) (.pair (.int .i64) .unit)) (.node .nil 197 (.fn (.pair (.int .i64) .unit) (.pair zA .unit)) .nil)) 198 (.fn (.pair zA (.pair (.int .i64) .unit)) (.pair .bool .unit)) (.node (.node .nil 199 (.fn (.pair (.sl zaS) (.pair (.int .i64) .unit)) (.pair .bool .unit)) .nil) 200 (.fn (.pair (.sl zm) (.pair (.int .i64) (.pair (.int .i64) .unit))) (.pair .bool .unit)) (.node .nil 201 (.fn (.pair zt (.pair zt .unit)) (.pair .bool .unit)) .nil)))) 202 (.fn (.pair zm (.pair (.int .i64) .unit)) (.pair (.int .u64) .unit)) (.node (.node (.node (.node (.node .nil 203 (.fn (.pair (.sl qj) (.pair (.fn (.pair qj .unit) (.pair .bool .unit)) .unit)) (.pair .bool .unit)) .nil) 204 (.fn (.pair qj .unit) (.pair .bool .unit)) .nil) 205 (.fn (.pair (.sl zV) (.pair zW (.pair (.int .i64) .unit))) (.pair (.int .i64) .unit)) (.node .nil 206 (.pair (.int .i64) (.int .i64)) .nil)) 207 (.fn (.pair zt (.pair zt .unit)) (.pair (.int .i64) .unit)) (.node (.node .nil 208 (.st (.pair (.sl zw) (.pair (.fn (.pair zw .unit) (.pair .bool .unit)) .unit))) .nil) 209 vI (.node .nil 210 (.fn (.pair zu (.pair (.int .i64) (.pair (.fn (.pair zj .unit) (.pair (.arr 4 (.int .u64)) .unit)) .unit))) (.pair (.int .u64) (.pair (.int .i64) .unit))) .nil))) 211 (.fn (.pair zj .unit) (.pair (.arr 4 (.int .u64)) .unit)) (.node (.node (.node .nil 212 (.ptr yF) .nil) 213 (.fn (.pair (.sl zm) .unit) (.pair (.ptr yF) .unit)) (.node .nil 215 (.fn (.pair (.int .u64) (.pair (.int .u64) (.pair (.int .u64) .unit))) (.pair (.int .u64) (.pair (.int .u64) .unit))) .nil)) 216 (.fn (.pair (.sl qj) (.pair (.sl qj) .unit)) (.pair .bool .unit)) (.node (.node .nil 217 (.fn (.pair (.sl zV) (.pair (.sl zV) .unit)) (.pair .bool .unit)) .nil) 218 (.fn (.pair (.sl zU) (.pair (.sl zU) .unit)) (.pair .bool .unit)) (.node .nil 219 (.fn (.pair (.sl z4) (.pair (.sl z4) .unit)) (.pair .bool .unit)) .nil)))))) 220 (.fn (.pair (.sl zw) (.pair (.sl zw) .unit)) (.pair .bool .unit)) (.node (.node (.node (.node (.node (.node (.node .nil 221 (.fn (.pair (.sl (.arr 4 (.int .u64))) (.pair (.sl (.arr 4 (.int .u64))) .unit)) (.pair .bool .unit)) .nil) 222 (.fn (.pair (.sl zW) (.pair (.sl zW) .unit)) (.pair .bool .unit)) .nil) 223 (.fn (.pair (.sl zA) (.pair (.fn (.pair zA .unit) (.pair .bool .unit)) .unit)) (.pair .bool .unit)) (.node .nil 224 (.fn (.pair qQ .unit) (.pair .bool .unit)) .nil)) 225 (.fn (.pair (.sl qQ) (.pair (.fn (.pair qQ .unit) (.pair .bool .unit)) .unit)) (.pair .bool .unit)) (.node (.node .nil 226 (.fn (.pair (.sl .str) .unit) (.pair .bool .unit)) .nil) 227 (.sl .str) (.node .nil 228 (.fn (.pair zy .unit) (.pair (.sl .str) .unit)) .nil))) 229 (.fn (.pair (.sl zA) (.pair zA .unit)) (.pair .bool .unit)) (.node (.node (.node (.node .nil 230 (.fn (.pair zcJ .unit) (.pair (.sl (.int .i64)) .unit)) .nil) 231 (.int .u64) .nil) 232 (.fn (.pair (.int .i64) (.pair (.int .u64) (.pair (.int .u64) .unit))) (.pair (.int .u64) (.pair (.int .i64) .unit))) (.node .nil 233 (.fn (.pair (.int .u8) .unit) (.pair .bool .unit)) .nil)) 234 (.fn (.pair zde .unit) (.pair .bool .unit)) (.node (.node .nil 235 (.fn (.pair (.sl zj) (.pair (.fn (.pair zj .unit) (.pair .bool .unit)) .unit)) (.pair (.int .i64) .unit)) .nil) 236 (.fn (.pair (.sl qj) (.pair (.fn (.pair qj .unit) (.pair .bool .unit)) .unit)) (.pair (.int .i64) .unit)) (.node .nil 237 (.fn (.pair .str (.pair (.fn (.pair (.int .u8) .unit) (.pair .bool .unit)) .unit)) (.pair .bool .unit)) .nil)))) 238 (.fn (.pair (.sl zV) (.pair (.fn (.pair zV .unit) (.pair .bool .unit)) .unit)) (.pair (.int .i64) .unit)) (.node (.node (.node (.node (.node .nil 239 (.fn (.pair (.sl zU) (.pair (.fn (.pair zU .unit) (.pair .bool .unit)) .unit)) (.pair (.int .i64) .unit)) .nil) 240 (.st (.pair (.int .i64) (.pair (.int .i64) (.pair zW .unit)))) .nil) 241 zsc (.node .nil 242 (.fn (.pair zU .unit) (.pair zsc .unit)) .nil)) 243 (.fn (.pair (.sl z4) (.pair (.fn (.pair z4 .unit) (.pair .bool .unit)) .unit)) (.pair (.int .i64) .unit)) (.node (.node .nil 244 (.fn (.pair (.sl zw) (.pair (.fn (.pair zw .unit) (.pair .bool .unit)) .unit)) (.pair (.int .i64) .unit)) .nil) 245 (.fn (.pair (.sl (.int .i64)) (.pair (.fn (.pair (.int .i64) .unit) (.pair .bool .unit)) .unit)) (.pair (.int .i64) .unit)) (.node .nil 246 (.fn (.pair (.sl (.int .i64)) .unit) (.pair (.int .i64) .unit)) .nil))) 247 (.fn (.pair (.int .u64) (.pair (.int .u64) .unit)) (.pair (.int .i64) .unit)) (.node (.node (.node .nil 248 (.fn (.pair (.int .i64) (.pair (.int .i64) .unit)) (.pair (.int .i64) .unit)) .nil) 249 (.fn (.pair (.sl zm) (.pair (.fn (.pair zm .unit) (.pair .bool .unit)) .unit)) (.pair (.int .i64) .unit)) (.node .nil 250 (.fn (.pair (.sl zt) (.pair (.fn (.pair zt .unit) (.pair .bool .unit)) .unit)) (.pair (.int .i64) .unit)) .nil)) 251 (.fn (.pair (.sl zW) (.pair (.fn (.pair zW .unit) (.pair .bool .unit)) .unit)) (.pair (.int .i64) .unit)) (.node (.node .nil 252 (.fn (.pair (.sl zm) (.pair (.fn (.pair zm .unit) (.pair .bool .unit)) .unit)) (.pair (.ptr yF) .unit)) .nil) 253 (.st (.pair (.sl zm) (.pair (.fn (.pair zm .unit) (.pair .bool .unit)) .unit))) (.node .nil 254 yF .nil))))) 255 (.fn (.pair (.sl zA) (.pair (.fn (.pair zA .unit) (.pair .bool .unit)) .unit)) (.pair (.int .i64) .unit)) (.node (.node (.node (.node (.node (.node .nil 256 (.fn (.pair (.sl qQ) (.pair (.fn (.pair qQ .unit) (.pair .bool .unit)) .unit)) (.pair (.int .i64) .unit)) .nil) 257 (.pair .str (.int .i64)) .nil) 258 (.fn (.pair (.sl (.int .u8)) (.pair (.fn (.pair (.int .u8) .unit) (.pair .bool .unit)) .unit)) (.pair .bool .unit)) (.node .nil 259 (.sl (.int .u8)) .nil)) 260 (.fn (.pair .str (.pair .str .unit)) (.pair .str .unit)) (.node (.node .nil 261 (.fn (.pair (.int .u64) .unit) (.pair .bool .unit)) .nil) 262 (.fn (.pair (.sl (.int .u8)) (.pair (.fn (.pair (.int .u8) .unit) (.pair .bool .unit)) .unit)) (.pair (.int .i64) .unit)) (.node .nil 263 (.fn (.pair .str (.pair (.int .u8) .unit)) (.pair .str .unit)) .nil))) 264 (.arr 256 .bool) (.node (.node (.node .nil 265 (.arr 256 .bool) .nil) 267 (.fn (.pair .str .unit) (.pair (.arr 256 .bool) (.pair .bool .unit))) (.node .nil 268 (.fn (.pair .str (.pair (.ptr (.arr 256 .bool)) .unit)) (.pair .str .unit)) .nil)) 269 (.ptr (.arr 256 .bool)) (.node (.node .nil 270 (.fn (.pair (.int .u64) (.pair (.int .u64) .unit)) (.pair (.int .u64) (.pair (.int .u64) .unit))) .nil) 272 (.fn (.pair .str .unit) (.pair (.int .i32) (.pair (.int .i64) .unit))) (.node .nil 273 (.fn (.pair .str (.pair (.int .i32) .unit)) (.pair .bool .unit)) .nil)))) 274 (.fn (.pair .str (.pair (.int .i32) .unit)) (.pair (.int .i64) .unit)) (.node (.node (.node (.node (.node .nil 275 (.arr 256 (.int .u8)) .nil) 276 (.st (.pair (.int .u8) (.pair (.int .u8) .unit))) .nil) 277 zjV (.node .nil 278 (.arr 16 zjV) .nil)) 279 (.fn (.pair .str (.pair (.int .u8) .unit)) (.pair (.int .i64) .unit)) (.node (.node .nil 280 (.fn (.pair (.int .i32) .unit) (.pair .bool .unit)) .nil) 281 (.fn (.pair (.int .i64) .unit) (.pair (.int .i64) .unit)) (.node .nil 282 (.fn (.pair .str (.pair .str .unit)) (.pair (.int .i64) .unit)) .nil))) 283 (.fn .unit (.pair .str .unit)) (.node (.node (.node .nil 289 (.fn .unit (.pair (.int .i64) .unit)) .nil) 290 (.int .u32) (.node .nil 291 (.int .u8) .nil)) 292 (.int .u8) (.node (.node .nil 294 (.ptr (.int .u8)) .nil) 295 (.int .i32) (.node .nil 296 (.int .i32) .nil))))))))
def glob:List (Nat × AV):=[]
abbrev A_law30_MoneyAlike:Ty:=(.pair zy (.pair zu (.pair zu (.pair tMe (.pair qW (.pair zA .unit))))))
def ext:List (Nat × Bool):=[(215,true),(223,false)]
def E0:Env:=⟨types,[],glob,0,false,ext,[],fun _=>none,false,false⟩
theorem zDR:Tryz.prog.follows .mixedOrders = true:=by kernel_rfl
theorem mkS {l:List Fun} {d:Bool} {F:Fun} {f:Go.Func} {K:Nat} (hl:Sds Tryz.prog E0 l) (hf:Tryz.prog.funcs[F.id]? = some f) (ho:jL f = true) (h:evF (En E0 d l) K f F.md F.a F.r = F.spec):Sd Tryz.prog E0 F:=Sd.mk zDR hl hf ho h
end Go.Proofs.YtokcjmkikhgkeaaGreatDoor
end
section
namespace Go.Proofs.YtokcjmkikhgkeaaGreatDoor
open Go.Ev
noncomputable section
abbrev Sq (F:Fun):Prop:=Sd Tryz.prog E0 F
def L0:List Fun:=[]
theorem h0:Sds Tryz.prog E0 L0:=trivial
theorem ms0 {d:Bool} {F:Fun} {f:Go.Func} {K:Nat} (hf:Tryz.prog.funcs[F.id]? = some f) (ho:jL f = true) (h:evF (En E0 d L0) K f F.md F.a F.r = F.spec):Sd Tryz.prog E0 F:=mkS h0 hf ho h
theorem ml0 {d:Bool} {F:Fun} {f:Go.Func} {S:Nat→F.a.I→Option F.r.I} (hf:Tryz.prog.funcs[F.id]? = some f) (ho:jL f = true) (h:∀ K,evF (En E0 d L0) K f F.md F.a F.r = S K) (e:S K0 = F.spec):Sd Tryz.prog E0 F:=mkS h0 hf ho ((h K0).trans e)
abbrev Es0:Env:=En E0 false L0
def zdD:(zr × Unit)→Option (Bool × Unit):=fun (x0,()) =>
  bif decide (x0.1 ≥ 0) then bif decide (x0.1 < 4) then some (true,()) else some (false,()) else some (false,())
abbrev zpq:Fun:=⟨14,(ch [zA]),(ch [.bool]),0,zdD⟩
theorem zyu:Sq zpq:=ms0 (d:=false) (K:=0) Tryz.func14 (by kernel_rfl) (funext fun (x0,())=>by kernel_rfl)
def ql:(Int × (Int × (Int × Unit)))→Option (Bool × Unit):=fun (x0,x1,x2,()) =>
  bif decide (x0 ≥ x1) then bif decide (x0 ≤ x2) then some (true,()) else some (false,()) else some (false,())
abbrev znx:Fun:=⟨136,(ch [tI,tI,tI]),(ch [.bool]),0,ql⟩
theorem zw2:Sq znx:=ms0 (d:=false) (K:=0) Tryz.func136 (by kernel_rfl) (funext fun (x0,x1,x2,())=>by kernel_rfl)
abbrev jX:Type:=(List zr) × (Option ((zr × Unit)→Option (Bool × Unit))) × Int × Int
abbrev zm1:jX→St:=fun (v0,v1,v7,v8)=>St.mk [(0,.dat (.sl zA) v0),(1,.dat (.fn (.pair zA .unit) (.pair .bool .unit)) v1),(7,.dat tI v7),(8,.dat tI v8)] []
def zcg (k0:jX→Option (Int × Unit)):jX→Option (Int × Unit):=fun (v0,v1,v7,v8) =>
  bif decide (v8 < v7) then inR v8 ((List.length v0):Int) (Option.bind v1 fun q0=>Option.bind (q0 (ix qz v0 v8,())) fun q1=>bif q1.1 then some (v8,()) else k0 (v0,v1,v7,wI (v8 + 1))) else some ((-1),())
abbrev zfA (K:Nat):jX→Option (Int × Unit):=zl zcg K
theorem zm2 (K:Nat):∀ n,evV Es0 K Tryz.f276 0 (ch [tI]) [1,0,1,0] [] zm1 n = zl zcg n:=zv fun n0 (v0,v1,v7,v8)=>by kernel_rfl
def zdg (L0:jX→Option (Int × Unit)):((List zr) × ((Option ((zr × Unit)→Option (Bool × Unit))) × Unit))→Option (Int × Unit):=fun (x0,x1,()) =>
  L0 (x0,x1,((List.length x0):Int),0)
def zas:((List zr) × ((Option ((zr × Unit)→Option (Bool × Unit))) × Unit))→Option (Int × Unit):=zdg (zfA K0)
abbrev zg7:Fun:=⟨276,(ch [(.sl zA),(.fn (ch [zA]) (ch [.bool]))]),(ch [tI]),0,zas⟩
theorem zoN:Sq zg7:=ml0 (d:=false) (S:=fun K=>zdg (zfA K)) Tryz.func276 (by kernel_rfl) (fun K=>tr1 (T:=zdg) (zm2 K K) fun (x0,x1,())=>by kernel_rfl) rfl
def yW:(Int × Unit)→Option (Bool × Unit):=fun (x0,()) =>
  bif x0 != x0 then some (true,()) else some (false,())
abbrev zme:Fun:=⟨288,(ch [tI]),(ch [.bool]),0,yW⟩
theorem zvy:Sq zme:=ms0 (d:=false) (K:=0) Tryz.func288 (by kernel_rfl) (funext fun (x0,())=>by kernel_rfl)
def vi:(Int × Unit)→Option (Bool × Unit):=fun (x0,()) =>
  bif x0 != x0 then some (true,()) else some (false,())
abbrev zjh:Fun:=⟨287,(ch [tU]),(ch [.bool]),0,vi⟩
theorem zqP:Sq zjh:=ms0 (d:=false) (K:=0) Tryz.func287 (by kernel_rfl) (funext fun (x0,())=>by kernel_rfl)
abbrev zcK:Type:=Int × (List Int) × Int × Int
abbrev zw3:zcK→St:=fun (v3,v6,v7,v8)=>St.mk [(3,.dat tI v3),(6,.dat (.sl tI) v6),(7,.dat tI v7),(8,.dat tI v8)] []
def qZ (k0:zcK→Option (Int × Unit)):zcK→Option (Int × Unit):=fun (v3,v6,v7,v8) =>
  bif decide (v8 < v7) then inR v8 ((List.length v6):Int) (bif ix (0:Int) v6 v8 != v3 then some (ix (0:Int) v6 v8,()) else k0 (v3,v6,v7,wI (v8 + 1))) else some (v3,())
abbrev zny (K:Nat):zcK→Option (Int × Unit):=zl qZ K
theorem zw4 (K:Nat):∀ n,evV Es0 K Tryz.f266 0 (ch [tI]) [1,1,0,1,0] [] zw3 n = zl qZ n:=zv fun n0 (v3,v6,v7,v8)=>by kernel_rfl
def zkS (L0:zcK→Option (Int × Unit)):((List Int) × Unit)→Option (Int × Unit):=fun (x0,()) =>
  L0 (0,x0,((List.length x0):Int),0)
def zcL:((List Int) × Unit)→Option (Int × Unit):=zkS (zny K0)
abbrev zqQ:Fun:=⟨266,(ch [(.sl tI)]),(ch [tI]),0,zcL⟩
theorem zAl:Sq zqQ:=ml0 (d:=false) (S:=fun K=>zkS (zny K)) Tryz.func266 (by kernel_rfl) (fun K=>tr1 (T:=zkS) (zw4 K K) fun (x0,())=>by kernel_rfl) rfl
abbrev vJ:Type:=(List Int) × (Option ((Int × Unit)→Option (Bool × Unit))) × Int × Int
abbrev zoO:vJ→St:=fun (v0,v1,v7,v8)=>St.mk [(0,.dat (.sl tI) v0),(1,.dat (.fn (.pair tI .unit) (.pair .bool .unit)) v1),(7,.dat tI v7),(8,.dat tI v8)] []
def zdh (k0:vJ→Option (Int × Unit)):vJ→Option (Int × Unit):=fun (v0,v1,v7,v8) =>
  bif decide (v8 < v7) then inR v8 ((List.length v0):Int) (Option.bind v1 fun q0=>Option.bind (q0 (ix (0:Int) v0 v8,())) fun q1=>bif q1.1 then some (v8,()) else k0 (v0,v1,v7,wI (v8 + 1))) else some ((-1),())
abbrev zg8 (K:Nat):vJ→Option (Int × Unit):=zl zdh K
theorem zoP (K:Nat):∀ n,evV Es0 K Tryz.f262 0 (ch [tI]) [1,0,1,0] [] zoO n = zl zdh n:=zv fun n0 (v0,v1,v7,v8)=>by kernel_rfl
def zeo (L0:vJ→Option (Int × Unit)):((List Int) × ((Option ((Int × Unit)→Option (Bool × Unit))) × Unit))→Option (Int × Unit):=fun (x0,x1,()) =>
  L0 (x0,x1,((List.length x0):Int),0)
def zbD:((List Int) × ((Option ((Int × Unit)→Option (Bool × Unit))) × Unit))→Option (Int × Unit):=zeo (zg8 K0)
abbrev zji:Fun:=⟨262,(ch [(.sl tI),(.fn (ch [tI]) (ch [.bool]))]),(ch [tI]),0,zbD⟩
theorem zqR:Sq zji:=ml0 (d:=false) (S:=fun K=>zeo (zg8 K)) Tryz.func262 (by kernel_rfl) (fun K=>tr1 (T:=zeo) (zoP K K) fun (x0,x1,())=>by kernel_rfl) rfl
def zep:(Int × Unit)→Option (Bool × Unit):=fun (x0,()) =>
  bif decide (x0 ≥ 97) then bif decide (x0 ≤ 122) then some (true,()) else some (false,()) else some (false,())
abbrev zqS:Fun:=⟨244,(ch [(.int .u8)]),(ch [.bool]),0,zep⟩
theorem zAm:Sq zqS:=ms0 (d:=false) (K:=0) Tryz.func244 (by kernel_rfl) (funext fun (x0,())=>by kernel_rfl)
def zg9:(Int × ((Option (Option ((Int × Unit)→Option (Bool × Unit)))) × Unit))→Option (Bool × Unit):=fun (x0,x1,()) =>
  Option.bind x1 fun q0=>Option.bind q0 fun q1=>Option.bind (q1 (x0,())) fun q2=>bif q2.1 then some (false,()) else some (true,())
abbrev zqT:Fun:=⟨280,(ch [(.int .u8),(.ptr (.fn (ch [(.int .u8)]) (ch [.bool])))]),(ch [.bool]),0,zg9⟩
theorem zAn:Sq zqT:=ms0 (d:=false) (K:=0) Tryz.func280 (by kernel_rfl) (funext fun (x0,x1,())=>by kernel_rfl)
abbrev vj:Type:=(List Int) × (Option ((Int × Unit)→Option (Bool × Unit))) × Int × Int
abbrev znz:vj→St:=fun (v0,v1,v7,v8)=>St.mk [(0,.dat (.sl (.int IntKind.u8)) v0),(1,.dat (.fn (.pair (.int IntKind.u8) .unit) (.pair .bool .unit)) v1),(7,.dat tI v7),(8,.dat tI v8)] []
def zcM (k0:vj→Option (Int × Unit)):vj→Option (Int × Unit):=fun (v0,v1,v7,v8) =>
  bif decide (v8 < v7) then inR v8 ((List.length v0):Int) (Option.bind v1 fun q0=>Option.bind (q0 (ix (zf (.int IntKind.u8)) v0 v8,())) fun q1=>bif q1.1 then some (v8,()) else k0 (v0,v1,v7,wI (v8 + 1))) else some ((-1),())
abbrev zgG (K:Nat):vj→Option (Int × Unit):=zl zcM K
theorem znA (K:Nat):∀ n,evV Es0 K Tryz.f289 0 (ch [tI]) [1,0,1,0] [] znz n = zl zcM n:=zv fun n0 (v0,v1,v7,v8)=>by kernel_rfl
def zd0 (L0:vj→Option (Int × Unit)):((List Int) × ((Option ((Int × Unit)→Option (Bool × Unit))) × Unit))→Option (Int × Unit):=fun (x0,x1,()) =>
  L0 (x0,x1,((List.length x0):Int),0)
def za9:((List Int) × ((Option ((Int × Unit)→Option (Bool × Unit))) × Unit))→Option (Int × Unit):=zd0 (zgG K0)
abbrev zh5:Fun:=⟨289,(ch [(.sl (.int .u8)),(.fn (ch [(.int .u8)]) (ch [.bool]))]),(ch [tI]),0,za9⟩
theorem zp5:Sq zh5:=ml0 (d:=false) (S:=fun K=>zd0 (zgG K)) Tryz.func289 (by kernel_rfl) (fun K=>tr1 (T:=zd0) (znA K K) fun (x0,x1,())=>by kernel_rfl) rfl
def zha:(Int × Unit)→Option (Bool × Unit):=fun (x0,()) =>
  bif decide (x0 ≥ 48) then bif decide (x0 ≤ 57) then some (true,()) else some (false,()) else some (false,())
abbrev zqU:Fun:=⟨247,(ch [(.int .u8)]),(ch [.bool]),0,zha⟩
theorem zAo:Sq zqU:=ms0 (d:=false) (K:=0) Tryz.func247 (by kernel_rfl) (funext fun (x0,())=>by kernel_rfl)
abbrev jD:Type:=(List qR) × (Option ((qR × Unit)→Option (Bool × Unit))) × Int × Int
abbrev zkT:jD→St:=fun (v0,v1,v7,v8)=>St.mk [(0,.dat (.sl qQ) v0),(1,.dat (.fn (.pair qQ .unit) (.pair .bool .unit)) v1),(7,.dat tI v7),(8,.dat tI v8)] []
def zaT (k0:jD→Option (Int × Unit)):jD→Option (Int × Unit):=fun (v0,v1,v7,v8) =>
  bif decide (v8 < v7) then inR v8 ((List.length v0):Int) (Option.bind v1 fun q0=>Option.bind (q0 (ix zcf v0 v8,())) fun q1=>bif q1.1 then some (v8,()) else k0 (v0,v1,v7,wI (v8 + 1))) else some ((-1),())
abbrev zeq (K:Nat):jD→Option (Int × Unit):=zl zaT K
theorem zkU (K:Nat):∀ n,evV Es0 K Tryz.f277 0 (ch [tI]) [1,0,1,0] [] zkT n = zl zaT n:=zv fun n0 (v0,v1,v7,v8)=>by kernel_rfl
def zch (L0:jD→Option (Int × Unit)):((List qR) × ((Option ((qR × Unit)→Option (Bool × Unit))) × Unit))→Option (Int × Unit):=fun (x0,x1,()) =>
  L0 (x0,x1,((List.length x0):Int),0)
def yG:((List qR) × ((Option ((qR × Unit)→Option (Bool × Unit))) × Unit))→Option (Int × Unit):=zch (zeq K0)
abbrev zfB:Fun:=⟨277,(ch [(.sl qQ),(.fn (ch [qQ]) (ch [.bool]))]),(ch [tI]),0,yG⟩
theorem zm3:Sq zfB:=ml0 (d:=false) (S:=fun K=>zch (zeq K)) Tryz.func277 (by kernel_rfl) (fun K=>tr1 (T:=zch) (zkU K K) fun (x0,x1,())=>by kernel_rfl) rfl
abbrev yi:Type:=(List qR) × Int × Int × List ByteArray
abbrev zp6:yi→St:=fun (v7,v8,v9,o0)=>St.mk [(3,.ow 0),(7,.dat (.sl qQ) v7),(8,.dat tI v8),(9,.dat tI v9)] [.row .str o0 false]
def yj (k0:yi→Option ((List ByteArray) × Unit)):yi→Option ((List ByteArray) × Unit):=fun (v7,v8,v9,o0) =>
  bif decide (v9 < v8) then inR v9 ((List.length v7):Int) (bif decide (List.length o0 + List.length (zi (List.replicate 1 (zf .str)) 0 (ix zcf v7 v9).1) ≤ lim) then k0 (v7,v8,wI (v9 + 1),o0 ++ zi (List.replicate 1 (zf .str)) 0 (ix zcf v7 v9).1) else none) else some (o0,())
abbrev zh6 (K:Nat):yi→Option ((List ByteArray) × Unit):=zl yj K
theorem zp7 (K:Nat):∀ n,evV Es0 K Tryz.f231 0 (ch [(.sl .str)]) [1,1,0,1,0] [] zp6 n = zl yj n:=zv fun n0 (v7,v8,v9,o0)=>by kernel_rfl
def zfj (L0:yi→Option ((List ByteArray) × Unit)):(ze × Unit)→Option ((List ByteArray) × Unit):=fun (x0,()) =>
  L0 (x0.2.2.1,((List.length x0.2.2.1):Int),0,[])
def zfk:(ze × Unit)→Option ((List ByteArray) × Unit):=zfj (zh6 K0)
abbrev zjW:Fun:=⟨231,(ch [zy]),(ch [(.sl .str)]),0,zfk⟩
theorem zsu:Sq zjW:=ml0 (d:=false) (S:=fun K=>zfj (zh6 K)) Tryz.func231 (by kernel_rfl) (fun K=>tr1 (T:=zfj) (zp7 K K) fun (x0,())=>by kernel_rfl) rfl
abbrev zcN:Type:=(List ByteArray) × (List ByteArray) × Int × Int × List (ByteArray × Int)
abbrev zw5:zcN→St:=fun (v0,v7,v8,v9,o0)=>St.mk [(0,.dat (.sl .str) v0),(3,.om 0),(7,.dat (.sl .str) v7),(8,.dat tI v8),(9,.dat tI v9)] [.mp .str tI o0]
def zcO (k0:zcN→Option (Bool × Unit)):zcN→Option (Bool × Unit):=fun (v0,v7,v8,v9,o0) =>
  bif decide (v9 < v8) then inR v9 ((List.length v7):Int) (k0 (v0,v7,v8,wI (v9 + 1),yr .str o0 (List.getD v7 (Int.toNat v9) (zf .str)) (wI (zcc .str (0:Int) o0 (List.getD v7 (Int.toNat v9) (zf .str)) + 1)))) else bif ((List.length o0):Int) == ((List.length v0):Int) then some (true,()) else some (false,())
abbrev znB (K:Nat):zcN→Option (Bool × Unit):=zl zcO K
theorem zw6 (K:Nat):∀ n,evV Es0 K Tryz.f230 0 (ch [.bool]) [1,1,0,1,0] [] zw5 n = zl zcO n:=zv fun n0 (v0,v7,v8,v9,o0)=>by kernel_rfl
def zkV (L0:zcN→Option (Bool × Unit)):((List ByteArray) × Unit)→Option (Bool × Unit):=fun (x0,()) =>
  L0 (x0,x0,((List.length x0):Int),0,[])
def zkW:((List ByteArray) × Unit)→Option (Bool × Unit):=zkV (znB K0)
abbrev zqV:Fun:=⟨230,(ch [(.sl .str)]),(ch [.bool]),0,zkW⟩
theorem zAp:Sq zqV:=ml0 (d:=false) (S:=fun K=>zkV (znB K)) Tryz.func230 (by kernel_rfl) (fun K=>tr1 (T:=zkV) (zw6 K K) fun (x0,())=>by kernel_rfl) rfl
def zer:(Int × Unit)→Option (zr × (Int × Unit)):=fun (x0,()) =>
  bif decide (x0 < 0) then some ((0,0,()),1,()) else bif decide (x0 ≥ 64) then some ((0,0,()),1,()) else bif decide (x0 < 0) then none else some ((0,wU (1 * 2 ^ min (Int.toNat x0) (IntKind.bits IntKind.u64)),()),0,())
abbrev zqW:Fun:=⟨125,(ch [tI]),(ch [zA,tI]),0,zer⟩
theorem zAq:Sq zqW:=ms0 (d:=false) (K:=0) Tryz.func125 (by kernel_rfl) (funext fun (x0,())=>by kernel_rfl)
abbrev yL:Type:=(List zr) × Int × Int × zr
abbrev zqX:yL→St:=fun (v0,v7,v8,o0)=>St.mk [(0,.dat (.sl zA) v0),(3,.bp 0 []),(7,.dat tI v7),(8,.dat tI v8)] [.bx (.dat zA o0) false]
def yM (k0:yL→Option (Int × Unit)):yL→Option (Int × Unit):=fun (v0,v7,v8,o0) =>
  bif decide (v8 < v7) then inR v8 ((List.length v0):Int) (bif eqI zA o0 (ix qz v0 v8) then some (v8,()) else k0 (v0,v7,wI (v8 + 1),o0)) else some ((-1),())
abbrev zjj (K:Nat):yL→Option (Int × Unit):=zl yM K
theorem zqY (K:Nat):∀ n,evV Es0 K Tryz.f278 0 (ch [tI]) [1,0,1,0] [] zqX n = zl yM n:=zv fun n0 (v0,v7,v8,o0)=>by kernel_rfl
def zgh (L0:yL→Option (Int × Unit)):((List zr) × (zr × Unit))→Option (Int × Unit):=fun (x0,x1,()) =>
  L0 (x0,((List.length x0):Int),0,x1)
def zgi:((List zr) × zr × Unit)→Option (Int × Unit):=zgh (zjj K0)
abbrev zkX:Fun:=⟨278,(ch [(.sl zA),zA]),(ch [tI]),0,zgi⟩
theorem ztS:Sq zkX:=ml0 (d:=false) (S:=fun K=>zgh (zjj K)) Tryz.func278 (by kernel_rfl) (fun K=>tr1 (T:=zgh) (zqY K K) fun (x0,x1,())=>by kernel_rfl) rfl
def zgj:(zr × ((Option Int) × Unit))→Option (Bool × Unit):=fun (x0,x1,()) =>
  Option.bind x1 fun q0=>bif wU (↑(BitVec.toNat (BitVec.ofInt (IntKind.bits IntKind.u64) x0.2.1 &&& ~~~BitVec.ofInt (IntKind.bits IntKind.u64) q0)):Int) != 0 then some (true,()) else some (false,())
abbrev zkY:Fun:=⟨233,(ch [zA,(.ptr tU)]),(ch [.bool]),0,zgj⟩
theorem ztT:Sq zkY:=ms0 (d:=false) (K:=0) Tryz.func233 (by kernel_rfl) (funext fun (x0,x1,())=>by kernel_rfl)
def zhb:(zah × Unit)→Option ((List Int) × Unit):=fun (x0,()) =>
  some ([x0.1,x0.2.1,x0.2.2.1,x0.2.2.2.1,x0.2.2.2.2.1],())
abbrev zmf:Fun:=⟨235,(ch [zcJ]),(ch [(.sl tI)]),0,zhb⟩
theorem zvz:Sq zmf:=ms0 (d:=false) (K:=0) Tryz.func235 (by kernel_rfl) (funext fun (x0,())=>by kernel_rfl)
def zba:(zg × ((Option (Option ((zg × Unit)→Option (Bool × Unit)))) × Unit))→Option (Bool × Unit):=fun (x0,x1,()) =>
  Option.bind x1 fun q0=>Option.bind q0 fun q1=>Option.bind (q1 (x0,())) fun q2=>bif q2.1 then some (false,()) else some (true,())
abbrev zh7:Fun:=⟨177,(ch [zj,(.ptr (.fn (ch [zj]) (ch [.bool])))]),(ch [.bool]),0,zba⟩
theorem zp8:Sq zh7:=ms0 (d:=false) (K:=0) Tryz.func177 (by kernel_rfl) (funext fun (x0,x1,())=>by kernel_rfl)
abbrev jY:Type:=(List zg) × (Option ((zg × Unit)→Option (Bool × Unit))) × Int × Int
abbrev zm4:jY→St:=fun (v0,v1,v7,v8)=>St.mk [(0,.dat (.sl zj) v0),(1,.dat (.fn (.pair zj .unit) (.pair .bool .unit)) v1),(7,.dat tI v7),(8,.dat tI v8)] []
def zci (k0:jY→Option (Int × Unit)):jY→Option (Int × Unit):=fun (v0,v1,v7,v8) =>
  bif decide (v8 < v7) then inR v8 ((List.length v0):Int) (Option.bind v1 fun q0=>Option.bind (q0 (ix za v0 v8,())) fun q1=>bif q1.1 then some (v8,()) else k0 (v0,v1,v7,wI (v8 + 1))) else some ((-1),())
abbrev zfC (K:Nat):jY→Option (Int × Unit):=zl zci K
theorem zm5 (K:Nat):∀ n,evV Es0 K Tryz.f242 0 (ch [tI]) [1,0,1,0] [] zm4 n = zl zci n:=zv fun n0 (v0,v1,v7,v8)=>by kernel_rfl
def zdi (L0:jY→Option (Int × Unit)):((List zg) × ((Option ((zg × Unit)→Option (Bool × Unit))) × Unit))→Option (Int × Unit):=fun (x0,x1,()) =>
  L0 (x0,x1,((List.length x0):Int),0)
def zat:((List zg) × ((Option ((zg × Unit)→Option (Bool × Unit))) × Unit))→Option (Int × Unit):=zdi (zfC K0)
abbrev zhc:Fun:=⟨242,(ch [(.sl zj),(.fn (ch [zj]) (ch [.bool]))]),(ch [tI]),0,zat⟩
theorem zoQ:Sq zhc:=ml0 (d:=false) (S:=fun K=>zdi (zfC K)) Tryz.func242 (by kernel_rfl) (fun K=>tr1 (T:=zdi) (zm5 K K) fun (x0,x1,())=>by kernel_rfl) rfl
abbrev vk:Type:=(List jc) × (Option ((jc × Unit)→Option (Bool × Unit))) × Int × Int
abbrev znC:vk→St:=fun (v0,v1,v7,v8)=>St.mk [(0,.dat (.sl qj) v0),(1,.dat (.fn (.pair qj .unit) (.pair .bool .unit)) v1),(7,.dat tI v7),(8,.dat tI v8)] []
def zcP (k0:vk→Option (Int × Unit)):vk→Option (Int × Unit):=fun (v0,v1,v7,v8) =>
  bif decide (v8 < v7) then inR v8 ((List.length v0):Int) (Option.bind v1 fun q0=>Option.bind (q0 (ix zsb v0 v8,())) fun q1=>bif q1.1 then some (v8,()) else k0 (v0,v1,v7,wI (v8 + 1))) else some ((-1),())
abbrev zgH (K:Nat):vk→Option (Int × Unit):=zl zcP K
theorem znD (K:Nat):∀ n,evV Es0 K Tryz.f243 0 (ch [tI]) [1,0,1,0] [] znC n = zl zcP n:=zv fun n0 (v0,v1,v7,v8)=>by kernel_rfl
def zd1 (L0:vk→Option (Int × Unit)):((List jc) × ((Option ((jc × Unit)→Option (Bool × Unit))) × Unit))→Option (Int × Unit):=fun (x0,x1,()) =>
  L0 (x0,x1,((List.length x0):Int),0)
def zbb:((List jc) × ((Option ((jc × Unit)→Option (Bool × Unit))) × Unit))→Option (Int × Unit):=zd1 (zgH K0)
abbrev zh8:Fun:=⟨243,(ch [(.sl qj),(.fn (ch [qj]) (ch [.bool]))]),(ch [tI]),0,zbb⟩
theorem zp9:Sq zh8:=ml0 (d:=false) (S:=fun K=>zd1 (zgH K)) Tryz.func243 (by kernel_rfl) (fun K=>tr1 (T:=zd1) (znD K K) fun (x0,x1,())=>by kernel_rfl) rfl
def zes:(qb × Unit)→Option (Bool × Unit):=fun (x0,()) =>
  bif decide (x0.1 ≥ 0) then bif decide (x0.1 ≤ 127) then bif decide (x0.2.1 ≥ 0) then bif decide (x0.2.1 ≤ 127) then some (true,()) else some (false,()) else some (false,()) else some (false,()) else some (false,())
abbrev zqZ:Fun:=⟨248,(ch [zW]),(ch [.bool]),0,zes⟩
theorem zAr:Sq zqZ:=ms0 (d:=false) (K:=0) Tryz.func248 (by kernel_rfl) (funext fun (x0,())=>by kernel_rfl)
def zhd:(Int × Unit)→Option (Bool × Unit):=fun (x0,()) =>
  bif decide (x0 ≥ 0) then bif decide (x0 < 6) then some (true,()) else some (false,()) else some (false,())
abbrev zq0:Fun:=⟨249,(ch [tI]),(ch [.bool]),0,zhd⟩
theorem zAs:Sq zq0:=ms0 (d:=false) (K:=0) Tryz.func249 (by kernel_rfl) (funext fun (x0,())=>by kernel_rfl)
def zeX:(z9 × ((Option qb) × ((Option Int) × Unit)))→Option (Bool × Unit):=fun (x0,x1,x2,()) =>
  bif x0.1 then Option.bind x1 fun q0=>bif eqI zW x0.2.1 q0 then Option.bind x2 fun q1=>bif x0.2.2.2.1 == q1 then some (true,()) else some (false,()) else some (false,()) else some (false,())
abbrev znE:Fun:=⟨251,(ch [zV,(.ptr zW),(.ptr tI)]),(ch [.bool]),0,zeX⟩
theorem zw7:Sq znE:=ms0 (d:=false) (K:=0) Tryz.func251 (by kernel_rfl) (funext fun (x0,x1,x2,())=>by kernel_rfl)
abbrev vl:Type:=(List z9) × (Option ((z9 × Unit)→Option (Bool × Unit))) × Int × Int
abbrev znF:vl→St:=fun (v0,v1,v7,v8)=>St.mk [(0,.dat (.sl zV) v0),(1,.dat (.fn (.pair zV .unit) (.pair .bool .unit)) v1),(7,.dat tI v7),(8,.dat tI v8)] []
def zcQ (k0:vl→Option (Int × Unit)):vl→Option (Int × Unit):=fun (v0,v1,v7,v8) =>
  bif decide (v8 < v7) then inR v8 ((List.length v0):Int) (Option.bind v1 fun q0=>Option.bind (q0 (ix vH v0 v8,())) fun q1=>bif q1.1 then some (v8,()) else k0 (v0,v1,v7,wI (v8 + 1))) else some ((-1),())
abbrev zgI (K:Nat):vl→Option (Int × Unit):=zl zcQ K
theorem znG (K:Nat):∀ n,evV Es0 K Tryz.f250 0 (ch [tI]) [1,0,1,0] [] znF n = zl zcQ n:=zv fun n0 (v0,v1,v7,v8)=>by kernel_rfl
def zd2 (L0:vl→Option (Int × Unit)):((List z9) × ((Option ((z9 × Unit)→Option (Bool × Unit))) × Unit))→Option (Int × Unit):=fun (x0,x1,()) =>
  L0 (x0,x1,((List.length x0):Int),0)
def yk:((List z9) × ((Option ((z9 × Unit)→Option (Bool × Unit))) × Unit))→Option (Int × Unit):=zd2 (zgI K0)
abbrev zh9:Fun:=⟨250,(ch [(.sl zV),(.fn (ch [zV]) (ch [.bool]))]),(ch [tI]),0,yk⟩
theorem zqa:Sq zh9:=ml0 (d:=false) (S:=fun K=>zd2 (zgI K)) Tryz.func250 (by kernel_rfl) (fun K=>tr1 (T:=zd2) (znG K K) fun (x0,x1,())=>by kernel_rfl) rfl
abbrev vm:Type:=(List qc) × (Option ((qc × Unit)→Option (Bool × Unit))) × Int × Int
abbrev znH:vm→St:=fun (v0,v1,v7,v8)=>St.mk [(0,.dat (.sl zU) v0),(1,.dat (.fn (.pair zU .unit) (.pair .bool .unit)) v1),(7,.dat tI v7),(8,.dat tI v8)] []
def zcR (k0:vm→Option (Int × Unit)):vm→Option (Int × Unit):=fun (v0,v1,v7,v8) =>
  bif decide (v8 < v7) then inR v8 ((List.length v0):Int) (Option.bind v1 fun q0=>Option.bind (q0 (ix zdd v0 v8,())) fun q1=>bif q1.1 then some (v8,()) else k0 (v0,v1,v7,wI (v8 + 1))) else some ((-1),())
abbrev zgJ (K:Nat):vm→Option (Int × Unit):=zl zcR K
theorem znI (K:Nat):∀ n,evV Es0 K Tryz.f252 0 (ch [tI]) [1,0,1,0] [] znH n = zl zcR n:=zv fun n0 (v0,v1,v7,v8)=>by kernel_rfl
def zd3 (L0:vm→Option (Int × Unit)):((List qc) × ((Option ((qc × Unit)→Option (Bool × Unit))) × Unit))→Option (Int × Unit):=fun (x0,x1,()) =>
  L0 (x0,x1,((List.length x0):Int),0)
def zbc:((List qc) × ((Option ((qc × Unit)→Option (Bool × Unit))) × Unit))→Option (Int × Unit):=zd3 (zgJ K0)
abbrev zia:Fun:=⟨252,(ch [(.sl zU),(.fn (ch [zU]) (ch [.bool]))]),(ch [tI]),0,zbc⟩
theorem zqb:Sq zia:=ml0 (d:=false) (S:=fun K=>zd3 (zgJ K)) Tryz.func252 (by kernel_rfl) (fun K=>tr1 (T:=zd3) (znI K K) fun (x0,x1,())=>by kernel_rfl) rfl
def zoR:(qc × Unit)→Option (zw1 × Unit):=fun (x0,()) =>
  some (x0.2.2,())
abbrev zvA:Fun:=⟨253,(ch [zU]),(ch [zsc]),0,zoR⟩
theorem zDS:Sq zvA:=ms0 (d:=false) (K:=0) Tryz.func253 (by kernel_rfl) (funext fun (x0,())=>by kernel_rfl)
def zdj:(Int × Unit)→Option (Bool × Unit):=fun (x0,()) =>
  bif decide (x0 ≥ 0) then bif decide (x0 ≤ 127) then some (true,()) else some (false,()) else some (false,())
abbrev zvB:Fun:=⟨282,(ch [tI]),(ch [.bool]),0,zdj⟩
theorem zDT:Sq zvB:=ms0 (d:=false) (K:=0) Tryz.func282 (by kernel_rfl) (funext fun (x0,())=>by kernel_rfl)
abbrev vn:Type:=(List qs) × (Option ((qs × Unit)→Option (Bool × Unit))) × Int × Int
abbrev znJ:vn→St:=fun (v0,v1,v7,v8)=>St.mk [(0,.dat (.sl z4) v0),(1,.dat (.fn (.pair z4 .unit) (.pair .bool .unit)) v1),(7,.dat tI v7),(8,.dat tI v8)] []
def zcS (k0:vn→Option (Int × Unit)):vn→Option (Int × Unit):=fun (v0,v1,v7,v8) =>
  bif decide (v8 < v7) then inR v8 ((List.length v0):Int) (Option.bind v1 fun q0=>Option.bind (q0 (ix zzu v0 v8,())) fun q1=>bif q1.1 then some (v8,()) else k0 (v0,v1,v7,wI (v8 + 1))) else some ((-1),())
abbrev zgK (K:Nat):vn→Option (Int × Unit):=zl zcS K
theorem znK (K:Nat):∀ n,evV Es0 K Tryz.f255 0 (ch [tI]) [1,0,1,0] [] znJ n = zl zcS n:=zv fun n0 (v0,v1,v7,v8)=>by kernel_rfl
def zd4 (L0:vn→Option (Int × Unit)):((List qs) × ((Option ((qs × Unit)→Option (Bool × Unit))) × Unit))→Option (Int × Unit):=fun (x0,x1,()) =>
  L0 (x0,x1,((List.length x0):Int),0)
def zbd:((List qs) × ((Option ((qs × Unit)→Option (Bool × Unit))) × Unit))→Option (Int × Unit):=zd4 (zgK K0)
abbrev zib:Fun:=⟨255,(ch [(.sl z4),(.fn (ch [z4]) (ch [.bool]))]),(ch [tI]),0,zbd⟩
theorem zqc:Sq zib:=ml0 (d:=false) (S:=fun K=>zd4 (zgK K)) Tryz.func255 (by kernel_rfl) (fun K=>tr1 (T:=zd4) (znK K K) fun (x0,x1,())=>by kernel_rfl) rfl
def zgL:(Int × Unit)→Option (Bool × Unit):=fun (x0,()) =>
  bif decide (x0 ≥ 0) then bif decide (x0 ≤ 127) then some (true,()) else some (false,()) else some (false,())
abbrev zx9:Fun:=⟨283,(ch [tI]),(ch [.bool]),0,zgL⟩
theorem zFr:Sq zx9:=ms0 (d:=false) (K:=0) Tryz.func283 (by kernel_rfl) (funext fun (x0,())=>by kernel_rfl)
def zhe:(Int × Unit)→Option (Bool × Unit):=fun (x0,()) =>
  bif decide (x0 ≥ 32) then bif decide (x0 ≤ 126) then some (true,()) else some (false,()) else some (false,())
abbrev zq1:Fun:=⟨284,(ch [(.int .u8)]),(ch [.bool]),0,zhe⟩
theorem zAt:Sq zq1:=ms0 (d:=false) (K:=0) Tryz.func284 (by kernel_rfl) (funext fun (x0,())=>by kernel_rfl)
abbrev jw:Type:=ByteArray × Int
abbrev zki:jw→St:=fun (v0,v1)=>St.mk [(0,.dat .str v0),(1,.dat (.int IntKind.u8) v1)] []
def zI (k0:jw→Option (ByteArray × Unit)):jw→Option (ByteArray × Unit):=fun (v0,v1) =>
  bif decide ((↑(ByteArray.size v0):Int) > 0) then inR (wI ((↑(ByteArray.size v0):Int) - 1)) (↑(ByteArray.size v0):Int) (bif (↑(UInt8.toNat (List.getD (Array.toList (ByteArray.data v0)) (Int.toNat (wI ((↑(ByteArray.size v0):Int) - 1))) 0)):Int) == v1 then bif decide (0 ≤ wI ((↑(ByteArray.size v0):Int) - 1)) then bif decide (wI ((↑(ByteArray.size v0):Int) - 1) ≤ (↑(ByteArray.size v0):Int)) then k0 (ByteArray.extract v0 0 (Int.toNat (wI ((↑(ByteArray.size v0):Int) - 1))),v1) else none else none else some (v0,())) else some (v0,())
abbrev zea (K:Nat):jw→Option (ByteArray × Unit):=zl zI K
theorem zkj (K:Nat):∀ n,evV Es0 K Tryz.f291 0 (ch [.str]) [1,0,0] [] zki n = zl zI n:=zv fun n0 (v0,v1)=>by kernel_rfl
def zbk (L0:jw→Option (ByteArray × Unit)):(ByteArray × (Int × Unit))→Option (ByteArray × Unit):=fun (x0,x1,()) =>
  L0 (x0,x1)
def zbl:(ByteArray × Int × Unit)→Option (ByteArray × Unit):=zbk (zea K0)
abbrev zfd:Fun:=⟨291,(ch [.str,(.int .u8)]),(ch [.str]),0,zbl⟩
theorem zlP:Sq zfd:=ml0 (d:=false) (S:=fun K=>zbk (zea K)) Tryz.func291 (by kernel_rfl) (fun K=>tr1 (T:=zbk) (zkj K K) fun (x0,x1,())=>by kernel_rfl) rfl
abbrev jE:Type:=ByteArray × Int
abbrev zkZ:jE→St:=fun (v0,v1)=>St.mk [(0,.dat .str v0),(1,.dat (.int IntKind.u8) v1)] []
def zL (k0:jE→Option (ByteArray × Unit)):jE→Option (ByteArray × Unit):=fun (v0,v1) =>
  bif decide ((↑(ByteArray.size v0):Int) > 0) then bif decide (0 < (↑(ByteArray.size v0):Int)) then bif (↑(UInt8.toNat (List.getD (Array.toList (ByteArray.data v0)) (Int.toNat 0) 0)):Int) == v1 then bif decide (1 ≤ (↑(ByteArray.size v0):Int)) then k0 (ByteArray.extract v0 (Int.toNat 1) (ByteArray.size v0),v1) else none else some (v0,()) else none else some (v0,())
abbrev zet (K:Nat):jE→Option (ByteArray × Unit):=zl zL K
theorem zk0 (K:Nat):∀ n,evV Es0 K Tryz.f290 0 (ch [.str]) [1,0,0] [] zkZ n = zl zL n:=zv fun n0 (v0,v1)=>by kernel_rfl
def zcj (L0:jE→Option (ByteArray × Unit)):(ByteArray × (Int × Unit))→Option (ByteArray × Unit):=fun (x0,x1,()) =>
  L0 (x0,x1)
def zck:(ByteArray × Int × Unit)→Option (ByteArray × Unit):=zcj (zet K0)
abbrev zfD:Fun:=⟨290,(ch [.str,(.int .u8)]),(ch [.str]),0,zck⟩
theorem zm6:Sq zfD:=ml0 (d:=false) (S:=fun K=>zcj (zet K)) Tryz.func290 (by kernel_rfl) (fun K=>tr1 (T:=zcj) (zk0 K K) fun (x0,x1,())=>by kernel_rfl) rfl
abbrev jZ:Type:=(List zp) × (Option ((zp × Unit)→Option (Bool × Unit))) × Int × Int
abbrev zm7:jZ→St:=fun (v0,v1,v7,v8)=>St.mk [(0,.dat (.sl zw) v0),(1,.dat (.fn (.pair zw .unit) (.pair .bool .unit)) v1),(7,.dat tI v7),(8,.dat tI v8)] []
def zcl (k0:jZ→Option (Int × Unit)):jZ→Option (Int × Unit):=fun (v0,v1,v7,v8) =>
  bif decide (v8 < v7) then inR v8 ((List.length v0):Int) (Option.bind v1 fun q0=>Option.bind (q0 (ix qY v0 v8,())) fun q1=>bif q1.1 then some (v8,()) else k0 (v0,v1,v7,wI (v8 + 1))) else some ((-1),())
abbrev zfE (K:Nat):jZ→Option (Int × Unit):=zl zcl K
theorem zm8 (K:Nat):∀ n,evV Es0 K Tryz.f258 0 (ch [tI]) [1,0,1,0] [] zm7 n = zl zcl n:=zv fun n0 (v0,v1,v7,v8)=>by kernel_rfl
def zdk (L0:jZ→Option (Int × Unit)):((List zp) × ((Option ((zp × Unit)→Option (Bool × Unit))) × Unit))→Option (Int × Unit):=fun (x0,x1,()) =>
  L0 (x0,x1,((List.length x0):Int),0)
def zau:((List zp) × ((Option ((zp × Unit)→Option (Bool × Unit))) × Unit))→Option (Int × Unit):=zdk (zfE K0)
abbrev zhf:Fun:=⟨258,(ch [(.sl zw),(.fn (ch [zw]) (ch [.bool]))]),(ch [tI]),0,zau⟩
theorem zoS:Sq zhf:=ml0 (d:=false) (S:=fun K=>zdk (zfE K)) Tryz.func258 (by kernel_rfl) (fun K=>tr1 (T:=zdk) (zm8 K K) fun (x0,x1,())=>by kernel_rfl) rfl
def zeY:(Int × Unit)→Option (Bool × Unit):=fun (x0,()) =>
  bif decide (x0 ≥ 0) then bif decide (x0 ≤ 127) then some (true,()) else some (false,()) else some (false,())
abbrev zvC:Fun:=⟨259,(ch [tI]),(ch [.bool]),0,zeY⟩
theorem zDU:Sq zvC:=ms0 (d:=false) (K:=0) Tryz.func259 (by kernel_rfl) (funext fun (x0,())=>by kernel_rfl)
def qO:(Int × Unit)→Option (Bool × Unit):=fun (x0,()) =>
  bif decide (x0 ≥ 0) then bif decide (x0 < 4) then some (true,()) else some (false,()) else some (false,())
abbrev zq2:Fun:=⟨41,(ch [tI]),(ch [.bool]),0,qO⟩
theorem zAu:Sq zq2:=ms0 (d:=false) (K:=0) Tryz.func41 (by kernel_rfl) (funext fun (x0,())=>by kernel_rfl)
def zeu:(zkh × Unit)→Option (Bool × Unit):=fun (x0,()) =>
  bif eqI zde x0 (x0.1,(zf zde).2.1,-1,(zf zde).2.2.2) then some (true,()) else some (false,())
abbrev zq3:Fun:=⟨261,(ch [zde]),(ch [.bool]),0,zeu⟩
theorem zAv:Sq zq3:=ms0 (d:=false) (K:=0) Tryz.func261 (by kernel_rfl) (funext fun (x0,())=>by kernel_rfl)
def zaI:(Int × Unit)→Option (Bool × Unit):=fun (x0,()) =>
  bif decide (x0 < 0) then some (true,()) else bif decide (x0 > 2) then some (true,()) else some (false,())
abbrev znL:Fun:=⟨190,(ch [tI]),(ch [.bool]),0,zaI⟩
theorem zw8:Sq znL:=ms0 (d:=false) (K:=0) Tryz.func190 (by kernel_rfl) (funext fun (x0,())=>by kernel_rfl)
def zcy:(Int × (Int × Unit))→Option (Int × (Int × Unit)):=fun (x0,x1,()) =>
  some (wU (wU (wU (Int.fdiv x0 (2 ^ min (Int.toNat 32) (IntKind.bits IntKind.u64)) * Int.fdiv x1 (2 ^ min (Int.toNat 32) (IntKind.bits IntKind.u64))) + Int.fdiv (wU (wU (Int.fdiv x0 (2 ^ min (Int.toNat 32) (IntKind.bits IntKind.u64)) * wU (↑(BitVec.toNat (BitVec.ofInt (IntKind.bits IntKind.u64) x1 &&& BitVec.ofInt (IntKind.bits IntKind.u64) 4294967295)):Int)) + Int.fdiv (wU (wU (↑(BitVec.toNat (BitVec.ofInt (IntKind.bits IntKind.u64) x0 &&& BitVec.ofInt (IntKind.bits IntKind.u64) 4294967295)):Int) * wU (↑(BitVec.toNat (BitVec.ofInt (IntKind.bits IntKind.u64) x1 &&& BitVec.ofInt (IntKind.bits IntKind.u64) 4294967295)):Int))) (2 ^ min (Int.toNat 32) (IntKind.bits IntKind.u64)))) (2 ^ min (Int.toNat 32) (IntKind.bits IntKind.u64))) + Int.fdiv (wU (wU (↑(BitVec.toNat (BitVec.ofInt (IntKind.bits IntKind.u64) (wU (wU (Int.fdiv x0 (2 ^ min (Int.toNat 32) (IntKind.bits IntKind.u64)) * wU (↑(BitVec.toNat (BitVec.ofInt (IntKind.bits IntKind.u64) x1 &&& BitVec.ofInt (IntKind.bits IntKind.u64) 4294967295)):Int)) + Int.fdiv (wU (wU (↑(BitVec.toNat (BitVec.ofInt (IntKind.bits IntKind.u64) x0 &&& BitVec.ofInt (IntKind.bits IntKind.u64) 4294967295)):Int) * wU (↑(BitVec.toNat (BitVec.ofInt (IntKind.bits IntKind.u64) x1 &&& BitVec.ofInt (IntKind.bits IntKind.u64) 4294967295)):Int))) (2 ^ min (Int.toNat 32) (IntKind.bits IntKind.u64)))) &&& BitVec.ofInt (IntKind.bits IntKind.u64) 4294967295)):Int) + wU (wU (↑(BitVec.toNat (BitVec.ofInt (IntKind.bits IntKind.u64) x0 &&& BitVec.ofInt (IntKind.bits IntKind.u64) 4294967295)):Int) * Int.fdiv x1 (2 ^ min (Int.toNat 32) (IntKind.bits IntKind.u64))))) (2 ^ min (Int.toNat 32) (IntKind.bits IntKind.u64))),wU (x0 * x1),())
abbrev zjX:Fun:=⟨297,(ch [tU,tU]),(ch [tU,tU]),0,zcy⟩
theorem zsv:Sq zjX:=ms0 (d:=false) (K:=0) Tryz.func297 (by kernel_rfl) (funext fun (x0,x1,())=>by kernel_rfl)
def zjk:(Int × Unit)→Option (Bool × Unit):=fun (x0,()) =>
  bif decide (x0 ≥ 0) then bif decide (x0 ≤ 127) then some (true,()) else some (false,()) else some (false,())
abbrev zya:Fun:=⟨264,(ch [tI]),(ch [.bool]),0,zjk⟩
theorem zFs:Sq zya:=ms0 (d:=false) (K:=0) Tryz.func264 (by kernel_rfl) (funext fun (x0,())=>by kernel_rfl)
def zdl:(Int × Unit)→Option (Bool × Unit):=fun (x0,()) =>
  bif decide (x0 ≥ 0) then bif decide (x0 ≤ 127) then some (true,()) else some (false,()) else some (false,())
abbrev zvD:Fun:=⟨265,(ch [tI]),(ch [.bool]),0,zdl⟩
theorem zDV:Sq zvD:=ms0 (d:=false) (K:=0) Tryz.func265 (by kernel_rfl) (funext fun (x0,())=>by kernel_rfl)
def zdE:(zb × (qb × Unit))→Option (Bool × Unit):=fun (x0,x1,()) =>
  bif decide (x1.1 ≥ 0) then bif decide (x1.1 < ((List.length x0.2.1):Int)) then bif decide (x1.2.1 ≥ 0) then inR x1.1 ((List.length x0.2.1):Int) (bif decide (x1.2.1 < ((List.length (ix za x0.2.1 x1.1).1):Int)) then inR x1.1 ((List.length x0.2.1):Int) (inR x1.2.1 ((List.length (ix za x0.2.1 x1.1).1):Int) (bif (List.getD (ix za x0.2.1 x1.1).1 (Int.toNat x1.2.1) (zf qj)).1 then some (true,()) else some (false,()))) else some (false,())) else some (false,()) else some (false,()) else some (false,())
abbrev zpr:Fun:=⟨92,(ch [zu,zW]),(ch [.bool]),0,zdE⟩
theorem zyv:Sq zpr:=ms0 (d:=false) (K:=0) Tryz.func92 (by kernel_rfl) (funext fun (x0,x1,())=>by kernel_rfl)
def zbo:(qN × (Int × Unit))→Option (Bool × Unit):=fun (x0,x1,()) =>
  bif decide (x1 ≥ 0) then bif decide (x1 < ((List.length x0.1.1):Int)) then some (true,()) else some (false,()) else some (false,())
abbrev zps:Fun:=⟨95,(ch [qe,tI]),(ch [.bool]),0,zbo⟩
theorem zyw:Sq zps:=ms0 (d:=false) (K:=0) Tryz.func95 (by kernel_rfl) (funext fun (x0,x1,())=>by kernel_rfl)
def qP:(qN × (Int × Unit))→Option (Bool × Unit):=fun (x0,x1,()) =>
  bif decide (x1 ≥ 0) then bif decide (x1 < ((List.length x0.1.2.2.1):Int)) then some (true,()) else some (false,()) else some (false,())
abbrev zmg:Fun:=⟨96,(ch [qe,tI]),(ch [.bool]),0,qP⟩
theorem zvE:Sq zmg:=ms0 (d:=false) (K:=0) Tryz.func96 (by kernel_rfl) (funext fun (x0,x1,())=>by kernel_rfl)
def zbe:(zn × ((Option (Option ((zn × Unit)→Option (Bool × Unit)))) × Unit))→Option (Bool × Unit):=fun (x0,x1,()) =>
  Option.bind x1 fun q0=>Option.bind q0 fun q1=>Option.bind (q1 (x0,())) fun q2=>bif q2.1 then some (false,()) else some (true,())
abbrev zic:Fun:=⟨196,(ch [zm,(.ptr (.fn (ch [zm]) (ch [.bool])))]),(ch [.bool]),0,zbe⟩
theorem zqd:Sq zic:=ms0 (d:=false) (K:=0) Tryz.func196 (by kernel_rfl) (funext fun (x0,x1,())=>by kernel_rfl)
abbrev j3:Type:=(List zn) × (Option ((zn × Unit)→Option (Bool × Unit))) × Int × Int
abbrev zm9:j3→St:=fun (v0,v1,v7,v8)=>St.mk [(0,.dat (.sl zm) v0),(1,.dat (.fn (.pair zm .unit) (.pair .bool .unit)) v1),(7,.dat tI v7),(8,.dat tI v8)] []
def zcm (k0:j3→Option (Int × Unit)):j3→Option (Int × Unit):=fun (v0,v1,v7,v8) =>
  bif decide (v8 < v7) then inR v8 ((List.length v0):Int) (Option.bind v1 fun q0=>Option.bind (q0 (ix qr v0 v8,())) fun q1=>bif q1.1 then some (v8,()) else k0 (v0,v1,v7,wI (v8 + 1))) else some ((-1),())
abbrev zfF (K:Nat):j3→Option (Int × Unit):=zl zcm K
theorem zna (K:Nat):∀ n,evV Es0 K Tryz.f269 0 (ch [tI]) [1,0,1,0] [] zm9 n = zl zcm n:=zv fun n0 (v0,v1,v7,v8)=>by kernel_rfl
def zdm (L0:j3→Option (Int × Unit)):((List zn) × ((Option ((zn × Unit)→Option (Bool × Unit))) × Unit))→Option (Int × Unit):=fun (x0,x1,()) =>
  L0 (x0,x1,((List.length x0):Int),0)
def zav:((List zn) × ((Option ((zn × Unit)→Option (Bool × Unit))) × Unit))→Option (Int × Unit):=zdm (zfF K0)
abbrev zhg:Fun:=⟨269,(ch [(.sl zm),(.fn (ch [zm]) (ch [.bool]))]),(ch [tI]),0,zav⟩
theorem zoT:Sq zhg:=ml0 (d:=false) (S:=fun K=>zdm (zfF K)) Tryz.func269 (by kernel_rfl) (fun K=>tr1 (T:=zdm) (zna K K) fun (x0,x1,())=>by kernel_rfl) rfl
def zbf:(zF × ((Option (Option ((zF × Unit)→Option (Bool × Unit)))) × Unit))→Option (Bool × Unit):=fun (x0,x1,()) =>
  Option.bind x1 fun q0=>Option.bind q0 fun q1=>Option.bind (q1 (x0,())) fun q2=>bif q2.1 then some (false,()) else some (true,())
abbrev zid:Fun:=⟨198,(ch [zt,(.ptr (.fn (ch [zt]) (ch [.bool])))]),(ch [.bool]),0,zbf⟩
theorem zqe:Sq zid:=ms0 (d:=false) (K:=0) Tryz.func198 (by kernel_rfl) (funext fun (x0,x1,())=>by kernel_rfl)
abbrev j4:Type:=(List zF) × (Option ((zF × Unit)→Option (Bool × Unit))) × Int × Int
abbrev znb:j4→St:=fun (v0,v1,v7,v8)=>St.mk [(0,.dat (.sl zt) v0),(1,.dat (.fn (.pair zt .unit) (.pair .bool .unit)) v1),(7,.dat tI v7),(8,.dat tI v8)] []
def zcn (k0:j4→Option (Int × Unit)):j4→Option (Int × Unit):=fun (v0,v1,v7,v8) =>
  bif decide (v8 < v7) then inR v8 ((List.length v0):Int) (Option.bind v1 fun q0=>Option.bind (q0 (ix zg6 v0 v8,())) fun q1=>bif q1.1 then some (v8,()) else k0 (v0,v1,v7,wI (v8 + 1))) else some ((-1),())
abbrev zfG (K:Nat):j4→Option (Int × Unit):=zl zcn K
theorem znc (K:Nat):∀ n,evV Es0 K Tryz.f270 0 (ch [tI]) [1,0,1,0] [] znb n = zl zcn n:=zv fun n0 (v0,v1,v7,v8)=>by kernel_rfl
def zdn (L0:j4→Option (Int × Unit)):((List zF) × ((Option ((zF × Unit)→Option (Bool × Unit))) × Unit))→Option (Int × Unit):=fun (x0,x1,()) =>
  L0 (x0,x1,((List.length x0):Int),0)
def zaw:((List zF) × ((Option ((zF × Unit)→Option (Bool × Unit))) × Unit))→Option (Int × Unit):=zdn (zfG K0)
abbrev zhh:Fun:=⟨270,(ch [(.sl zt),(.fn (ch [zt]) (ch [.bool]))]),(ch [tI]),0,zaw⟩
theorem zoU:Sq zhh:=ml0 (d:=false) (S:=fun K=>zdn (zfG K)) Tryz.func270 (by kernel_rfl) (fun K=>tr1 (T:=zdn) (znc K K) fun (x0,x1,())=>by kernel_rfl) rfl
def zcz:(Int × ((Option (Option ((Int × Unit)→Option (Bool × Unit)))) × Unit))→Option (Bool × Unit):=fun (x0,x1,()) =>
  Option.bind x1 fun q0=>Option.bind q0 fun q1=>Option.bind (q1 (x0,())) fun q2=>bif q2.1 then some (false,()) else some (true,())
abbrev zjY:Fun:=⟨199,(ch [tI,(.ptr (.fn (ch [tI]) (ch [.bool])))]),(ch [.bool]),0,zcz⟩
theorem zsw:Sq zjY:=ms0 (d:=false) (K:=0) Tryz.func199 (by kernel_rfl) (funext fun (x0,x1,())=>by kernel_rfl)
def zaF:(zr × (zr × Unit))→Option (Bool × Unit):=fun (x0,x1,()) =>
  bif decide (x0.1 ≤ x1.1) then bif wU (↑(BitVec.toNat (BitVec.ofInt (IntKind.bits IntKind.u64) x0.2.1 &&& ~~~BitVec.ofInt (IntKind.bits IntKind.u64) x1.2.1)):Int) == 0 then some (true,()) else some (false,()) else some (false,())
abbrev zs5:Fun:=⟨9,(ch [zA,zA]),(ch [.bool]),0,zaF⟩
theorem zCc:Sq zs5:=ms0 (d:=false) (K:=0) Tryz.func9 (by kernel_rfl) (funext fun (x0,x1,())=>by kernel_rfl)
def zeb:(z9 × ((Option (Option ((qb × Unit)→Option (Bool × Unit)))) × Unit))→Option (Bool × Unit):=fun (x0,x1,()) =>
  bif x0.1 then Option.bind x1 fun q0=>Option.bind q0 fun q1=>Option.bind (q1 (x0.2.1,())) fun q2=>bif q2.1 then Option.bind x1 fun q3=>Option.bind q3 fun q4=>Option.bind (q4 (x0.2.2.1,())) fun q5=>bif q5.1 then some (true,()) else some (false,()) else some (false,()) else some (true,())
abbrev zmh:Fun:=⟨103,(ch [zV,(.ptr (.fn (ch [zW]) (ch [.bool])))]),(ch [.bool]),0,zeb⟩
theorem zvF:Sq zmh:=ms0 (d:=false) (K:=0) Tryz.func103 (by kernel_rfl) (funext fun (x0,x1,())=>by kernel_rfl)
def zbE:(z9 × ((Option (Option ((z9 × Unit)→Option (Bool × Unit)))) × Unit))→Option (Bool × Unit):=fun (x0,x1,()) =>
  Option.bind x1 fun q0=>Option.bind q0 fun q1=>Option.bind (q1 (x0,())) fun q2=>bif q2.1 then some (false,()) else some (true,())
abbrev zjl:Fun:=⟨202,(ch [zV,(.ptr (.fn (ch [zV]) (ch [.bool])))]),(ch [.bool]),0,zbE⟩
theorem zq4:Sq zjl:=ms0 (d:=false) (K:=0) Tryz.func202 (by kernel_rfl) (funext fun (x0,x1,())=>by kernel_rfl)
def zbF:(qc × ((Option (Option ((qb × Unit)→Option (Bool × Unit)))) × Unit))→Option (Bool × Unit):=fun (x0,x1,()) =>
  bif x0.2.2.1 != 2 then some (true,()) else Option.bind x1 fun q0=>Option.bind q0 fun q1=>Option.bind (q1 (x0.2.2.2.2.1,())) fun q2=>bif q2.1 then some (true,()) else some (false,())
abbrev zmi:Fun:=⟨105,(ch [zU,(.ptr (.fn (ch [zW]) (ch [.bool])))]),(ch [.bool]),0,zbF⟩
theorem zvG:Sq zmi:=ms0 (d:=false) (K:=0) Tryz.func105 (by kernel_rfl) (funext fun (x0,x1,())=>by kernel_rfl)
def zbG:(qc × ((Option (Option ((qc × Unit)→Option (Bool × Unit)))) × Unit))→Option (Bool × Unit):=fun (x0,x1,()) =>
  Option.bind x1 fun q0=>Option.bind q0 fun q1=>Option.bind (q1 (x0,())) fun q2=>bif q2.1 then some (false,()) else some (true,())
abbrev zjm:Fun:=⟨203,(ch [zU,(.ptr (.fn (ch [zU]) (ch [.bool])))]),(ch [.bool]),0,zbG⟩
theorem zq5:Sq zjm:=ms0 (d:=false) (K:=0) Tryz.func203 (by kernel_rfl) (funext fun (x0,x1,())=>by kernel_rfl)
def zcA:(qb × ((Option (Option ((qb × Unit)→Option (Bool × Unit)))) × Unit))→Option (Bool × Unit):=fun (x0,x1,()) =>
  Option.bind x1 fun q0=>Option.bind q0 fun q1=>Option.bind (q1 (x0,())) fun q2=>bif q2.1 then some (false,()) else some (true,())
abbrev zjZ:Fun:=⟨205,(ch [zW,(.ptr (.fn (ch [zW]) (ch [.bool])))]),(ch [.bool]),0,zcA⟩
theorem zsx:Sq zjZ:=ms0 (d:=false) (K:=0) Tryz.func205 (by kernel_rfl) (funext fun (x0,x1,())=>by kernel_rfl)
abbrev vK:Type:=(List qb) × (Option ((qb × Unit)→Option (Bool × Unit))) × Int × Int
abbrev zoV:vK→St:=fun (v0,v1,v7,v8)=>St.mk [(0,.dat (.sl zaS) v0),(1,.dat (.fn (.pair zaS .unit) (.pair .bool .unit)) v1),(7,.dat tI v7),(8,.dat tI v8)] []
def zdo (k0:vK→Option (Int × Unit)):vK→Option (Int × Unit):=fun (v0,v1,v7,v8) =>
  bif decide (v8 < v7) then inR v8 ((List.length v0):Int) (Option.bind v1 fun q0=>Option.bind (q0 (ix qU v0 v8,())) fun q1=>bif q1.1 then some (v8,()) else k0 (v0,v1,v7,wI (v8 + 1))) else some ((-1),())
abbrev zhi (K:Nat):vK→Option (Int × Unit):=zl zdo K
theorem zoW (K:Nat):∀ n,evV Es0 K Tryz.f271 0 (ch [tI]) [1,0,1,0] [] zoV n = zl zdo n:=zv fun n0 (v0,v1,v7,v8)=>by kernel_rfl
def zev (L0:vK→Option (Int × Unit)):((List qb) × ((Option ((qb × Unit)→Option (Bool × Unit))) × Unit))→Option (Int × Unit):=fun (x0,x1,()) =>
  L0 (x0,x1,((List.length x0):Int),0)
def zbH:((List vA) × ((Option ((vA × Unit)→Option (Bool × Unit))) × Unit))→Option (Int × Unit):=zev (zhi K0)
abbrev zjn:Fun:=⟨271,(ch [(.sl zW),(.fn (ch [zW]) (ch [.bool]))]),(ch [tI]),0,zbH⟩
theorem zq6:Sq zjn:=ml0 (d:=false) (S:=fun K=>zev (zhi K)) Tryz.func271 (by kernel_rfl) (fun K=>tr1 (T:=zev) (zoW K K) fun (x0,x1,())=>by kernel_rfl) rfl
def zbI:(qs × ((Option (Option ((qs × Unit)→Option (Bool × Unit)))) × Unit))→Option (Bool × Unit):=fun (x0,x1,()) =>
  Option.bind x1 fun q0=>Option.bind q0 fun q1=>Option.bind (q1 (x0,())) fun q2=>bif q2.1 then some (false,()) else some (true,())
abbrev zjo:Fun:=⟨206,(ch [z4,(.ptr (.fn (ch [z4]) (ch [.bool])))]),(ch [.bool]),0,zbI⟩
theorem zq7:Sq zjo:=ms0 (d:=false) (K:=0) Tryz.func206 (by kernel_rfl) (funext fun (x0,x1,())=>by kernel_rfl)
def zbg:(zp × ((Option (Option ((zp × Unit)→Option (Bool × Unit)))) × Unit))→Option (Bool × Unit):=fun (x0,x1,()) =>
  Option.bind x1 fun q0=>Option.bind q0 fun q1=>Option.bind (q1 (x0,())) fun q2=>bif q2.1 then some (false,()) else some (true,())
abbrev zie:Fun:=⟨207,(ch [zw,(.ptr (.fn (ch [zw]) (ch [.bool])))]),(ch [.bool]),0,zbg⟩
theorem zqf:Sq zie:=ms0 (d:=false) (K:=0) Tryz.func207 (by kernel_rfl) (funext fun (x0,x1,())=>by kernel_rfl)
def zdp:((List zp) × Unit)→Option ((List zp) × Unit):=fun (x0,()) =>
  bif List.isEmpty x0 then zdZ (some ([],())) (bif decide (List.length (List.replicate 0 (zf zw)) + List.length x0 ≤ lim) then some (List.replicate 0 (zf zw) ++ x0,()) else none) else bif decide (List.length (List.replicate 0 (zf zw)) + List.length x0 ≤ lim) then some (List.replicate 0 (zf zw) ++ x0,()) else none
abbrev zk1:Fun:=⟨146,(ch [(.sl zw)]),(ch [(.sl zw)]),1,zdp⟩
theorem ztU:Sq zk1:=ms0 (d:=false) (K:=0) Tryz.func146 (by kernel_rfl) (funext fun (x0,())=>by kernel_rfl)
def vL:(zp × Unit)→Option (Bool × Unit):=fun (x0,()) =>
  bif x0.1 then some (true,()) else some (false,())
abbrev zmj:Fun:=⟨114,(ch [zw]),(ch [.bool]),0,vL⟩
theorem zvH:Sq zmj:=ms0 (d:=false) (K:=0) Tryz.func114 (by kernel_rfl) (funext fun (x0,())=>by kernel_rfl)
def zdq:((Option zbC) × Unit)→Option (Bool × Unit):=fun (x0,()) =>
  bif Option.isSome x0 then Option.bind x0 fun q0=>bif Option.isSome q0.2.1 then some (true,()) else some (false,()) else some (false,())
abbrev zk2:Fun:=⟨208,(ch [(.ptr vI)]),(ch [.bool]),0,zdq⟩
theorem ztV:Sq zk2:=ms0 (d:=false) (K:=0) Tryz.func208 (by kernel_rfl) (funext fun (x0,())=>by kernel_rfl)
def zdr:((List zn) × Unit)→Option ((List zn) × Unit):=fun (x0,()) =>
  bif List.isEmpty x0 then zdZ (some ([],())) (bif decide (List.length (List.replicate 0 (zf zm)) + List.length x0 ≤ lim) then some (List.replicate 0 (zf zm) ++ x0,()) else none) else bif decide (List.length (List.replicate 0 (zf zm)) + List.length x0 ≤ lim) then some (List.replicate 0 (zf zm) ++ x0,()) else none
abbrev zk3:Fun:=⟨137,(ch [(.sl zm)]),(ch [(.sl zm)]),1,zdr⟩
theorem ztW:Sq zk3:=ms0 (d:=false) (K:=0) Tryz.func137 (by kernel_rfl) (funext fun (x0,())=>by kernel_rfl)
def zhj:(zn × Unit)→Option (Bool × Unit):=fun (x0,()) =>
  bif x0.1 then some (true,()) else some (false,())
abbrev zq8:Fun:=⟨273,(ch [zm]),(ch [.bool]),0,zhj⟩
theorem zAw:Sq zq8:=ms0 (d:=false) (K:=0) Tryz.func273 (by kernel_rfl) (funext fun (x0,())=>by kernel_rfl)
def zds:((Option zdf) × Unit)→Option (Bool × Unit):=fun (x0,()) =>
  bif Option.isSome x0 then Option.bind x0 fun q0=>bif Option.isSome q0.2.1 then some (true,()) else some (false,()) else some (false,())
abbrev zk4:Fun:=⟨274,(ch [(.ptr yF)]),(ch [.bool]),0,zds⟩
theorem ztX:Sq zk4:=ms0 (d:=false) (K:=0) Tryz.func274 (by kernel_rfl) (funext fun (x0,())=>by kernel_rfl)
def zf0:(zn × Unit)→Option (Int × Unit):=fun (x0,()) =>
  bif x0.2.2.2.1 == 2 then some (x0.2.2.2.2.1,()) else some (x0.2.2.2.2.2.1,())
abbrev zpt:Fun:=⟨119,(ch [zm]),(ch [tI]),0,zf0⟩
theorem zyx:Sq zpt:=ms0 (d:=false) (K:=0) Tryz.func119 (by kernel_rfl) (funext fun (x0,())=>by kernel_rfl)
end
end Go.Proofs.YtokcjmkikhgkeaaGreatDoor
end
section
namespace Go.Proofs.YtokcjmkikhgkeaaGreatDoor
open Go.Ev
noncomputable section
def zdU:(Int × (Int × Unit))→Option (Int × (Int × Unit)):=fun (x0,x1,()) =>
  bif decide (0 ≤ x0) then bif decide (0 ≤ x1) then bif decide (x1 < 18446744073709551616) then bif extB true x0 x1 != 0 then some (0,7,()) else bif decide (extA true x0 x1 > 4611686018427387904) then some (0,7,()) else some (extA true x0 x1,0,()) else none else none else none
abbrev zs6:Fun:=⟨121,(ch [tU,tU]),(ch [tU,tI]),0,zdU⟩
theorem zCd:Sq zs6:=ms0 (d:=false) (K:=0) Tryz.func121 (by kernel_rfl) (funext fun (x0,x1,())=>by kernel_rfl)
def zf1:(zp × Unit)→Option (Bool × Unit):=fun (x0,()) =>
  bif x0.1 then some (true,()) else some (false,())
abbrev zpu:Fun:=⟨214,(ch [zw]),(ch [.bool]),0,zf1⟩
theorem zyy:Sq zpu:=ms0 (d:=false) (K:=0) Tryz.func214 (by kernel_rfl) (funext fun (x0,())=>by kernel_rfl)
def ziv:(zg × Unit)→Option ((List Int) × Unit):=fun (x0,()) =>
  some (x0.2.2.2.2.2.2.2.1,())
abbrev znM:Fun:=⟨210,(ch [zj]),(ch [(.arr 4 tU)]),0,ziv⟩
theorem zw9:Sq znM:=ms0 (d:=false) (K:=0) Tryz.func210 (by kernel_rfl) (funext fun (x0,())=>by kernel_rfl)
def ziw:(zg × Unit)→Option ((List Int) × Unit):=fun (x0,()) =>
  some (x0.2.2.2.2.2.2.2.2.1,())
abbrev znN:Fun:=⟨211,(ch [zj]),(ch [(.arr 4 tU)]),0,ziw⟩
theorem zxa:Sq znN:=ms0 (d:=false) (K:=0) Tryz.func211 (by kernel_rfl) (funext fun (x0,())=>by kernel_rfl)
def zaU:(Int × (Int × Unit))→Option (Int × (Int × Unit)):=fun (x0,x1,()) =>
  bif decide (0 ≤ x0) then bif decide (0 ≤ x1) then bif decide (x1 < 18446744073709551616) then bif extB false x0 x1 != 0 then some (0,6,()) else some (extA false x0 x1,0,()) else none else none else none
abbrev zq9:Fun:=⟨150,(ch [tU,tU]),(ch [tU,tI]),0,zaU⟩
theorem zAx:Sq zq9:=ms0 (d:=false) (K:=0) Tryz.func150 (by kernel_rfl) (funext fun (x0,x1,())=>by kernel_rfl)
def zf2:(ze × (zah × Unit))→Option (zg × Unit):=fun (x0,x1,()) =>
  bif decide (0 ≤ x1.1) then bif decide (x1.1 ≤ x1.1) then bif decide (x1.1 ≤ (↑lim:Int)) then bif decide (0 ≤ x1.2.1) then bif decide (x1.2.1 ≤ x1.2.1) then bif decide (x1.2.1 ≤ (↑lim:Int)) then bif decide (0 ≤ x1.2.2.1) then bif decide (x1.2.2.1 ≤ x1.2.2.1) then bif decide (x1.2.2.1 ≤ (↑lim:Int)) then bif decide (0 ≤ x1.2.2.2.1) then bif decide (x1.2.2.2.1 ≤ x1.2.2.2.1) then bif decide (x1.2.2.2.1 ≤ (↑lim:Int)) then bif decide (0 ≤ x1.2.2.2.2.1) then bif decide (x1.2.2.2.2.1 ≤ x1.2.2.2.2.1) then bif decide (x1.2.2.2.2.1 ≤ (↑lim:Int)) then bif decide (((List.length x0.2.2.1):Int) ≤ ((List.length x0.2.2.1):Int)) then bif decide (((List.length x0.2.2.1):Int) ≤ (↑lim:Int)) then bif decide (((List.length x0.2.2.1):Int) ≤ ((List.length x0.2.2.1):Int)) then bif decide (((List.length x0.2.2.1):Int) ≤ (↑lim:Int)) then some ((List.replicate (Int.toNat x1.1) (zf qj),List.replicate (Int.toNat x1.2.1) (zf zV),List.replicate (Int.toNat x1.2.2.1) (zf zU),List.replicate (Int.toNat x1.2.2.2.1) (zf z4),List.replicate (Int.toNat x1.2.2.2.2.1) (zf zw),List.replicate (Int.toNat ((List.length x0.2.2.1):Int)) (zf (.arr 4 tU)),List.replicate (Int.toNat ((List.length x0.2.2.1):Int)) (zf zW),[0,0,0,0],[0,0,0,0],()),()) else none else none else none else none else none else none else none else none else none else none else none else none else none else none else none else none else none else none else none
abbrev zpv:Fun:=⟨57,(ch [zy,zcJ]),(ch [zj]),3,zf2⟩
theorem zyz:Sq zpv:=ms0 (d:=true) (K:=0) Tryz.func57 (by kernel_rfl) (funext fun (x0,x1,())=>by kernel_rfl)
def ziW:(ze × (zb × Unit))→Option (Bool × Unit):=fun (x0,x1,()) =>
  bif ((List.length x1.2.1):Int) == ((List.length x0.1):Int) then bif ((List.length x1.2.2.1):Int) == ((List.length x0.2.2.2.1):Int) then bif ((List.length x1.2.2.2.2.2.1):Int) == ((List.length x0.2.1):Int) then some (true,()) else some (false,()) else some (false,()) else some (false,())
abbrev zs7:Fun:=⟨122,(ch [zy,zu]),(ch [.bool]),0,ziW⟩
theorem zCe:Sq zs7:=ms0 (d:=false) (K:=0) Tryz.func122 (by kernel_rfl) (funext fun (x0,x1,())=>by kernel_rfl)
def zf3:(Int × ((Option (Option ((Int × Unit)→Option (Bool × Unit)))) × ((Option ze) × Unit)))→Option (Bool × Unit):=fun (x0,x1,x2,()) =>
  Option.bind x1 fun q0=>Option.bind x2 fun q1=>inR x0 ((List.length q1.2.1):Int) (Option.bind q0 fun q2=>Option.bind (q2 (ix (0:Int) q1.2.1 x0,())) fun q3=>bif q3.1 then some (true,()) else some (false,()))
abbrev zpw:Fun:=⟨126,(ch [tI,(.ptr (.fn (ch [tI]) (ch [.bool]))),(.ptr zy)]),(ch [.bool]),0,zf3⟩
theorem zyA:Sq zpw:=ms0 (d:=false) (K:=0) Tryz.func126 (by kernel_rfl) (funext fun (x0,x1,x2,())=>by kernel_rfl)
abbrev vo:Type:=(List zg) × (List zg) × (Option ((Int × Unit)→Option (Bool × Unit))) × Int × Int × List zg × Nat
abbrev znO:vo→St:=fun (v0,v1,v2,v10,v11,o0,c0)=>St.mk [(0,.dat (.sl zj) v0),(1,.dat (.sl zj) v1),(2,.dat (.fn (.pair tI .unit) (.pair .bool .unit)) v2),(7,.ow 0),(10,.dat tI v10),(11,.dat tI v11)] [.drow zj o0 c0]
def vp (k0:vo→Option ((List zg) × Unit)):vo→Option ((List zg) × Unit):=fun (v0,v1,v2,v10,v11,o0,c0) =>
  bif decide (v11 < v10) then Option.bind v2 fun q0=>Option.bind (q0 (v11,())) fun q1=>bif q1.1 then inR v11 ((List.length v0):Int) (bif decide (List.length o0 + List.length (zi (List.replicate 1 (zf zj)) 0 (ix za v0 v11)) ≤ lim) then k0 (v0,v1,v2,v10,wI (v11 + 1),o0 ++ zi (List.replicate 1 (zf zj)) 0 (ix za v0 v11),c0) else none) else inR v11 ((List.length v1):Int) (bif decide (List.length o0 + List.length (zi (List.replicate 1 (zf zj)) 0 (ix za v1 v11)) ≤ lim) then k0 (v0,v1,v2,v10,wI (v11 + 1),o0 ++ zi (List.replicate 1 (zf zj)) 0 (ix za v1 v11),c0) else none) else some (o0,())
abbrev zgM (K:Nat):vo→Option ((List zg) × Unit):=zl vp K
theorem znP (K:Nat):∀ n,evV Es0 K Tryz.f127 0 (ch [(.sl zj)]) [1,1,0,1,0] [] znO n = zl vp n:=zv fun n0 (v0,v1,v2,v10,v11,o0,c0)=>by kernel_rfl
def zd5 (L0:vo→Option ((List zg) × Unit)):((List zg) × ((List zg) × ((Option ((Int × Unit)→Option (Bool × Unit))) × Unit)))→Option ((List zg) × Unit):=fun (x0,x1,x2,()) =>
  L0 (x0,x1,x2,((List.length x0):Int),0,[],0)
def zd6:((List zg) × ((List zg) × ((Option ((Int × Unit)→Option (Bool × Unit))) × Unit)))→Option ((List zg) × Unit):=zd5 (zgM K0)
abbrev zif:Fun:=⟨127,(ch [(.sl zj),(.sl zj),(.fn (ch [tI]) (ch [.bool]))]),(ch [(.sl zj)]),0,zd6⟩
theorem zqg:Sq zif:=ml0 (d:=false) (S:=fun K=>zd5 (zgM K)) Tryz.func127 (by kernel_rfl) (fun K=>tr1 (T:=zd5) (znP K K) fun (x0,x1,x2,())=>by kernel_rfl) rfl
abbrev vM:Type:=(List (List Int)) × (List (List Int)) × (Option ((Int × Unit)→Option (Bool × Unit))) × Int × Int × List (List Int) × Nat
abbrev zoX:vM→St:=fun (v0,v1,v2,v10,v11,o0,c0)=>St.mk [(0,.dat (.sl (.sl tI)) v0),(1,.dat (.sl (.sl tI)) v1),(2,.dat (.fn (.pair tI .unit) (.pair .bool .unit)) v2),(7,.ow 0),(10,.dat tI v10),(11,.dat tI v11)] [.drow (.sl tI) o0 c0]
def vN (k0:vM→Option ((List (List Int)) × Unit)):vM→Option ((List (List Int)) × Unit):=fun (v0,v1,v2,v10,v11,o0,c0) =>
  bif decide (v11 < v10) then Option.bind v2 fun q0=>Option.bind (q0 (v11,())) fun q1=>bif q1.1 then inR v11 ((List.length v0):Int) (bif decide (List.length o0 + List.length (zi (List.replicate 1 ([]:List Int)) 0 (List.getD v0 (Int.toNat v11) ([]:List Int))) ≤ lim) then k0 (v0,v1,v2,v10,wI (v11 + 1),o0 ++ zi (List.replicate 1 ([]:List Int)) 0 (List.getD v0 (Int.toNat v11) ([]:List Int)),c0) else none) else inR v11 ((List.length v1):Int) (bif decide (List.length o0 + List.length (zi (List.replicate 1 ([]:List Int)) 0 (List.getD v1 (Int.toNat v11) ([]:List Int))) ≤ lim) then k0 (v0,v1,v2,v10,wI (v11 + 1),o0 ++ zi (List.replicate 1 ([]:List Int)) 0 (List.getD v1 (Int.toNat v11) ([]:List Int)),c0) else none) else some (o0,())
abbrev zhk (K:Nat):vM→Option ((List (List Int)) × Unit):=zl vN K
theorem zoY (K:Nat):∀ n,evV Es0 K Tryz.f128 0 (ch [(.sl (.sl tI))]) [1,1,0,1,0] [] zoX n = zl vN n:=zv fun n0 (v0,v1,v2,v10,v11,o0,c0)=>by kernel_rfl
def zew (L0:vM→Option ((List (List Int)) × Unit)):((List (List Int)) × ((List (List Int)) × ((Option ((Int × Unit)→Option (Bool × Unit))) × Unit)))→Option ((List (List Int)) × Unit):=fun (x0,x1,x2,()) =>
  L0 (x0,x1,x2,((List.length x0):Int),0,[],0)
def zex:((List (List Int)) × ((List (List Int)) × ((Option ((Int × Unit)→Option (Bool × Unit))) × Unit)))→Option ((List (List Int)) × Unit):=zew (zhk K0)
abbrev zjp:Fun:=⟨128,(ch [(.sl (.sl tI)),(.sl (.sl tI)),(.fn (ch [tI]) (ch [.bool]))]),(ch [(.sl (.sl tI))]),0,zex⟩
theorem zra:Sq zjp:=ml0 (d:=false) (S:=fun K=>zew (zhk K)) Tryz.func128 (by kernel_rfl) (fun K=>tr1 (T:=zew) (zoY K K) fun (x0,x1,x2,())=>by kernel_rfl) rfl
abbrev yl:Type:=(List Int) × (List Int) × (Option ((Int × Unit)→Option (Bool × Unit))) × Int × Int × List Int
abbrev zqh:yl→St:=fun (v0,v1,v2,v10,v11,o0)=>St.mk [(0,.dat (.sl tI) v0),(1,.dat (.sl tI) v1),(2,.dat (.fn (.pair tI .unit) (.pair .bool .unit)) v2),(7,.ow 0),(10,.dat tI v10),(11,.dat tI v11)] [.row tI o0 false]
def ym (k0:yl→Option ((List Int) × Unit)):yl→Option ((List Int) × Unit):=fun (v0,v1,v2,v10,v11,o0) =>
  bif decide (v11 < v10) then Option.bind v2 fun q0=>Option.bind (q0 (v11,())) fun q1=>bif q1.1 then inR v11 ((List.length v0):Int) (bif decide (List.length o0 + List.length (zi (List.replicate 1 (0:Int)) 0 (ix (0:Int) v0 v11)) ≤ lim) then k0 (v0,v1,v2,v10,wI (v11 + 1),o0 ++ zi (List.replicate 1 (0:Int)) 0 (ix (0:Int) v0 v11)) else none) else inR v11 ((List.length v1):Int) (bif decide (List.length o0 + List.length (zi (List.replicate 1 (0:Int)) 0 (ix (0:Int) v1 v11)) ≤ lim) then k0 (v0,v1,v2,v10,wI (v11 + 1),o0 ++ zi (List.replicate 1 (0:Int)) 0 (ix (0:Int) v1 v11)) else none) else some (o0,())
abbrev zig (K:Nat):yl→Option ((List Int) × Unit):=zl ym K
theorem zqi (K:Nat):∀ n,evV Es0 K Tryz.f129 0 (ch [(.sl tI)]) [1,1,0,1,0] [] zqh n = zl ym n:=zv fun n0 (v0,v1,v2,v10,v11,o0)=>by kernel_rfl
def zfl (L0:yl→Option ((List Int) × Unit)):((List Int) × ((List Int) × ((Option ((Int × Unit)→Option (Bool × Unit))) × Unit)))→Option ((List Int) × Unit):=fun (x0,x1,x2,()) =>
  L0 (x0,x1,x2,((List.length x0):Int),0,[])
def zfm:((List Int) × ((List Int) × ((Option ((Int × Unit)→Option (Bool × Unit))) × Unit)))→Option ((List Int) × Unit):=zfl (zig K0)
abbrev zj0:Fun:=⟨129,(ch [(.sl tI),(.sl tI),(.fn (ch [tI]) (ch [.bool]))]),(ch [(.sl tI)]),0,zfm⟩
theorem zsy:Sq zj0:=ml0 (d:=false) (S:=fun K=>zfl (zig K)) Tryz.func129 (by kernel_rfl) (fun K=>tr1 (T:=zfl) (zqi K K) fun (x0,x1,x2,())=>by kernel_rfl) rfl
def zgk:((List zF) × Unit)→Option ((List zF) × Unit):=fun (x0,()) =>
  bif List.isEmpty x0 then zdZ (some ([],())) (bif decide (List.length (List.replicate 0 (zf zt)) + List.length x0 ≤ lim) then some (List.replicate 0 (zf zt) ++ x0,()) else none) else bif decide (List.length (List.replicate 0 (zf zt)) + List.length x0 ≤ lim) then some (List.replicate 0 (zf zt) ++ x0,()) else none
abbrev zk5:Fun:=⟨138,(ch [(.sl zt)]),(ch [(.sl zt)]),1,zgk⟩
theorem ztY:Sq zk5:=ms0 (d:=false) (K:=0) Tryz.func138 (by kernel_rfl) (funext fun (x0,())=>by kernel_rfl)
def zeZ:((List Int) × Unit)→Option ((List Int) × Unit):=fun (x0,()) =>
  bif List.isEmpty x0 then zdZ (some ([],())) (bif decide (List.length (List.replicate 0 (0:Int)) + List.length x0 ≤ lim) then some (List.replicate 0 (0:Int) ++ x0,()) else none) else bif decide (List.length (List.replicate 0 (0:Int)) + List.length x0 ≤ lim) then some (List.replicate 0 (0:Int) ++ x0,()) else none
abbrev znQ:Fun:=⟨139,(ch [(.sl tI)]),(ch [(.sl tI)]),1,zeZ⟩
theorem zxb:Sq znQ:=ms0 (d:=false) (K:=0) Tryz.func139 (by kernel_rfl) (funext fun (x0,())=>by kernel_rfl)
def zhl:((List (List Int)) × Unit)→Option ((List (List Int)) × Unit):=fun (x0,()) =>
  bif List.isEmpty x0 then zdZ (some ([],())) (bif decide (List.length (List.replicate 0 ([]:List Int)) + List.length x0 ≤ lim) then some (List.replicate 0 ([]:List Int) ++ x0,()) else none) else bif decide (List.length (List.replicate 0 ([]:List Int)) + List.length x0 ≤ lim) then some (List.replicate 0 ([]:List Int) ++ x0,()) else none
abbrev zmk:Fun:=⟨140,(ch [(.sl (.sl tI))]),(ch [(.sl (.sl tI))]),1,zhl⟩
theorem zvI:Sq zmk:=ms0 (d:=false) (K:=0) Tryz.func140 (by kernel_rfl) (funext fun (x0,())=>by kernel_rfl)
def zgl:((List zg) × Unit)→Option ((List zg) × Unit):=fun (x0,()) =>
  bif List.isEmpty x0 then zdZ (some ([],())) (bif decide (List.length (List.replicate 0 (zf zj)) + List.length x0 ≤ lim) then some (List.replicate 0 (zf zj) ++ x0,()) else none) else bif decide (List.length (List.replicate 0 (zf zj)) + List.length x0 ≤ lim) then some (List.replicate 0 (zf zj) ++ x0,()) else none
abbrev zk6:Fun:=⟨141,(ch [(.sl zj)]),(ch [(.sl zj)]),1,zgl⟩
theorem ztZ:Sq zk6:=ms0 (d:=false) (K:=0) Tryz.func141 (by kernel_rfl) (funext fun (x0,())=>by kernel_rfl)
def zhm:((List jc) × Unit)→Option ((List jc) × Unit):=fun (x0,()) =>
  bif List.isEmpty x0 then zdZ (some ([],())) (bif decide (List.length (List.replicate 0 (zf qj)) + List.length x0 ≤ lim) then some (List.replicate 0 (zf qj) ++ x0,()) else none) else bif decide (List.length (List.replicate 0 (zf qj)) + List.length x0 ≤ lim) then some (List.replicate 0 (zf qj) ++ x0,()) else none
abbrev zml:Fun:=⟨142,(ch [(.sl qj)]),(ch [(.sl qj)]),1,zhm⟩
theorem zvJ:Sq zml:=ms0 (d:=false) (K:=0) Tryz.func142 (by kernel_rfl) (funext fun (x0,())=>by kernel_rfl)
def zhn:((List z9) × Unit)→Option ((List z9) × Unit):=fun (x0,()) =>
  bif List.isEmpty x0 then zdZ (some ([],())) (bif decide (List.length (List.replicate 0 (zf zV)) + List.length x0 ≤ lim) then some (List.replicate 0 (zf zV) ++ x0,()) else none) else bif decide (List.length (List.replicate 0 (zf zV)) + List.length x0 ≤ lim) then some (List.replicate 0 (zf zV) ++ x0,()) else none
abbrev zmm:Fun:=⟨143,(ch [(.sl zV)]),(ch [(.sl zV)]),1,zhn⟩
theorem zvK:Sq zmm:=ms0 (d:=false) (K:=0) Tryz.func143 (by kernel_rfl) (funext fun (x0,())=>by kernel_rfl)
def zho:((List qc) × Unit)→Option ((List qc) × Unit):=fun (x0,()) =>
  bif List.isEmpty x0 then zdZ (some ([],())) (bif decide (List.length (List.replicate 0 (zf zU)) + List.length x0 ≤ lim) then some (List.replicate 0 (zf zU) ++ x0,()) else none) else bif decide (List.length (List.replicate 0 (zf zU)) + List.length x0 ≤ lim) then some (List.replicate 0 (zf zU) ++ x0,()) else none
abbrev zmn:Fun:=⟨144,(ch [(.sl zU)]),(ch [(.sl zU)]),1,zho⟩
theorem zvL:Sq zmn:=ms0 (d:=false) (K:=0) Tryz.func144 (by kernel_rfl) (funext fun (x0,())=>by kernel_rfl)
def zhp:((List qs) × Unit)→Option ((List qs) × Unit):=fun (x0,()) =>
  bif List.isEmpty x0 then zdZ (some ([],())) (bif decide (List.length (List.replicate 0 (zf z4)) + List.length x0 ≤ lim) then some (List.replicate 0 (zf z4) ++ x0,()) else none) else bif decide (List.length (List.replicate 0 (zf z4)) + List.length x0 ≤ lim) then some (List.replicate 0 (zf z4) ++ x0,()) else none
abbrev zmo:Fun:=⟨145,(ch [(.sl z4)]),(ch [(.sl z4)]),1,zhp⟩
theorem zvM:Sq zmo:=ms0 (d:=false) (K:=0) Tryz.func145 (by kernel_rfl) (funext fun (x0,())=>by kernel_rfl)
def zjE:((List (List Int)) × Unit)→Option ((List (List Int)) × Unit):=fun (x0,()) =>
  bif List.isEmpty x0 then zdZ (some ([],())) (bif decide (List.length (List.replicate 0 (zf (.arr 4 tU))) + List.length x0 ≤ lim) then some (List.replicate 0 (zf (.arr 4 tU)) ++ x0,()) else none) else bif decide (List.length (List.replicate 0 (zf (.arr 4 tU))) + List.length x0 ≤ lim) then some (List.replicate 0 (zf (.arr 4 tU)) ++ x0,()) else none
abbrev zpx:Fun:=⟨147,(ch [(.sl (.arr 4 tU))]),(ch [(.sl (.arr 4 tU))]),1,zjE⟩
theorem zyB:Sq zpx:=ms0 (d:=false) (K:=0) Tryz.func147 (by kernel_rfl) (funext fun (x0,())=>by kernel_rfl)
def zix:((List qb) × Unit)→Option ((List qb) × Unit):=fun (x0,()) =>
  bif List.isEmpty x0 then zdZ (some ([],())) (bif decide (List.length (List.replicate 0 (zf zW)) + List.length x0 ≤ lim) then some (List.replicate 0 (zf zW) ++ x0,()) else none) else bif decide (List.length (List.replicate 0 (zf zW)) + List.length x0 ≤ lim) then some (List.replicate 0 (zf zW) ++ x0,()) else none
abbrev znR:Fun:=⟨148,(ch [(.sl zW)]),(ch [(.sl zW)]),1,zix⟩
theorem zxc:Sq znR:=ms0 (d:=false) (K:=0) Tryz.func148 (by kernel_rfl) (funext fun (x0,())=>by kernel_rfl)
abbrev j5:Type:=(List zg) × (Option ((zg × (zg × Unit))→Option (Bool × Unit))) × (List zg) × Int × Int
abbrev znd:j5→St:=fun (v1,v2,v15,v16,v17)=>St.mk [(1,.dat (.sl zj) v1),(2,.dat (.fn (.pair zj (.pair zj .unit)) (.pair .bool .unit)) v2),(15,.dat (.sl zj) v15),(16,.dat tI v16),(17,.dat tI v17)] []
def j6 (k0:j5→Option (Bool × Unit)):j5→Option (Bool × Unit):=fun (v1,v2,v15,v16,v17) =>
  bif decide (v17 < v16) then inR v17 ((List.length v15):Int) (inR v17 ((List.length v1):Int) (Option.bind v2 fun q0=>Option.bind (q0 (ix za v15 v17,ix za v1 v17,())) fun q1=>bif q1.1 then k0 (v1,v2,v15,v16,wI (v17 + 1)) else some (false,()))) else some (true,())
abbrev zfH (K:Nat):j5→Option (Bool × Unit):=zl j6 K
theorem zne (K:Nat):∀ n,evV Es0 K Tryz.f130 0 (ch [.bool]) [1,1,0,1,0] [] znd n = zl j6 n:=zv fun n0 (v1,v2,v15,v16,v17)=>by kernel_rfl
def zdt (L0:j5→Option (Bool × Unit)):((List zg) × ((List zg) × ((Option ((zg × (zg × Unit))→Option (Bool × Unit))) × Unit)))→Option (Bool × Unit):=fun (x0,x1,x2,()) =>
  bif ((List.length x0):Int) != ((List.length x1):Int) then some (false,()) else L0 (x1,x2,x0,((List.length x0):Int),0)
def zdu:((List zg) × ((List zg) × ((Option ((zg × zg × Unit)→Option (Bool × Unit))) × Unit)))→Option (Bool × Unit):=zdt (zfH K0)
abbrev zhq:Fun:=⟨130,(ch [(.sl zj),(.sl zj),(.fn (ch [zj,zj]) (ch [.bool]))]),(ch [.bool]),0,zdu⟩
theorem zoZ:Sq zhq:=ml0 (d:=false) (S:=fun K=>zdt (zfH K)) Tryz.func130 (by kernel_rfl) (fun K=>tr1 (T:=zdt) (zne K K) fun (x0,x1,x2,())=>by kernel_rfl) rfl
abbrev zai:Type:=(List jc) × (List jc) × Int × Int
abbrev zsz:zai→St:=fun (v0,v1,v12,v13)=>St.mk [(0,.dat (.sl qj) v0),(1,.dat (.sl qj) v1),(12,.dat tI v12),(13,.dat tI v13)] []
def zfn (k0:zai→Option (Bool × Unit)):zai→Option (Bool × Unit):=fun (v0,v1,v12,v13) =>
  bif decide (v13 < v12) then inR v13 ((List.length v0):Int) (inR v13 ((List.length v1):Int) (bif !eqI qj (ix zsb v0 v13) (ix zsb v1 v13) then some (false,()) else k0 (v0,v1,v12,wI (v13 + 1)))) else some (true,())
abbrev zj1 (K:Nat):zai→Option (Bool × Unit):=zl zfn K
theorem zsA (K:Nat):∀ n,evV Es0 K Tryz.f216 0 (ch [.bool]) [1,1,0,1,0] [] zsz n = zl zfn n:=zv fun n0 (v0,v1,v12,v13)=>by kernel_rfl
def zhr (L0:zai→Option (Bool × Unit)):((List jc) × ((List jc) × Unit))→Option (Bool × Unit):=fun (x0,x1,()) =>
  bif ((List.length x0):Int) != ((List.length x1):Int) then some (false,()) else L0 (x0,x1,((List.length x0):Int),0)
def zhs:((List jc) × (List jc) × Unit)→Option (Bool × Unit):=zhr (zj1 K0)
abbrev zmp:Fun:=⟨216,(ch [(.sl qj),(.sl qj)]),(ch [.bool]),0,zhs⟩
theorem zvN:Sq zmp:=ml0 (d:=false) (S:=fun K=>zhr (zj1 K)) Tryz.func216 (by kernel_rfl) (fun K=>tr1 (T:=zhr) (zsA K K) fun (x0,x1,())=>by kernel_rfl) rfl
abbrev zaj:Type:=(List z9) × (List z9) × Int × Int
abbrev zsB:zaj→St:=fun (v0,v1,v12,v13)=>St.mk [(0,.dat (.sl zV) v0),(1,.dat (.sl zV) v1),(12,.dat tI v12),(13,.dat tI v13)] []
def zfo (k0:zaj→Option (Bool × Unit)):zaj→Option (Bool × Unit):=fun (v0,v1,v12,v13) =>
  bif decide (v13 < v12) then inR v13 ((List.length v0):Int) (inR v13 ((List.length v1):Int) (bif !eqI zV (ix vH v0 v13) (ix vH v1 v13) then some (false,()) else k0 (v0,v1,v12,wI (v13 + 1)))) else some (true,())
abbrev zj2 (K:Nat):zaj→Option (Bool × Unit):=zl zfo K
theorem zsC (K:Nat):∀ n,evV Es0 K Tryz.f217 0 (ch [.bool]) [1,1,0,1,0] [] zsB n = zl zfo n:=zv fun n0 (v0,v1,v12,v13)=>by kernel_rfl
def zht (L0:zaj→Option (Bool × Unit)):((List z9) × ((List z9) × Unit))→Option (Bool × Unit):=fun (x0,x1,()) =>
  bif ((List.length x0):Int) != ((List.length x1):Int) then some (false,()) else L0 (x0,x1,((List.length x0):Int),0)
def zhu:((List z9) × (List z9) × Unit)→Option (Bool × Unit):=zht (zj2 K0)
abbrev zmq:Fun:=⟨217,(ch [(.sl zV),(.sl zV)]),(ch [.bool]),0,zhu⟩
theorem zvO:Sq zmq:=ml0 (d:=false) (S:=fun K=>zht (zj2 K)) Tryz.func217 (by kernel_rfl) (fun K=>tr1 (T:=zht) (zsC K K) fun (x0,x1,())=>by kernel_rfl) rfl
abbrev zak:Type:=(List qc) × (List qc) × Int × Int
abbrev zsD:zak→St:=fun (v0,v1,v12,v13)=>St.mk [(0,.dat (.sl zU) v0),(1,.dat (.sl zU) v1),(12,.dat tI v12),(13,.dat tI v13)] []
def zfp (k0:zak→Option (Bool × Unit)):zak→Option (Bool × Unit):=fun (v0,v1,v12,v13) =>
  bif decide (v13 < v12) then inR v13 ((List.length v0):Int) (inR v13 ((List.length v1):Int) (bif !eqI zU (ix zdd v0 v13) (ix zdd v1 v13) then some (false,()) else k0 (v0,v1,v12,wI (v13 + 1)))) else some (true,())
abbrev zj3 (K:Nat):zak→Option (Bool × Unit):=zl zfp K
theorem zsE (K:Nat):∀ n,evV Es0 K Tryz.f218 0 (ch [.bool]) [1,1,0,1,0] [] zsD n = zl zfp n:=zv fun n0 (v0,v1,v12,v13)=>by kernel_rfl
def zhv (L0:zak→Option (Bool × Unit)):((List qc) × ((List qc) × Unit))→Option (Bool × Unit):=fun (x0,x1,()) =>
  bif ((List.length x0):Int) != ((List.length x1):Int) then some (false,()) else L0 (x0,x1,((List.length x0):Int),0)
def zhw:((List qc) × (List qc) × Unit)→Option (Bool × Unit):=zhv (zj3 K0)
abbrev zmr:Fun:=⟨218,(ch [(.sl zU),(.sl zU)]),(ch [.bool]),0,zhw⟩
theorem zvP:Sq zmr:=ml0 (d:=false) (S:=fun K=>zhv (zj3 K)) Tryz.func218 (by kernel_rfl) (fun K=>tr1 (T:=zhv) (zsE K K) fun (x0,x1,())=>by kernel_rfl) rfl
abbrev zal:Type:=(List qs) × (List qs) × Int × Int
abbrev zsF:zal→St:=fun (v0,v1,v12,v13)=>St.mk [(0,.dat (.sl z4) v0),(1,.dat (.sl z4) v1),(12,.dat tI v12),(13,.dat tI v13)] []
def zfq (k0:zal→Option (Bool × Unit)):zal→Option (Bool × Unit):=fun (v0,v1,v12,v13) =>
  bif decide (v13 < v12) then inR v13 ((List.length v0):Int) (inR v13 ((List.length v1):Int) (bif !eqI z4 (ix zzu v0 v13) (ix zzu v1 v13) then some (false,()) else k0 (v0,v1,v12,wI (v13 + 1)))) else some (true,())
abbrev zj4 (K:Nat):zal→Option (Bool × Unit):=zl zfq K
theorem zsG (K:Nat):∀ n,evV Es0 K Tryz.f219 0 (ch [.bool]) [1,1,0,1,0] [] zsF n = zl zfq n:=zv fun n0 (v0,v1,v12,v13)=>by kernel_rfl
def zhx (L0:zal→Option (Bool × Unit)):((List qs) × ((List qs) × Unit))→Option (Bool × Unit):=fun (x0,x1,()) =>
  bif ((List.length x0):Int) != ((List.length x1):Int) then some (false,()) else L0 (x0,x1,((List.length x0):Int),0)
def zhy:((List qs) × (List qs) × Unit)→Option (Bool × Unit):=zhx (zj4 K0)
abbrev zms:Fun:=⟨219,(ch [(.sl z4),(.sl z4)]),(ch [.bool]),0,zhy⟩
theorem zvQ:Sq zms:=ml0 (d:=false) (S:=fun K=>zhx (zj4 K)) Tryz.func219 (by kernel_rfl) (fun K=>tr1 (T:=zhx) (zsG K K) fun (x0,x1,())=>by kernel_rfl) rfl
abbrev yN:Type:=(List zp) × (List zp) × Int × Int
abbrev zrb:yN→St:=fun (v0,v1,v12,v13)=>St.mk [(0,.dat (.sl zw) v0),(1,.dat (.sl zw) v1),(12,.dat tI v12),(13,.dat tI v13)] []
def zey (k0:yN→Option (Bool × Unit)):yN→Option (Bool × Unit):=fun (v0,v1,v12,v13) =>
  bif decide (v13 < v12) then inR v13 ((List.length v0):Int) (inR v13 ((List.length v1):Int) (bif !eqI zw (ix qY v0 v13) (ix qY v1 v13) then some (false,()) else k0 (v0,v1,v12,wI (v13 + 1)))) else some (true,())
abbrev zjq (K:Nat):yN→Option (Bool × Unit):=zl zey K
theorem zrc (K:Nat):∀ n,evV Es0 K Tryz.f220 0 (ch [.bool]) [1,1,0,1,0] [] zrb n = zl zey n:=zv fun n0 (v0,v1,v12,v13)=>by kernel_rfl
def zgm (L0:yN→Option (Bool × Unit)):((List zp) × ((List zp) × Unit))→Option (Bool × Unit):=fun (x0,x1,()) =>
  bif ((List.length x0):Int) != ((List.length x1):Int) then some (false,()) else L0 (x0,x1,((List.length x0):Int),0)
def zgn:((List zp) × (List zp) × Unit)→Option (Bool × Unit):=zgm (zjq K0)
abbrev zk7:Fun:=⟨220,(ch [(.sl zw),(.sl zw)]),(ch [.bool]),0,zgn⟩
theorem zt0:Sq zk7:=ml0 (d:=false) (S:=fun K=>zgm (zjq K)) Tryz.func220 (by kernel_rfl) (fun K=>tr1 (T:=zgm) (zrc K K) fun (x0,x1,())=>by kernel_rfl) rfl
abbrev zbJ:Type:=(List (List Int)) × (List (List Int)) × Int × Int
abbrev zvR:zbJ→St:=fun (v0,v1,v12,v13)=>St.mk [(0,.dat (.sl (.arr 4 tU)) v0),(1,.dat (.sl (.arr 4 tU)) v1),(12,.dat tI v12),(13,.dat tI v13)] []
def zhz (k0:zbJ→Option (Bool × Unit)):zbJ→Option (Bool × Unit):=fun (v0,v1,v12,v13) =>
  bif decide (v13 < v12) then inR v13 ((List.length v0):Int) (inR v13 ((List.length v1):Int) (bif !eqI (.arr 4 tU) (List.getD v0 (Int.toNat v13) (zf (.arr 4 tU))) (List.getD v1 (Int.toNat v13) (zf (.arr 4 tU))) then some (false,()) else k0 (v0,v1,v12,wI (v13 + 1)))) else some (true,())
abbrev zmt (K:Nat):zbJ→Option (Bool × Unit):=zl zhz K
theorem zvS (K:Nat):∀ n,evV Es0 K Tryz.f221 0 (ch [.bool]) [1,1,0,1,0] [] zvR n = zl zhz n:=zv fun n0 (v0,v1,v12,v13)=>by kernel_rfl
def zjF (L0:zbJ→Option (Bool × Unit)):((List (List Int)) × ((List (List Int)) × Unit))→Option (Bool × Unit):=fun (x0,x1,()) =>
  bif ((List.length x0):Int) != ((List.length x1):Int) then some (false,()) else L0 (x0,x1,((List.length x0):Int),0)
def zjG:((List (List Int)) × (List (List Int)) × Unit)→Option (Bool × Unit):=zjF (zmt K0)
abbrev zpy:Fun:=⟨221,(ch [(.sl (.arr 4 tU)),(.sl (.arr 4 tU))]),(ch [.bool]),0,zjG⟩
theorem zyC:Sq zpy:=ml0 (d:=false) (S:=fun K=>zjF (zmt K)) Tryz.func221 (by kernel_rfl) (fun K=>tr1 (T:=zjF) (zvS K K) fun (x0,x1,())=>by kernel_rfl) rfl
abbrev zaV:Type:=(List qb) × (List qb) × Int × Int
abbrev zt1:zaV→St:=fun (v0,v1,v12,v13)=>St.mk [(0,.dat (.sl zaS) v0),(1,.dat (.sl zaS) v1),(12,.dat tI v12),(13,.dat tI v13)] []
def zgo (k0:zaV→Option (Bool × Unit)):zaV→Option (Bool × Unit):=fun (v0,v1,v12,v13) =>
  bif decide (v13 < v12) then inR v13 ((List.length v0):Int) (inR v13 ((List.length v1):Int) (bif !eqI zaS (ix qU v0 v13) (ix qU v1 v13) then some (false,()) else k0 (v0,v1,v12,wI (v13 + 1)))) else some (true,())
abbrev zk8 (K:Nat):zaV→Option (Bool × Unit):=zl zgo K
theorem zt2 (K:Nat):∀ n,evV Es0 K Tryz.f222 0 (ch [.bool]) [1,1,0,1,0] [] zt1 n = zl zgo n:=zv fun n0 (v0,v1,v12,v13)=>by kernel_rfl
def ziy (L0:zaV→Option (Bool × Unit)):((List qb) × ((List qb) × Unit))→Option (Bool × Unit):=fun (x0,x1,()) =>
  bif ((List.length x0):Int) != ((List.length x1):Int) then some (false,()) else L0 (x0,x1,((List.length x0):Int),0)
def ziz:((List vA) × (List vA) × Unit)→Option (Bool × Unit):=ziy (zk8 K0)
abbrev znS:Fun:=⟨222,(ch [(.sl zW),(.sl zW)]),(ch [.bool]),0,ziz⟩
theorem zxd:Sq znS:=ml0 (d:=false) (S:=fun K=>ziy (zk8 K)) Tryz.func222 (by kernel_rfl) (fun K=>tr1 (T:=ziy) (zt2 K K) fun (x0,x1,())=>by kernel_rfl) rfl
abbrev vq:Type:=(List (List Int)) × (Option (((List Int) × ((List Int) × Unit))→Option (Bool × Unit))) × (List (List Int)) × Int × Int
abbrev znT:vq→St:=fun (v1,v2,v15,v16,v17)=>St.mk [(1,.dat (.sl (.sl tI)) v1),(2,.dat (.fn (.pair (.sl tI) (.pair (.sl tI) .unit)) (.pair .bool .unit)) v2),(15,.dat (.sl (.sl tI)) v15),(16,.dat tI v16),(17,.dat tI v17)] []
def vt (k0:vq→Option (Bool × Unit)):vq→Option (Bool × Unit):=fun (v1,v2,v15,v16,v17) =>
  bif decide (v17 < v16) then inR v17 ((List.length v15):Int) (inR v17 ((List.length v1):Int) (Option.bind v2 fun q0=>Option.bind (q0 (List.getD v15 (Int.toNat v17) ([]:List Int),List.getD v1 (Int.toNat v17) ([]:List Int),())) fun q1=>bif q1.1 then k0 (v1,v2,v15,v16,wI (v17 + 1)) else some (false,()))) else some (true,())
abbrev zgN (K:Nat):vq→Option (Bool × Unit):=zl vt K
theorem znU (K:Nat):∀ n,evV Es0 K Tryz.f132 0 (ch [.bool]) [1,1,0,1,0] [] znT n = zl vt n:=zv fun n0 (v1,v2,v15,v16,v17)=>by kernel_rfl
def zd7 (L0:vq→Option (Bool × Unit)):((List (List Int)) × ((List (List Int)) × ((Option (((List Int) × ((List Int) × Unit))→Option (Bool × Unit))) × Unit)))→Option (Bool × Unit):=fun (x0,x1,x2,()) =>
  bif ((List.length x0):Int) != ((List.length x1):Int) then some (false,()) else L0 (x1,x2,x0,((List.length x0):Int),0)
def zd8:((List (List Int)) × ((List (List Int)) × ((Option (((List Int) × (List Int) × Unit)→Option (Bool × Unit))) × Unit)))→Option (Bool × Unit):=zd7 (zgN K0)
abbrev zih:Fun:=⟨132,(ch [(.sl (.sl tI)),(.sl (.sl tI)),(.fn (ch [(.sl tI),(.sl tI)]) (ch [.bool]))]),(ch [.bool]),0,zd8⟩
theorem zqj:Sq zih:=ml0 (d:=false) (S:=fun K=>zd7 (zgN K)) Tryz.func132 (by kernel_rfl) (fun K=>tr1 (T:=zd7) (znU K K) fun (x0,x1,x2,())=>by kernel_rfl) rfl
abbrev zaW:Type:=(List Int) × (List Int) × Int × Int
abbrev zt3:zaW→St:=fun (v0,v1,v12,v13)=>St.mk [(0,.dat (.sl tI) v0),(1,.dat (.sl tI) v1),(12,.dat tI v12),(13,.dat tI v13)] []
def zgp (k0:zaW→Option (Bool × Unit)):zaW→Option (Bool × Unit):=fun (v0,v1,v12,v13) =>
  bif decide (v13 < v12) then inR v13 ((List.length v0):Int) (inR v13 ((List.length v1):Int) (bif ix (0:Int) v0 v13 != ix (0:Int) v1 v13 then some (false,()) else k0 (v0,v1,v12,wI (v13 + 1)))) else some (true,())
abbrev zk9 (K:Nat):zaW→Option (Bool × Unit):=zl zgp K
theorem zt4 (K:Nat):∀ n,evV Es0 K Tryz.f133 0 (ch [.bool]) [1,1,0,1,0] [] zt3 n = zl zgp n:=zv fun n0 (v0,v1,v12,v13)=>by kernel_rfl
def ziA (L0:zaW→Option (Bool × Unit)):((List Int) × ((List Int) × Unit))→Option (Bool × Unit):=fun (x0,x1,()) =>
  bif ((List.length x0):Int) != ((List.length x1):Int) then some (false,()) else L0 (x0,x1,((List.length x0):Int),0)
def zaJ:((List Int) × (List Int) × Unit)→Option (Bool × Unit):=ziA (zk9 K0)
abbrev znV:Fun:=⟨133,(ch [(.sl tI),(.sl tI)]),(ch [.bool]),0,zaJ⟩
theorem zxe:Sq znV:=ml0 (d:=false) (S:=fun K=>ziA (zk9 K)) Tryz.func133 (by kernel_rfl) (fun K=>tr1 (T:=ziA) (zt4 K K) fun (x0,x1,())=>by kernel_rfl) rfl
abbrev yO:Type:=(List zn) × (List zn) × Int × Int
abbrev zrd:yO→St:=fun (v0,v1,v12,v13)=>St.mk [(0,.dat (.sl zm) v0),(1,.dat (.sl zm) v1),(12,.dat tI v12),(13,.dat tI v13)] []
def zez (k0:yO→Option (Bool × Unit)):yO→Option (Bool × Unit):=fun (v0,v1,v12,v13) =>
  bif decide (v13 < v12) then inR v13 ((List.length v0):Int) (inR v13 ((List.length v1):Int) (bif !eqI zm (ix qr v0 v13) (ix qr v1 v13) then some (false,()) else k0 (v0,v1,v12,wI (v13 + 1)))) else some (true,())
abbrev zjr (K:Nat):yO→Option (Bool × Unit):=zl zez K
theorem zre (K:Nat):∀ n,evV Es0 K Tryz.f134 0 (ch [.bool]) [1,1,0,1,0] [] zrd n = zl zez n:=zv fun n0 (v0,v1,v12,v13)=>by kernel_rfl
def zgq (L0:yO→Option (Bool × Unit)):((List zn) × ((List zn) × Unit))→Option (Bool × Unit):=fun (x0,x1,()) =>
  bif ((List.length x0):Int) != ((List.length x1):Int) then some (false,()) else L0 (x0,x1,((List.length x0):Int),0)
def zgr:((List zn) × (List zn) × Unit)→Option (Bool × Unit):=zgq (zjr K0)
abbrev zla:Fun:=⟨134,(ch [(.sl zm),(.sl zm)]),(ch [.bool]),0,zgr⟩
theorem zt5:Sq zla:=ml0 (d:=false) (S:=fun K=>zgq (zjr K)) Tryz.func134 (by kernel_rfl) (fun K=>tr1 (T:=zgq) (zre K K) fun (x0,x1,())=>by kernel_rfl) rfl
abbrev yP:Type:=(List zF) × (List zF) × Int × Int
abbrev zrf:yP→St:=fun (v0,v1,v12,v13)=>St.mk [(0,.dat (.sl zt) v0),(1,.dat (.sl zt) v1),(12,.dat tI v12),(13,.dat tI v13)] []
def zeA (k0:yP→Option (Bool × Unit)):yP→Option (Bool × Unit):=fun (v0,v1,v12,v13) =>
  bif decide (v13 < v12) then inR v13 ((List.length v0):Int) (inR v13 ((List.length v1):Int) (bif !eqI zt (ix zg6 v0 v13) (ix zg6 v1 v13) then some (false,()) else k0 (v0,v1,v12,wI (v13 + 1)))) else some (true,())
abbrev zjs (K:Nat):yP→Option (Bool × Unit):=zl zeA K
theorem zrg (K:Nat):∀ n,evV Es0 K Tryz.f135 0 (ch [.bool]) [1,1,0,1,0] [] zrf n = zl zeA n:=zv fun n0 (v0,v1,v12,v13)=>by kernel_rfl
def zgs (L0:yP→Option (Bool × Unit)):((List zF) × ((List zF) × Unit))→Option (Bool × Unit):=fun (x0,x1,()) =>
  bif ((List.length x0):Int) != ((List.length x1):Int) then some (false,()) else L0 (x0,x1,((List.length x0):Int),0)
def zgt:((List zF) × (List zF) × Unit)→Option (Bool × Unit):=zgs (zjs K0)
abbrev zlb:Fun:=⟨135,(ch [(.sl zt),(.sl zt)]),(ch [.bool]),0,zgt⟩
theorem zt6:Sq zlb:=ml0 (d:=false) (S:=fun K=>zgs (zjs K)) Tryz.func135 (by kernel_rfl) (fun K=>tr1 (T:=zgs) (zrg K K) fun (x0,x1,())=>by kernel_rfl) rfl
def zpz:Unit→Option (ze × Unit):=fun () =>
  some (([(0,0,()),(0,1,()),(1,1,())],[0,1,2],[(ByteArray.mk #[97,110,110],ByteArray.mk #[97],1,true,()),(ByteArray.mk #[98,111,98],ByteArray.mk #[98],0,false,())],[(0,0,())],[(2,2,2,2,2,1000,()),(2,2,2,2,2,1000,()),(2,2,2,2,2,1000,())],4,6,2,3,()),())
abbrev zpA:Fun:=⟨23,.unit,(ch [zy]),0,zpz⟩
theorem zyD:Sq zpA:=ms0 (d:=false) (K:=0) Tryz.func23 (by kernel_rfl) (funext fun ()=>by kernel_rfl)
abbrev L1:List Fun:=zpq :: znx :: zg7 :: zme :: zjh :: zqQ :: zji :: zqS :: zqT :: zh5 :: zqU :: zfB :: zjW :: zqV :: zqW :: zkX :: zkY :: zmf :: zh7 :: zhc :: zh8 :: zqZ :: zq0 :: znE :: zh9 :: zia :: zvA :: zvB :: zib :: zx9 :: zq1 :: zfd :: zfD :: zhf :: zvC :: zq2 :: zq3 :: znL :: zjX :: zya :: zvD :: zpr :: zps :: zmg :: zic :: zhg :: zid :: zhh :: zjY :: zs5 :: zmh :: zjl :: zmi :: zjm :: zjZ :: zjn :: zjo :: zie :: zk1 :: zmj :: zk2 :: zk3 :: zq8 :: zk4 :: zpt :: zs6 :: zpu :: znM :: znN :: zq9 :: zpv :: zs7 :: zpw :: zif :: zjp :: zj0 :: zk5 :: znQ :: zmk :: zk6 :: zml :: zmm :: zmn :: zmo :: zpx :: znR :: zhq :: zmp :: zmq :: zmr :: zms :: zk7 :: zpy :: znS :: zih :: znV :: zla :: zlb :: zpA :: L0
theorem h1:Sds Tryz.prog E0 L1:=⟨zyu,zw2,zoN,zvy,zqP,zAl,zqR,zAm,zAn,zp5,zAo,zm3,zsu,zAp,zAq,ztS,ztT,zvz,zp8,zoQ,zp9,zAr,zAs,zw7,zqa,zqb,zDS,zDT,zqc,zFr,zAt,zlP,zm6,zoS,zDU,zAu,zAv,zw8,zsv,zFs,zDV,zyv,zyw,zvE,zqd,zoT,zqe,zoU,zsw,zCc,zvF,zq4,zvG,zq5,zsx,zq6,zq7,zqf,ztU,zvH,ztV,ztW,zAw,ztX,zyx,zCd,zyy,zw9,zxa,zAx,zyz,zCe,zyA,zqg,zra,zsy,ztY,zxb,zvI,ztZ,zvJ,zvK,zvL,zvM,zyB,zxc,zoZ,zvN,zvO,zvP,zvQ,zt0,zyC,zxd,zqj,zxe,zt5,zt6,zyD,h0⟩
theorem ms1 {d:Bool} {F:Fun} {f:Go.Func} {K:Nat} (hf:Tryz.prog.funcs[F.id]? = some f) (ho:jL f = true) (h:evF (En E0 d L1) K f F.md F.a F.r = F.spec):Sd Tryz.prog E0 F:=mkS h1 hf ho h
theorem ml1 {d:Bool} {F:Fun} {f:Go.Func} {S:Nat→F.a.I→Option F.r.I} (hf:Tryz.prog.funcs[F.id]? = some f) (ho:jL f = true) (h:∀ K,evF (En E0 d L1) K f F.md F.a F.r = S K) (e:S K0 = F.spec):Sd Tryz.prog E0 F:=mkS h1 hf ho ((h K0).trans e)
abbrev Es1:Env:=En E0 false L1
abbrev Ed1:Env:=En E0 true L1
def zdv:(zr × Unit)→Option (Bool × Unit):=fun (x0,()) =>
  Option.bind (zdD (x0,())) fun q0=>bif q0.1 then some (false,()) else some (true,())
abbrev zlc:Fun:=⟨224,(ch [zA]),(ch [.bool]),0,zdv⟩
theorem zt7:Sq zlc:=ms1 (d:=false) (K:=0) Tryz.func224 (by kernel_rfl) (funext fun (x0,())=>by kernel_rfl)
def ye:((List zr) × ((Option ((zr × Unit)→Option (Bool × Unit))) × Unit))→Option (Bool × Unit):=fun (x0,x1,()) =>
  Option.bind (zas (x0,x1,())) fun q0=>bif decide (q0.1 ≥ 0) then some (true,()) else some (false,())
abbrev zfe:Fun:=⟨225,(ch [(.sl zA),(.fn (ch [zA]) (ch [.bool]))]),(ch [.bool]),0,ye⟩
theorem zlQ:Sq zfe:=ms1 (d:=false) (K:=0) Tryz.func225 (by kernel_rfl) (funext fun (x0,x1,())=>by kernel_rfl)
def zam:(Int × (Int × Unit))→Option (Int × Unit):=fun (x0,x1,()) =>
  Option.bind (yW (x0,())) fun q0=>bif q0.1 then Option.bind (yW (x1,())) fun q1=>bif q1.1 then some (0,()) else some ((-1),()) else Option.bind (yW (x1,())) fun q2=>bif q2.1 then some (1,()) else bif decide (x0 < x1) then some ((-1),()) else bif decide (x0 > x1) then some (1,()) else some (0,())
abbrev zj5:Fun:=⟨268,(ch [tI,tI]),(ch [tI]),0,zam⟩
theorem zsH:Sq zj5:=ms1 (d:=false) (K:=0) Tryz.func268 (by kernel_rfl) (funext fun (x0,x1,())=>by kernel_rfl)
def vO:(Int × (Int × Unit))→Option (Int × Unit):=fun (x0,x1,()) =>
  Option.bind (vi (x0,())) fun q0=>bif q0.1 then Option.bind (vi (x1,())) fun q1=>bif q1.1 then some (0,()) else some ((-1),()) else Option.bind (vi (x1,())) fun q2=>bif q2.1 then some (1,()) else bif decide (x0 < x1) then some ((-1),()) else bif decide (x0 > x1) then some (1,()) else some (0,())
abbrev zhA:Fun:=⟨267,(ch [tU,tU]),(ch [tI]),0,vO⟩
theorem zo0:Sq zhA:=ms1 (d:=false) (K:=0) Tryz.func267 (by kernel_rfl) (funext fun (x0,x1,())=>by kernel_rfl)
def zbK:(Int × ((Option ze) × Unit))→Option (Bool × Unit):=fun (x0,x1,()) =>
  Option.bind x1 fun q0=>Option.bind (ql (x0,0,wI (((List.length q0.1):Int) - 1),())) fun q1=>bif q1.1 then some (false,()) else some (true,())
abbrev zmu:Fun:=⟨227,(ch [tI,(.ptr zy)]),(ch [.bool]),0,zbK⟩
theorem zvT:Sq zmu:=ms1 (d:=false) (K:=0) Tryz.func227 (by kernel_rfl) (funext fun (x0,x1,())=>by kernel_rfl)
def qE:((List Int) × ((Option ((Int × Unit)→Option (Bool × Unit))) × Unit))→Option (Bool × Unit):=fun (x0,x1,()) =>
  Option.bind (zbD (x0,x1,())) fun q0=>bif decide (q0.1 ≥ 0) then some (true,()) else some (false,())
abbrev zgO:Fun:=⟨191,(ch [(.sl tI),(.fn (ch [tI]) (ch [.bool]))]),(ch [.bool]),0,qE⟩
theorem znW:Sq zgO:=ms1 (d:=false) (K:=0) Tryz.func191 (by kernel_rfl) (funext fun (x0,x1,())=>by kernel_rfl)
def j7:((List Int) × ((Option ((Int × Unit)→Option (Bool × Unit))) × Unit))→Option (Bool × Unit):=fun (x0,x1,()) =>
  Option.bind (za9 (x0,x1,())) fun q0=>bif decide (q0.1 ≥ 0) then some (true,()) else some (false,())
abbrev zfI:Fun:=⟨281,(ch [(.sl (.int .u8)),(.fn (ch [(.int .u8)]) (ch [.bool]))]),(ch [.bool]),0,j7⟩
theorem znf:Sq zfI:=ms1 (d:=false) (K:=0) Tryz.func281 (by kernel_rfl) (funext fun (x0,x1,())=>by kernel_rfl)
def ze0:(Int × Unit)→Option (Bool × Unit):=fun (x0,()) =>
  Option.bind (zep (x0,())) fun q0=>bif q0.1 then some (true,()) else Option.bind (zha (x0,())) fun q1=>bif q1.1 then some (true,()) else some (false,())
abbrev znX:Fun:=⟨246,(ch [(.int .u8)]),(ch [.bool]),0,ze0⟩
theorem zxf:Sq znX:=ms1 (d:=false) (K:=0) Tryz.func246 (by kernel_rfl) (funext fun (x0,())=>by kernel_rfl)
def zax:((List qR) × ((Option ((qR × Unit)→Option (Bool × Unit))) × Unit))→Option (Bool × Unit):=fun (x0,x1,()) =>
  Option.bind (yG (x0,x1,())) fun q0=>bif decide (q0.1 ≥ 0) then some (true,()) else some (false,())
abbrev zec:Fun:=⟨229,(ch [(.sl qQ),(.fn (ch [qQ]) (ch [.bool]))]),(ch [.bool]),0,zax⟩
theorem zkk:Sq zec:=ms1 (d:=false) (K:=0) Tryz.func229 (by kernel_rfl) (funext fun (x0,x1,())=>by kernel_rfl)
def zbh:((List zr) × (zr × Unit))→Option (Bool × Unit):=fun (x0,x1,()) =>
  Option.bind (zgi (x0,x1,())) fun q0=>bif decide (q0.1 ≥ 0) then some (true,()) else some (false,())
abbrev zii:Fun:=⟨232,(ch [(.sl zA),zA]),(ch [.bool]),0,zbh⟩
theorem zqk:Sq zii:=ms1 (d:=false) (K:=0) Tryz.func232 (by kernel_rfl) (funext fun (x0,x1,())=>by kernel_rfl)
def zdw:(Int × Unit)→Option (Bool × Unit):=fun (x0,()) =>
  Option.bind (ql (x0,0,12,())) fun q0=>bif q0.1 then some (false,()) else some (true,())
abbrev zld:Fun:=⟨234,(ch [tI]),(ch [.bool]),0,zdw⟩
theorem zt8:Sq zld:=ms1 (d:=false) (K:=0) Tryz.func234 (by kernel_rfl) (funext fun (x0,())=>by kernel_rfl)
def yQ:(ze × Unit)→Option (Bool × Unit):=fun (x0,()) =>
  Option.bind (ql (x0.2.2.2.2.2.1,0,24,())) fun q0=>bif q0.1 then Option.bind (ql (x0.2.2.2.2.2.2.1,0,48,())) fun q1=>bif q1.1 then Option.bind (ql (x0.2.2.2.2.2.2.2.1,1,4,())) fun q2=>bif q2.1 then Option.bind (ql (x0.2.2.2.2.2.2.2.2.1,1,16,())) fun q3=>bif q3.1 then some (true,()) else some (false,()) else some (false,()) else some (false,()) else some (false,())
abbrev zrh:Fun:=⟨156,(ch [zy]),(ch [.bool]),0,yQ⟩
theorem zAy:Sq zrh:=ms1 (d:=false) (K:=0) Tryz.func156 (by kernel_rfl) (funext fun (x0,())=>by kernel_rfl)
def jN:((List zg) × ((Option ((zg × Unit)→Option (Bool × Unit))) × Unit))→Option (Bool × Unit):=fun (x0,x1,()) =>
  Option.bind (zat (x0,x1,())) fun q0=>bif decide (q0.1 ≥ 0) then some (true,()) else some (false,())
abbrev zff:Fun:=⟨176,(ch [(.sl zj),(.fn (ch [zj]) (ch [.bool]))]),(ch [.bool]),0,jN⟩
theorem zlR:Sq zff:=ms1 (d:=false) (K:=0) Tryz.func176 (by kernel_rfl) (funext fun (x0,x1,())=>by kernel_rfl)
def zco:((List jc) × ((Option ((jc × Unit)→Option (Bool × Unit))) × Unit))→Option (Bool × Unit):=fun (x0,x1,()) =>
  Option.bind (zbb (x0,x1,())) fun q0=>bif decide (q0.1 ≥ 0) then some (true,()) else some (false,())
abbrev zfJ:Fun:=⟨178,(ch [(.sl qj),(.fn (ch [qj]) (ch [.bool]))]),(ch [.bool]),0,zco⟩
theorem zng:Sq zfJ:=ms1 (d:=false) (K:=0) Tryz.func178 (by kernel_rfl) (funext fun (x0,x1,())=>by kernel_rfl)
def zhB:(z9 × Unit)→Option (Bool × Unit):=fun (x0,()) =>
  bif x0.1 then Option.bind (zes (x0.2.1,())) fun q0=>bif q0.1 then Option.bind (zes (x0.2.2.1,())) fun q1=>bif q1.1 then Option.bind (zhd (x0.2.2.2.1,())) fun q2=>bif q2.1 then some (false,()) else some (true,()) else some (true,()) else some (true,()) else bif !eqI zV x0 (zf zV) then some (true,()) else some (false,())
abbrev zri:Fun:=⟨181,(ch [zV]),(ch [.bool]),0,zhB⟩
theorem zAz:Sq zri:=ms1 (d:=false) (K:=0) Tryz.func181 (by kernel_rfl) (funext fun (x0,())=>by kernel_rfl)
def zhC:((List z9) × (qb × (Int × Unit)))→Option (Int × Unit):=fun (x0,x1,x2,()) =>
  Option.bind (yk (x0,some fun z=>zeX (z.1,some x1,some x2,()),())) fun q0=>some (q0.1,())
abbrev zrj:Fun:=⟨182,(ch [(.sl zV),zW,tI]),(ch [tI]),0,zhC⟩
theorem zAA:Sq zrj:=ms1 (d:=false) (K:=0) Tryz.func182 (by kernel_rfl) (funext fun (x0,x1,x2,())=>by kernel_rfl)
def jk:((List qc) × ((Option ((qc × Unit)→Option (Bool × Unit))) × Unit))→Option (Bool × Unit):=fun (x0,x1,()) =>
  Option.bind (zbc (x0,x1,())) fun q0=>bif decide (q0.1 ≥ 0) then some (true,()) else some (false,())
abbrev zfK:Fun:=⟨183,(ch [(.sl zU),(.fn (ch [zU]) (ch [.bool]))]),(ch [.bool]),0,jk⟩
theorem znh:Sq zfK:=ms1 (d:=false) (K:=0) Tryz.func183 (by kernel_rfl) (funext fun (x0,x1,())=>by kernel_rfl)
def zbL:(zw1 × Unit)→Option (Bool × Unit):=fun (x0,()) =>
  bif x0.1 == 1 then Option.bind (zdj (x0.2.1,())) fun q0=>bif q0.1 then bif eqI zW x0.2.2.1 (zf zW) then some (true,()) else some (false,()) else some (false,()) else bif x0.1 == 3 then Option.bind (zdj (x0.2.1,())) fun q1=>bif q1.1 then bif eqI zW x0.2.2.1 (zf zW) then some (true,()) else some (false,()) else some (false,()) else bif x0.1 == 2 then bif x0.2.1 == 0 then Option.bind (zdj (x0.2.2.1.1,())) fun q2=>bif q2.1 then Option.bind (zdj (x0.2.2.1.2.1,())) fun q3=>bif q3.1 then some (true,()) else some (false,()) else some (false,()) else some (false,()) else some (false,())
abbrev zjt:Fun:=⟨254,(ch [zsc]),(ch [.bool]),0,zbL⟩
theorem zrk:Sq zjt:=ms1 (d:=false) (K:=0) Tryz.func254 (by kernel_rfl) (funext fun (x0,())=>by kernel_rfl)
def jl:((List qs) × ((Option ((qs × Unit)→Option (Bool × Unit))) × Unit))→Option (Bool × Unit):=fun (x0,x1,()) =>
  Option.bind (zbd (x0,x1,())) fun q0=>bif decide (q0.1 ≥ 0) then some (true,()) else some (false,())
abbrev zfL:Fun:=⟨185,(ch [(.sl z4),(.fn (ch [z4]) (ch [.bool]))]),(ch [.bool]),0,jl⟩
theorem zni:Sq zfL:=ms1 (d:=false) (K:=0) Tryz.func185 (by kernel_rfl) (funext fun (x0,x1,())=>by kernel_rfl)
def ziB:(qs × Unit)→Option (Bool × Unit):=fun (x0,()) =>
  Option.bind (zgL (x0.2.1,())) fun q0=>bif q0.1 then Option.bind (zgL (x0.2.2.1,())) fun q1=>bif q1.1 then Option.bind (zgL (x0.2.2.2.1,())) fun q2=>bif q2.1 then some (true,()) else some (false,()) else some (false,()) else some (false,())
abbrev znY:Fun:=⟨256,(ch [z4]),(ch [.bool]),0,ziB⟩
theorem zxg:Sq znY:=ms1 (d:=false) (K:=0) Tryz.func256 (by kernel_rfl) (funext fun (x0,())=>by kernel_rfl)
def ze1:(ByteArray × (ByteArray × Unit))→Option (ByteArray × Unit):=fun (x0,x1,()) =>
  bif ByteArray.toList x0 == ByteArray.toList (ByteArray.mk #[]) then some (x0,()) else bif ByteArray.toList x1 == ByteArray.toList (ByteArray.mk #[]) then some (x0,()) else bif (↑(ByteArray.size x1):Int) == 1 then bif decide (0 < (↑(ByteArray.size x1):Int)) then bif decide ((↑(UInt8.toNat (List.getD (Array.toList (ByteArray.data x1)) (Int.toNat 0) 0)):Int) < 128) then bif decide (0 < (↑(ByteArray.size x1):Int)) then Option.bind (zbl (x0,(↑(UInt8.toNat (List.getD (Array.toList (ByteArray.data x1)) (Int.toNat 0) 0)):Int),())) fun q0=>bif decide (0 < (↑(ByteArray.size x1):Int)) then Option.bind (zck (q0.1,(↑(UInt8.toNat (List.getD (Array.toList (ByteArray.data x1)) (Int.toNat 0) 0)):Int),())) fun q1=>some (q1.1,()) else none else none else none else none else none
abbrev znZ:Fun:=⟨285,(ch [.str,.str]),(ch [.str]),0,ze1⟩
theorem zxh:Sq znZ:=ms1 (d:=false) (K:=0) Tryz.func285 (by kernel_rfl) (funext fun (x0,x1,())=>by kernel_rfl)
end
end Go.Proofs.YtokcjmkikhgkeaaGreatDoor
end
section
namespace Go.Proofs.YtokcjmkikhgkeaaGreatDoor
open Go.Ev
noncomputable section
def ja:((List zp) × ((Option ((zp × Unit)→Option (Bool × Unit))) × Unit))→Option (Bool × Unit):=fun (x0,x1,()) =>
  Option.bind (zau (x0,x1,())) fun q0=>bif decide (q0.1 ≥ 0) then some (true,()) else some (false,())
abbrev zfg:Fun:=⟨187,(ch [(.sl zw),(.fn (ch [zw]) (ch [.bool]))]),(ch [.bool]),0,ja⟩
theorem zlS:Sq zfg:=ms1 (d:=false) (K:=0) Tryz.func187 (by kernel_rfl) (funext fun (x0,x1,())=>by kernel_rfl)
def zfM:(zkh × Unit)→Option (Bool × Unit):=fun (x0,()) =>
  Option.bind (qO (x0.1,())) fun q0=>bif q0.1 then bif decide (x0.2.1 ≤ 4611686018427387904) then bif x0.2.2.1 == -1 then some (true,()) else Option.bind (zeY (x0.2.2.1,())) fun q1=>bif q1.1 then some (true,()) else some (false,()) else some (false,()) else some (false,())
abbrev zs8:Fun:=⟨260,(ch [zde]),(ch [.bool]),0,zfM⟩
theorem zCf:Sq zs8:=ms1 (d:=false) (K:=0) Tryz.func260 (by kernel_rfl) (funext fun (x0,())=>by kernel_rfl)
def zeB:(Int × (Int × Unit))→Option (Int × (Int × Unit)):=fun (x0,x1,()) =>
  Option.bind (zcy (x0,x1,())) fun q0=>bif q0.1 != 0 then some (0,7,()) else bif decide (q0.2.1 > 4611686018427387904) then some (0,7,()) else some (q0.2.1,0,())
abbrev zrl:Fun:=⟨286,(ch [tU,tU]),(ch [tU,tI]),0,zeB⟩
theorem zAB:Sq zrl:=ms1 (d:=false) (K:=0) Tryz.func286 (by kernel_rfl) (funext fun (x0,x1,())=>by kernel_rfl)
def zdx:(zn × ((Option qN) × Unit))→Option (Bool × Unit):=fun (x0,x1,()) =>
  bif x0.1 then Option.bind x1 fun q0=>Option.bind (zbo (q0,x0.2.1,())) fun q1=>bif q1.1 then Option.bind x1 fun q2=>Option.bind (qP (q2,x0.2.2.1,())) fun q3=>bif q3.1 then Option.bind x1 fun q4=>bif decide (x0.2.2.2.2.2.2.2.2.2.1 < ((List.length q4.2.1.2.2.2.2.1):Int)) then some (true,()) else some (false,()) else some (false,()) else some (false,()) else some (true,())
abbrev zle:Fun:=⟨94,(ch [zm,(.ptr qe)]),(ch [.bool]),0,zdx⟩
theorem zt9:Sq zle:=ms1 (d:=false) (K:=0) Tryz.func94 (by kernel_rfl) (funext fun (x0,x1,())=>by kernel_rfl)
def jO:((List zn) × ((Option ((zn × Unit)→Option (Bool × Unit))) × Unit))→Option (Bool × Unit):=fun (x0,x1,()) =>
  Option.bind (zav (x0,x1,())) fun q0=>bif decide (q0.1 ≥ 0) then some (true,()) else some (false,())
abbrev zfh:Fun:=⟨195,(ch [(.sl zm),(.fn (ch [zm]) (ch [.bool]))]),(ch [.bool]),0,jO⟩
theorem zlT:Sq zfh:=ms1 (d:=false) (K:=0) Tryz.func195 (by kernel_rfl) (funext fun (x0,x1,())=>by kernel_rfl)
def zaX:(zF × ((Option qN) × Unit))→Option (Bool × Unit):=fun (x0,x1,()) =>
  Option.bind x1 fun q0=>bif decide (x0.2.1 < ((List.length q0.1.2.1):Int)) then Option.bind x1 fun q1=>inR x0.2.1 ((List.length q1.1.2.1):Int) (bif x0.2.2.1 == ix (0:Int) q1.1.2.1 x0.2.1 then Option.bind x1 fun q2=>Option.bind (qP (q2,x0.2.2.2.1,())) fun q3=>bif q3.1 then Option.bind x1 fun q4=>bif decide (x0.1 ≤ q4.2.1.1) then some (true,()) else some (false,()) else some (false,()) else some (false,())) else some (false,())
abbrev zlf:Fun:=⟨98,(ch [zt,(.ptr qe)]),(ch [.bool]),0,zaX⟩
theorem zua:Sq zlf:=ms1 (d:=false) (K:=0) Tryz.func98 (by kernel_rfl) (funext fun (x0,x1,())=>by kernel_rfl)
def jP:((List zF) × ((Option ((zF × Unit)→Option (Bool × Unit))) × Unit))→Option (Bool × Unit):=fun (x0,x1,()) =>
  Option.bind (zaw (x0,x1,())) fun q0=>bif decide (q0.1 ≥ 0) then some (true,()) else some (false,())
abbrev zfi:Fun:=⟨197,(ch [(.sl zt),(.fn (ch [zt]) (ch [.bool]))]),(ch [.bool]),0,jP⟩
theorem zlU:Sq zfi:=ms1 (d:=false) (K:=0) Tryz.func197 (by kernel_rfl) (funext fun (x0,x1,())=>by kernel_rfl)
def vd:(Int × ((Option qN) × Unit))→Option (Bool × Unit):=fun (x0,x1,()) =>
  bif x0 == -1 then some (true,()) else Option.bind x1 fun q0=>Option.bind (qP (q0,x0,())) fun q1=>bif q1.1 then some (true,()) else some (false,())
abbrev zlg:Fun:=⟨100,(ch [tI,(.ptr qe)]),(ch [.bool]),0,vd⟩
theorem zub:Sq zlg:=ms1 (d:=false) (K:=0) Tryz.func100 (by kernel_rfl) (funext fun (x0,x1,())=>by kernel_rfl)
def zfN:(qN × (Int × (Int × Unit)))→Option (Bool × Unit):=fun (x0,x1,x2,()) =>
  Option.bind (zbo (x0,x1,())) fun q0=>bif q0.1 then Option.bind (zbo (x0,x2,())) fun q1=>bif q1.1 then inR x1 ((List.length x0.1.1):Int) (inR x2 ((List.length x0.1.1):Int) (Option.bind (zaF (ix qz x0.1.1 x1,ix qz x0.1.1 x2,())) fun q2=>bif q2.1 then some (true,()) else some (false,()))) else some (false,()) else some (false,())
abbrev zs9:Fun:=⟨110,(ch [qe,tI,tI]),(ch [.bool]),0,zfN⟩
theorem zCg:Sq zs9:=ms1 (d:=false) (K:=0) Tryz.func110 (by kernel_rfl) (funext fun (x0,x1,x2,())=>by kernel_rfl)
def j8:((List z9) × ((Option ((z9 × Unit)→Option (Bool × Unit))) × Unit))→Option (Bool × Unit):=fun (x0,x1,()) =>
  Option.bind (yk (x0,x1,())) fun q0=>bif decide (q0.1 ≥ 0) then some (true,()) else some (false,())
abbrev zfO:Fun:=⟨201,(ch [(.sl zV),(.fn (ch [zV]) (ch [.bool]))]),(ch [.bool]),0,j8⟩
theorem znj:Sq zfO:=ms1 (d:=false) (K:=0) Tryz.func201 (by kernel_rfl) (funext fun (x0,x1,())=>by kernel_rfl)
def vu:((List qb) × ((Option ((qb × Unit)→Option (Bool × Unit))) × Unit))→Option (Bool × Unit):=fun (x0,x1,()) =>
  Option.bind (zbH (x0,x1,())) fun q0=>bif decide (q0.1 ≥ 0) then some (true,()) else some (false,())
abbrev zgP:Fun:=⟨204,(ch [(.sl zW),(.fn (ch [zW]) (ch [.bool]))]),(ch [.bool]),0,vu⟩
theorem zn0:Sq zgP:=ms1 (d:=false) (K:=0) Tryz.func204 (by kernel_rfl) (funext fun (x0,x1,())=>by kernel_rfl)
def zaY:(qc × ((Option qN) × Unit))→Option (Bool × Unit):=fun (x0,x1,()) =>
  bif x0.2.2.1 != 1 then some (true,()) else Option.bind x1 fun q0=>Option.bind (qP (q0,x0.2.2.2.1,())) fun q1=>bif q1.1 then some (true,()) else some (false,())
abbrev zlh:Fun:=⟨107,(ch [zU,(.ptr qe)]),(ch [.bool]),0,zaY⟩
theorem zuc:Sq zlh:=ms1 (d:=false) (K:=0) Tryz.func107 (by kernel_rfl) (funext fun (x0,x1,())=>by kernel_rfl)
def qD:(zp × ((Option qN) × Unit))→Option (Bool × Unit):=fun (x0,x1,()) =>
  bif x0.1 then Option.bind x1 fun q0=>Option.bind (qP (q0,x0.2.1,())) fun q1=>bif q1.1 then Option.bind x1 fun q2=>Option.bind (qP (q2,x0.2.2.1,())) fun q3=>bif q3.1 then some (true,()) else some (false,()) else some (false,()) else some (true,())
abbrev zli:Fun:=⟨112,(ch [zw,(.ptr qe)]),(ch [.bool]),0,qD⟩
theorem zud:Sq zli:=ms1 (d:=false) (K:=0) Tryz.func112 (by kernel_rfl) (funext fun (x0,x1,())=>by kernel_rfl)
def yw:((List zp) × ((Option ((zp × Unit)→Option (Bool × Unit))) × Unit))→Option ((Option zbC) × Unit):=fun (x0,x1,()) =>
  bif Option.isNone x1 then some (none,()) else Option.bind (zdp (x0,())) fun q0=>some (some (q0.1,x1,()),())
abbrev zlj:Fun:=⟨113,(ch [(.sl zw),(.fn (ch [zw]) (ch [.bool]))]),(ch [(.ptr vI)]),0,yw⟩
theorem zue:Sq zlj:=ms1 (d:=false) (K:=0) Tryz.func113 (by kernel_rfl) (funext fun (x0,x1,())=>by kernel_rfl)
def vP:((Option zbC) × (Int × Unit))→Option (Bool × Unit):=fun (x0,x1,()) =>
  Option.bind (zdq (x0,())) fun q0=>bif q0.1 then bif decide (x1 ≥ 0) then Option.bind x0 fun q1=>bif decide (x1 < ((List.length q1.1):Int)) then Option.bind x0 fun q2=>Option.bind x0 fun q3=>inR x1 ((List.length q3.1):Int) (Option.bind q2.2.1 fun q4=>Option.bind (q4 (ix qY q3.1 x1,())) fun q5=>bif q5.1 then some (true,()) else some (false,())) else some (false,()) else some (false,()) else some (false,())
abbrev zmv:Fun:=⟨115,(ch [(.ptr vI),tI]),(ch [.bool]),0,vP⟩
theorem zvU:Sq zmv:=ms1 (d:=false) (K:=0) Tryz.func115 (by kernel_rfl) (funext fun (x0,x1,())=>by kernel_rfl)
def zgu:((List zn) × ((Option ((zn × Unit)→Option (Bool × Unit))) × Unit))→Option ((Option zdf) × Unit):=fun (x0,x1,()) =>
  bif Option.isNone x1 then some (none,()) else Option.bind (zdr (x0,())) fun q0=>some (some (q0.1,x1,()),())
abbrev zlk:Fun:=⟨272,(ch [(.sl zm),(.fn (ch [zm]) (ch [.bool]))]),(ch [(.ptr yF)]),0,zgu⟩
theorem zuf:Sq zlk:=ms1 (d:=false) (K:=0) Tryz.func272 (by kernel_rfl) (funext fun (x0,x1,())=>by kernel_rfl)
def zed:((Option zdf) × (Int × Unit))→Option (Bool × Unit):=fun (x0,x1,()) =>
  Option.bind (zds (x0,())) fun q0=>bif q0.1 then bif decide (x1 ≥ 0) then Option.bind x0 fun q1=>bif decide (x1 < ((List.length q1.1):Int)) then Option.bind x0 fun q2=>Option.bind x0 fun q3=>inR x1 ((List.length q3.1):Int) (Option.bind q2.2.1 fun q4=>Option.bind (q4 (ix qr q3.1 x1,())) fun q5=>bif q5.1 then some (true,()) else some (false,())) else some (false,()) else some (false,()) else some (false,())
abbrev zmw:Fun:=⟨275,(ch [(.ptr yF),tI]),(ch [.bool]),0,zed⟩
theorem zvV:Sq zmw:=ms1 (d:=false) (K:=0) Tryz.func275 (by kernel_rfl) (funext fun (x0,x1,())=>by kernel_rfl)
abbrev zeC:Type:=Int × (List Int) × Int × Int
abbrev zAC:zeC→St:=fun (v4,v9,v10,v11)=>St.mk [(4,.dat tU v4),(9,.dat (.sl tU) v9),(10,.dat tI v10),(11,.dat tI v11)] []
def zeD (k0:zeC→Option (Int × (Int × Unit))):zeC→Option (Int × (Int × Unit)):=fun (v4,v9,v10,v11) =>
  bif decide (v11 < v10) then inR v11 ((List.length v9):Int) (Option.bind (zdU (v4,ix (0:Int) v9 v11,())) fun q0=>bif q0.2.1 != 0 then some (0,q0.2.1,()) else k0 (q0.1,v9,v10,wI (v11 + 1))) else some (v4,0,())
abbrev zrm (K:Nat):zeC→Option (Int × (Int × Unit)):=zl zeD K
theorem zAD (K:Nat):∀ n,evV Es1 K Tryz.f44 0 (ch [tU,tI]) [1,1,0,1,0] [] zAC n = zl zeD n:=zv fun n0 (v4,v9,v10,v11)=>by kernel_rfl
def zo1 (L0:zeC→Option (Int × (Int × Unit))):((List Int) × Unit)→Option (Int × (Int × Unit)):=fun (x0,()) =>
  L0 (0,x0,((List.length x0):Int),0)
def ze2:((List Int) × Unit)→Option (Int × Int × Unit):=zo1 (zrm K0)
abbrev zvW:Fun:=⟨44,(ch [(.sl tU)]),(ch [tU,tI]),0,ze2⟩
theorem zDW:Sq zvW:=ml1 (d:=false) (S:=fun K=>zo1 (zrm K)) Tryz.func44 (by kernel_rfl) (fun K=>tr1 (T:=zo1) (zAD K K) fun (x0,())=>by kernel_rfl) rfl
def zbp:(Int × ((Option ze) × ((Option zr) × Unit)))→Option (Bool × Unit):=fun (x0,x1,x2,()) =>
  Option.bind x1 fun q0=>inR x0 ((List.length q0.1):Int) (Option.bind x2 fun q1=>Option.bind (zaF (ix qz q0.1 x0,q1,())) fun q2=>bif q2.1 then some (true,()) else some (false,()))
abbrev zpB:Fun:=⟨123,(ch [tI,(.ptr zy),(.ptr zA)]),(ch [.bool]),0,zbp⟩
theorem zyE:Sq zpB:=ms1 (d:=false) (K:=0) Tryz.func123 (by kernel_rfl) (funext fun (x0,x1,x2,())=>by kernel_rfl)
def zf4:(Int × ((Option ze) × ((Option zr) × Unit)))→Option (Bool × Unit):=fun (x0,x1,x2,()) =>
  Option.bind x1 fun q0=>inR x0 ((List.length q0.2.2.2.1):Int) (Option.bind (zer ((ix qU q0.2.2.2.1 x0).1,())) fun q1=>Option.bind x2 fun q2=>Option.bind (zaF (q1.1,q2,())) fun q3=>bif q3.1 then some (true,()) else some (false,()))
abbrev zpC:Fun:=⟨124,(ch [tI,(.ptr zy),(.ptr zA)]),(ch [.bool]),0,zf4⟩
theorem zyF:Sq zpC:=ms1 (d:=false) (K:=0) Tryz.func124 (by kernel_rfl) (funext fun (x0,x1,x2,())=>by kernel_rfl)
abbrev zbM:Type:=Int × Int × Int × Int × List zg × Nat × List (List Int) × Nat × List zn × List zF × List Int × List zg × Nat × List (List Int) × Nat × List zn × List zF × List Int
abbrev zmx:zbM→St:=fun (v44,v45,o0_0,o1_0,o2,c2,o3,c3,o4,o5,o6,o7,c7,o8,c8,o9,o10,o11)=>St.mk [(1,.bp 0 []),(2,.bp 1 []),(43,.ow 2),(44,.dat tI v44),(45,.dat tI v45)] [.bx (.fld (.pair tU (.pair (.sl zj) (.pair (.sl (.sl tI)) (.pair (.sl zm) (.pair (.sl zt) (.pair (.sl tI) .unit)))))) [.dat tU o0_0,.ow 2,.ow 3,.ow 4,.ow 5,.ow 6]) false,.bx (.fld (.pair tU (.pair (.sl zj) (.pair (.sl (.sl tI)) (.pair (.sl zm) (.pair (.sl zt) (.pair (.sl tI) .unit)))))) [.dat tU o1_0,.ow 7,.ow 8,.ow 9,.ow 10,.ow 11]) false,.drow zj o2 c2,.drow (.sl tI) o3 c3,.row zm o4 false,.row zt o5 false,.row tI o6 false,.drow zj o7 c7,.drow (.sl tI) o8 c8,.row zm o9 false,.row zt o10 false,.row tI o11 false]
abbrev zbN:Type:=Int × Int × Int × (List zg) × Int × List (List Int) × Nat × List zn × List zF × List Int × List zg × Nat × List (List Int) × Nat × List zn × List zF × List Int
abbrev zvX:zbN→St:=fun (v25,v26,o0_0,o0_1,o1_0,o2,c2,o3,o4,o5,o6,c6,o7,c7,o8,o9,o10)=>St.mk [(1,.bp 0 []),(2,.bp 1 []),(24,.ow 2),(25,.dat tI v25),(26,.dat tI v26)] [.bx (.fld (.pair tU (.pair (.sl zj) (.pair (.sl (.sl tI)) (.pair (.sl zm) (.pair (.sl zt) (.pair (.sl tI) .unit)))))) [.dat tU o0_0,.dat (.sl zj) o0_1,.ow 2,.ow 3,.ow 4,.ow 5]) false,.bx (.fld (.pair tU (.pair (.sl zj) (.pair (.sl (.sl tI)) (.pair (.sl zm) (.pair (.sl zt) (.pair (.sl tI) .unit)))))) [.dat tU o1_0,.ow 6,.ow 7,.ow 8,.ow 9,.ow 10]) false,.drow (.sl tI) o2 c2,.row zm o3 false,.row zt o4 false,.row tI o5 false,.drow zj o6 c6,.drow (.sl tI) o7 c7,.row zm o8 false,.row zt o9 false,.row tI o10 false]
def zbO (k1:zbM→Option (zb × Unit)):zbM→Option (zb × Unit):=fun (v44,v45,o0_0,o1_0,o2,c2,o3,c3,o4,o5,o6,o7,c7,o8,c8,o9,o10,o11) =>
  bif decide (v45 < v44) then inR v45 ((List.length o2):Int) (bif decide (c2 ≤ Int.toNat v45) then Option.bind (zhm ((ix za o2 v45).1,())) fun q6=>Option.bind (zhn ((ix za o2 v45).2.1,())) fun q7=>Option.bind (zho ((ix za o2 v45).2.2.1,())) fun q8=>Option.bind (zhp ((ix za o2 v45).2.2.2.1,())) fun q9=>Option.bind (zdp ((ix za o2 v45).2.2.2.2.1,())) fun q10=>Option.bind (zjE ((ix za o2 v45).2.2.2.2.2.1,())) fun q11=>Option.bind (zix ((ix za o2 v45).2.2.2.2.2.2.1,())) fun q12=>inR v45 ((List.length o2):Int) (bif decide (Int.toNat v45 = c2) then k1 (v44,wI (v45 + 1),o0_0,o1_0,List.set o2 (Int.toNat v45) (q6.1,q7.1,q8.1,q9.1,q10.1,q11.1,q12.1,(ix za o2 v45).2.2.2.2.2.2.2.1,(ix za o2 v45).2.2.2.2.2.2.2.2.1,()),c2 + 1,o3,c3,o4,o5,o6,o7,c7,o8,c8,o9,o10,o11) else none) else none) else bif decide (c2 = List.length o2) then bif decide (c3 = List.length o3) then some ((o0_0,o2,o3,o4,o5,o6,()),()) else none else none
abbrev zbP (K:Nat):zbM→Option (zb × Unit):=zl zbO K
theorem zvY (K:Nat):∀ n,evV Ed1 K Tryz.f49 3 (ch [zu]) [1,1,1,1,1,0,1,0] [] zmx n = zl zbO n:=zv fun n1 (v44,v45,o0_0,o1_0,o2,c2,o3,c3,o4,o5,o6,o7,c7,o8,c8,o9,o10,o11)=>by kernel_rfl
def yX (L1:zbM→Option (zb × Unit)) (k0:zbN→Option (zb × Unit)):zbN→Option (zb × Unit):=fun (v25,v26,o0_0,o0_1,o1_0,o2,c2,o3,o4,o5,o6,c6,o7,c7,o8,o9,o10) =>
  bif decide (v26 < v25) then inR v26 ((List.length o2):Int) (bif decide (c2 ≤ Int.toNat v26) then Option.bind (zeZ (List.getD o2 (Int.toNat v26) ([]:List Int),())) fun q4=>inR v26 ((List.length o2):Int) (bif decide (Int.toNat v26 = c2) then k0 (v25,wI (v26 + 1),o0_0,o0_1,o1_0,List.set o2 (Int.toNat v26) q4.1,c2 + 1,o3,o4,o5,o6,c6,o7,c7,o8,o9,o10) else none) else none) else Option.bind (zgl (o0_1,())) fun q5=>L1 (((List.length q5.1):Int),0,o0_0,o1_0,q5.1,0,o2,c2,o3,o4,o5,o6,c6,o7,c7,o8,o9,o10)
abbrev zhD (K:Nat):zbN→Option (zb × Unit):=zl (fun k0=>yX (zbP K) k0) K
theorem zvZ (K:Nat):∀ n,evV Ed1 K Tryz.f49 3 (ch [zu]) [1,1,1,0,1,0] [] zvX n = zl (fun k0=>yX (zbP K) k0) n:=zgF (B:=fun L1 k0=>yX L1 k0) (V1:=fun n0=>evV Ed1 K Tryz.f49 3 (ch [zu]) [1,1,1,1,1,0,1,0] [] zmx K) (W1:=fun k0=>(zbP K)) (fun n0=>zvY K K) fun n0 (v25,v26,o0_0,o0_1,o1_0,o2,c2,o3,o4,o5,o6,c6,o7,c7,o8,o9,o10)=>by kernel_rfl
def zf5 (L0:zbN→Option (zb × Unit)):(zb × Unit)→Option (zb × Unit):=fun (x0,()) =>
  Option.bind (zdr (x0.2.2.2.1,())) fun q0=>Option.bind (zgk (x0.2.2.2.2.1,())) fun q1=>Option.bind (zeZ (x0.2.2.2.2.2.1,())) fun q2=>Option.bind (zhl (x0.2.2.1,())) fun q3=>L0 (((List.length q3.1):Int),0,x0.1,x0.2.1,0,q3.1,0,q0.1,q1.1,q2.1,[],0,[],0,[],[],[])
def qv:(zb × Unit)→Option (zb × Unit):=zf5 (zhD K0)
abbrev zpD:Fun:=⟨49,(ch [zu]),(ch [zu]),3,qv⟩
theorem zyG:Sq zpD:=ml1 (d:=true) (S:=fun K=>zf5 (zhD K)) Tryz.func49 (by kernel_rfl) (fun K=>tr1 (T:=zf5) (zvZ K K) fun (x0,())=>by kernel_rfl) rfl
def vY:(zg × (zg × Unit))→Option (Bool × Unit):=fun (x0,x1,()) =>
  Option.bind (zhs (x0.1,x1.1,())) fun q0=>bif q0.1 then Option.bind (zhu (x0.2.1,x1.2.1,())) fun q1=>bif q1.1 then Option.bind (zhw (x0.2.2.1,x1.2.2.1,())) fun q2=>bif q2.1 then Option.bind (zhy (x0.2.2.2.1,x1.2.2.2.1,())) fun q3=>bif q3.1 then Option.bind (zgn (x0.2.2.2.2.1,x1.2.2.2.2.1,())) fun q4=>bif q4.1 then Option.bind (zjG (x0.2.2.2.2.2.1,x1.2.2.2.2.2.1,())) fun q5=>bif q5.1 then Option.bind (ziz (x0.2.2.2.2.2.2.1,x1.2.2.2.2.2.2.1,())) fun q6=>bif q6.1 then bif eqI (.arr 4 tU) x0.2.2.2.2.2.2.2.1 x1.2.2.2.2.2.2.2.1 then bif eqI (.arr 4 tU) x0.2.2.2.2.2.2.2.2.1 x1.2.2.2.2.2.2.2.2.1 then some (true,()) else some (false,()) else some (false,()) else some (false,()) else some (false,()) else some (false,()) else some (false,()) else some (false,()) else some (false,()) else some (false,())
abbrev zj6:Fun:=⟨131,(ch [zj,zj]),(ch [.bool]),0,vY⟩
theorem zsI:Sq zj6:=ms1 (d:=false) (K:=0) Tryz.func131 (by kernel_rfl) (funext fun (x0,x1,())=>by kernel_rfl)
def zdF:((List Int) × (Int × (Int × ((Option ((Int × (Int × Unit))→Option (Int × (Int × Unit)))) × Unit))))→Option ((List Int) × (Int × Unit)):=fun (x0,x1,x2,x3,()) =>
  Option.bind (qO (x1,())) fun q0=>bif q0.1 then inR x1 (↑4:Int) (Option.bind x3 fun q1=>Option.bind (q1 (ix (0:Int) x0 x1,x2,())) fun q2=>bif q2.2.1 != 0 then some ([0,0,0,0],q2.2.1,()) else inR x1 (↑4:Int) (some (List.set x0 (Int.toNat x1) q2.1,0,()))) else some ([0,0,0,0],1,())
abbrev zpE:Fun:=⟨149,(ch [(.arr 4 tU),tI,tU,(.fn (ch [tU,tU]) (ch [tU,tI]))]),(ch [(.arr 4 tU),tI]),0,zdF⟩
theorem zyH:Sq zpE:=ms1 (d:=false) (K:=0) Tryz.func149 (by kernel_rfl) (funext fun (x0,x1,x2,x3,())=>by kernel_rfl)
abbrev L2:List Fun:=zlc :: zfe :: zj5 :: zhA :: zmu :: zgO :: zfI :: znX :: zec :: zii :: zld :: zrh :: zff :: zfJ :: zri :: zrj :: zfK :: zjt :: zfL :: znY :: znZ :: zfg :: zs8 :: zrl :: zle :: zfh :: zlf :: zfi :: zlg :: zs9 :: zfO :: zgP :: zlh :: zli :: zlj :: zmv :: zlk :: zmw :: zvW :: zpB :: zpC :: zpD :: zj6 :: zpE :: L1
theorem h2:Sds Tryz.prog E0 L2:=⟨zt7,zlQ,zsH,zo0,zvT,znW,znf,zxf,zkk,zqk,zt8,zAy,zlR,zng,zAz,zAA,znh,zrk,zni,zxg,zxh,zlS,zCf,zAB,zt9,zlT,zua,zlU,zub,zCg,znj,zn0,zuc,zud,zue,zvU,zuf,zvV,zDW,zyE,zyF,zyG,zsI,zyH,h1⟩
theorem ms2 {d:Bool} {F:Fun} {f:Go.Func} {K:Nat} (hf:Tryz.prog.funcs[F.id]? = some f) (ho:jL f = true) (h:evF (En E0 d L2) K f F.md F.a F.r = F.spec):Sd Tryz.prog E0 F:=mkS h2 hf ho h
theorem ml2 {d:Bool} {F:Fun} {f:Go.Func} {S:Nat→F.a.I→Option F.r.I} (hf:Tryz.prog.funcs[F.id]? = some f) (ho:jL f = true) (h:∀ K,evF (En E0 d L2) K f F.md F.a F.r = S K) (e:S K0 = F.spec):Sd Tryz.prog E0 F:=mkS h2 hf ho ((h K0).trans e)
abbrev Es2:Env:=En E0 false L2
def ziX:(zr × (zr × Unit))→Option (Int × Unit):=fun (x0,x1,()) =>
  Option.bind (zam (x0.1,x1.1,())) fun q0=>Option.bind (vO (x0.2.1,x1.2.1,())) fun q1=>Option.bind (zcL (zi (zi (List.replicate 2 (0:Int)) 0 q0.1) 1 q1.1,())) fun q2=>some (q2.1,())
abbrev zta:Fun:=⟨226,(ch [zA,zA]),(ch [tI]),0,ziX⟩
theorem zCh:Sq zta:=ms2 (d:=false) (K:=0) Tryz.func226 (by kernel_rfl) (funext fun (x0,x1,())=>by kernel_rfl)
def ya:(ze × Unit)→Option (Bool × Unit):=fun (x0,()) =>
  Option.bind (ql (((List.length x0.2.1):Int),1,8,())) fun q0=>bif q0.1 then Option.bind (qE (x0.2.1,some fun z=>zbK (z.1,some x0,()),())) fun q1=>bif q1.1 then some (false,()) else some (true,()) else some (false,())
abbrev zpF:Fun:=⟨152,(ch [zy]),(ch [.bool]),0,ya⟩
theorem zyI:Sq zpF:=ms2 (d:=false) (K:=0) Tryz.func152 (by kernel_rfl) (funext fun (x0,())=>by kernel_rfl)
def zkl:(ByteArray × ((Option ((Int × Unit)→Option (Bool × Unit))) × Unit))→Option (Bool × Unit):=fun (x0,x1,()) =>
  Option.bind (j7 (List.map (fun b=>(↑(UInt8.toNat b):Int)) (Array.toList (ByteArray.data x0)),some fun z=>zg9 (z.1,some x1,()),())) fun q0=>bif q0.1 then some (false,()) else some (true,())
abbrev zv0:Fun:=⟨245,(ch [.str,(.fn (ch [(.int .u8)]) (ch [.bool]))]),(ch [.bool]),0,zkl⟩
theorem zDX:Sq zv0:=ms2 (d:=false) (K:=0) Tryz.func245 (by kernel_rfl) (funext fun (x0,x1,())=>by kernel_rfl)
abbrev zaZ:Type:=Int × (List qb) × Int × Int × ze × Int
abbrev zug:zaZ→St:=fun (v4,v11,v12,v13,o0,o1)=>St.mk [(1,.bp 0 []),(3,.bp 1 []),(4,.dat tI v4),(11,.dat (.sl zaS) v11),(12,.dat tI v12),(13,.dat tI v13)] [.bx (.dat zy o0) false,.bx (.dat tU o1) false]
def za0 (k0:zaZ→Option (Bool × Unit)):zaZ→Option (Bool × Unit):=fun (v4,v11,v12,v13,o0,o1) =>
  bif decide (v13 < v12) then inR v13 ((List.length v11):Int) (Option.bind (zer ((ix qU v11 v13).1,())) fun q0=>bif q0.2.1 != 0 then some (false,()) else bif decide ((ix qU v11 v13).1 ≤ v4) then some (false,()) else Option.bind (ql ((ix qU v11 v13).2.1,0,wI (((List.length o0.2.2.1):Int) - 1),())) fun q1=>bif q1.1 then Option.bind (zbh (o0.1,q0.1,())) fun q2=>bif q2.1 then k0 ((ix qU v11 v13).1,v11,v12,wI (v13 + 1),o0,wU (↑(BitVec.toNat (BitVec.ofInt (IntKind.bits IntKind.u64) o1 ||| BitVec.ofInt (IntKind.bits IntKind.u64) q0.1.2.1)):Int)) else some (false,()) else some (false,())) else bif decide (((List.length o0.2.2.2.1):Int) ≤ 8) then Option.bind (ye (o0.1,some fun z=>zgj (z.1,some o1,()),())) fun q3=>bif q3.1 then some (false,()) else some (true,()) else some (false,())
abbrev zll (K:Nat):zaZ→Option (Bool × Unit):=zl za0 K
theorem zuh (K:Nat):∀ n,evV Es2 K Tryz.f154 0 (ch [.bool]) [1,1,1,0,1,0] [] zug n = zl za0 n:=zv fun n0 (v4,v11,v12,v13,o0,o1)=>by kernel_rfl
def ziC (L0:zaZ→Option (Bool × Unit)):(ze × Unit)→Option (Bool × Unit):=fun (x0,()) =>
  L0 ((-1),x0.2.2.2.1,((List.length x0.2.2.2.1):Int),0,x0,0)
def vv:(ze × Unit)→Option (Bool × Unit):=ziC (zll K0)
abbrev zn1:Fun:=⟨154,(ch [zy]),(ch [.bool]),0,vv⟩
theorem zxi:Sq zn1:=ml2 (d:=false) (S:=fun K=>ziC (zll K)) Tryz.func154 (by kernel_rfl) (fun K=>tr1 (T:=ziC) (zuh K K) fun (x0,())=>by kernel_rfl) rfl
abbrev za1:Type:=Int × (List zah) × Int × Int
abbrev zui:za1→St:=fun (v3,v23,v24,v25)=>St.mk [(3,.dat tU v3),(23,.dat (.sl zcJ) v23),(24,.dat tI v24),(25,.dat tI v25)] []
def zdy (k0:za1→Option (Bool × Unit)):za1→Option (Bool × Unit):=fun (v3,v23,v24,v25) =>
  bif decide (v25 < v24) then inR v25 ((List.length v23):Int) (bif decide ((ix qC v23 v25).2.2.2.2.2.1 > v3) then some (false,()) else Option.bind (zhb (ix qC v23 v25,())) fun q0=>Option.bind (qE (q0.1,some zdw,())) fun q1=>bif q1.1 then some (false,()) else k0 (wU (v3 - (ix qC v23 v25).2.2.2.2.2.1),v23,v24,wI (v25 + 1))) else some (true,())
abbrev zgv (K:Nat):za1→Option (Bool × Unit):=zl zdy K
theorem zuj (K:Nat):∀ n,evV Es2 K Tryz.f155 0 (ch [.bool]) [1,1,1,0,1,0] [] zui n = zl zdy n:=zv fun n0 (v3,v23,v24,v25)=>by kernel_rfl
def ze3 (L0:za1→Option (Bool × Unit)):(ze × Unit)→Option (Bool × Unit):=fun (x0,()) =>
  bif ((List.length x0.2.2.2.2.1):Int) != ((List.length x0.1):Int) then some (false,()) else bif decide (0 < ((List.length x0.2.2.2.2.1):Int)) then bif decide ((ix qC x0.2.2.2.2.1 0).1 < 1) then some (false,()) else L0 (4611686018427387904,x0.2.2.2.2.1,((List.length x0.2.2.2.2.1):Int),0) else none
def vw:(ze × Unit)→Option (Bool × Unit):=ze3 (zgv K0)
abbrev zn2:Fun:=⟨155,(ch [zy]),(ch [.bool]),0,vw⟩
theorem zxj:Sq zn2:=ml2 (d:=false) (S:=fun K=>ze3 (zgv K)) Tryz.func155 (by kernel_rfl) (fun K=>tr1 (T:=ze3) (zuj K K) fun (x0,())=>by kernel_rfl) rfl
def zfr:((List zg) × ((Option ((zg × Unit)→Option (Bool × Unit))) × Unit))→Option (Bool × Unit):=fun (x0,x1,()) =>
  Option.bind (jN (x0,some fun z=>zba (z.1,some x1,()),())) fun q0=>bif q0.1 then some (false,()) else some (true,())
abbrev zj7:Fun:=⟨82,(ch [(.sl zj),(.fn (ch [zj]) (ch [.bool]))]),(ch [.bool]),0,zfr⟩
theorem zsJ:Sq zj7:=ms2 (d:=false) (K:=0) Tryz.func82 (by kernel_rfl) (funext fun (x0,x1,())=>by kernel_rfl)
abbrev zcT:Type:=(List z9) × (List z9) × Int × Int
abbrev zxk:zcT→St:=fun (v0,v5,v6,v7)=>St.mk [(0,.dat (.sl zV) v0),(5,.dat (.sl zV) v5),(6,.dat tI v6),(7,.dat tI v7)] []
def zcU (k0:zcT→Option (Bool × Unit)):zcT→Option (Bool × Unit):=fun (v0,v5,v6,v7) =>
  bif decide (v7 < v6) then inR v7 ((List.length v5):Int) (Option.bind (zhB (ix vH v5 v7,())) fun q0=>bif q0.1 then some (false,()) else bif (ix vH v5 v7).1 then Option.bind (zhC (v0,(ix vH v5 v7).2.1,(ix vH v5 v7).2.2.2.1,())) fun q1=>bif q1.1 != v7 then some (false,()) else k0 (v0,v5,v6,wI (v7 + 1)) else k0 (v0,v5,v6,wI (v7 + 1))) else some (true,())
abbrev zn3 (K:Nat):zcT→Option (Bool × Unit):=zl zcU K
theorem zxl (K:Nat):∀ n,evV Es2 K Tryz.f85 0 (ch [.bool]) [1,0,1,0] [] zxk n = zl zcU n:=zv fun n0 (v0,v5,v6,v7)=>by kernel_rfl
def zlm (L0:zcT→Option (Bool × Unit)):((List z9) × Unit)→Option (Bool × Unit):=fun (x0,()) =>
  L0 (x0,x0,((List.length x0):Int),0)
def zln:((List z9) × Unit)→Option (Bool × Unit):=zlm (zn3 K0)
abbrev zrn:Fun:=⟨85,(ch [(.sl zV)]),(ch [.bool]),0,zln⟩
theorem zAE:Sq zrn:=ml2 (d:=false) (S:=fun K=>zlm (zn3 K)) Tryz.func85 (by kernel_rfl) (fun K=>tr1 (T:=zlm) (zxl K K) fun (x0,())=>by kernel_rfl) rfl
def ziY:(zp × Unit)→Option (Bool × Unit):=fun (x0,()) =>
  Option.bind (zeY (x0.2.1,())) fun q0=>bif q0.1 then Option.bind (zeY (x0.2.2.1,())) fun q1=>bif q1.1 then bif x0.2.1 != x0.2.2.1 then Option.bind (zfM (x0.2.2.2.1,())) fun q2=>bif q2.1 then Option.bind (zfM (x0.2.2.2.2.1,())) fun q3=>bif q3.1 then Option.bind (zeu (x0.2.2.2.1,())) fun q4=>bif q4.1 then Option.bind (zeu (x0.2.2.2.2.1,())) fun q5=>bif q5.1 then some (false,()) else some (true,()) else some (true,()) else some (false,()) else some (false,()) else some (false,()) else some (false,()) else some (false,())
abbrev ztb:Fun:=⟨189,(ch [zw]),(ch [.bool]),0,ziY⟩
theorem zCi:Sq ztb:=ms2 (d:=false) (K:=0) Tryz.func189 (by kernel_rfl) (funext fun (x0,())=>by kernel_rfl)
def zfP:(Int × (Int × (Int × Unit)))→Option (Int × (Int × Unit)):=fun (x0,x1,x2,()) =>
  bif x0 != 1 then bif x0 != 2 then some (0,1,()) else bif x1 == 0 then some (0,1,()) else bif x2 == 0 then some (0,1,()) else Option.bind (zeB (x1,x2,())) fun q0=>bif q0.2.1 != 0 then some (0,q0.2.1,()) else bif x0 == 2 then some (x1,0,()) else some (q0.1,0,()) else bif x1 == 0 then some (0,1,()) else bif x2 == 0 then some (0,1,()) else Option.bind (zeB (x1,x2,())) fun q1=>bif q1.2.1 != 0 then some (0,q1.2.1,()) else bif x0 == 2 then some (x1,0,()) else some (q1.1,0,())
abbrev ztc:Fun:=⟨263,(ch [tI,tU,tU]),(ch [tU,tI]),0,zfP⟩
theorem zCj:Sq ztc:=ms2 (d:=false) (K:=0) Tryz.func263 (by kernel_rfl) (funext fun (x0,x1,x2,())=>by kernel_rfl)
def zf6:(zF × (zF × Unit))→Option (Int × Unit):=fun (x0,x1,()) =>
  Option.bind (vO (x0.1,x1.1,())) fun q0=>Option.bind (zam (x0.2.1,x1.2.1,())) fun q1=>Option.bind (zcL (zi (zi (List.replicate 2 (0:Int)) 0 q0.1) 1 q1.1,())) fun q2=>some (q2.1,())
abbrev zpG:Fun:=⟨194,(ch [zt,zt]),(ch [tI]),0,zf6⟩
theorem zyJ:Sq zpG:=ms2 (d:=false) (K:=0) Tryz.func194 (by kernel_rfl) (funext fun (x0,x1,())=>by kernel_rfl)
def zfs:((List zn) × ((Option ((zn × Unit)→Option (Bool × Unit))) × Unit))→Option (Bool × Unit):=fun (x0,x1,()) =>
  Option.bind (jO (x0,some fun z=>zbe (z.1,some x1,()),())) fun q0=>bif q0.1 then some (false,()) else some (true,())
abbrev zj8:Fun:=⟨93,(ch [(.sl zm),(.fn (ch [zm]) (ch [.bool]))]),(ch [.bool]),0,zfs⟩
theorem zsK:Sq zj8:=ms2 (d:=false) (K:=0) Tryz.func93 (by kernel_rfl) (funext fun (x0,x1,())=>by kernel_rfl)
def zcC:((List zF) × ((Option ((zF × Unit)→Option (Bool × Unit))) × Unit))→Option (Bool × Unit):=fun (x0,x1,()) =>
  Option.bind (jP (x0,some fun z=>zbf (z.1,some x1,()),())) fun q0=>bif q0.1 then some (false,()) else some (true,())
abbrev zj9:Fun:=⟨97,(ch [(.sl zt),(.fn (ch [zt]) (ch [.bool]))]),(ch [.bool]),0,zcC⟩
theorem zsL:Sq zj9:=ms2 (d:=false) (K:=0) Tryz.func97 (by kernel_rfl) (funext fun (x0,x1,())=>by kernel_rfl)
def yY:((List Int) × ((Option ((Int × Unit)→Option (Bool × Unit))) × Unit))→Option (Bool × Unit):=fun (x0,x1,()) =>
  Option.bind (qE (x0,some fun z=>zcz (z.1,some x1,()),())) fun q0=>bif q0.1 then some (false,()) else some (true,())
abbrev zmy:Fun:=⟨99,(ch [(.sl tI),(.fn (ch [tI]) (ch [.bool]))]),(ch [.bool]),0,yY⟩
theorem zv1:Sq zmy:=ms2 (d:=false) (K:=0) Tryz.func99 (by kernel_rfl) (funext fun (x0,x1,())=>by kernel_rfl)
def vQ:(qb × ((Option qN) × ((Option Int) × Unit)))→Option (Bool × Unit):=fun (x0,x1,x2,()) =>
  Option.bind x1 fun q0=>Option.bind (zdE (q0.2.1,x0,())) fun q1=>bif q1.1 then Option.bind x1 fun q2=>Option.bind x2 fun q3=>Option.bind (zfN (q2,x0.1,q3,())) fun q4=>bif q4.1 then some (true,()) else some (false,()) else some (false,())
abbrev zmz:Fun:=⟨200,(ch [zW,(.ptr qe),(.ptr tI)]),(ch [.bool]),0,vQ⟩
theorem zv2:Sq zmz:=ms2 (d:=false) (K:=0) Tryz.func200 (by kernel_rfl) (funext fun (x0,x1,x2,())=>by kernel_rfl)
def zgw:((List z9) × ((Option ((z9 × Unit)→Option (Bool × Unit))) × Unit))→Option (Bool × Unit):=fun (x0,x1,()) =>
  Option.bind (j8 (x0,some fun z=>zbE (z.1,some x1,()),())) fun q0=>bif q0.1 then some (false,()) else some (true,())
abbrev zlo:Fun:=⟨102,(ch [(.sl zV),(.fn (ch [zV]) (ch [.bool]))]),(ch [.bool]),0,zgw⟩
theorem zuk:Sq zlo:=ms2 (d:=false) (K:=0) Tryz.func102 (by kernel_rfl) (funext fun (x0,x1,())=>by kernel_rfl)
def yx:((List qc) × ((Option ((qc × Unit)→Option (Bool × Unit))) × Unit))→Option (Bool × Unit):=fun (x0,x1,()) =>
  Option.bind (jk (x0,some fun z=>zbG (z.1,some x1,()),())) fun q0=>bif q0.1 then some (false,()) else some (true,())
abbrev zlp:Fun:=⟨104,(ch [(.sl zU),(.fn (ch [zU]) (ch [.bool]))]),(ch [.bool]),0,yx⟩
theorem zul:Sq zlp:=ms2 (d:=false) (K:=0) Tryz.func104 (by kernel_rfl) (funext fun (x0,x1,())=>by kernel_rfl)
def zhE:((List qb) × ((Option ((qb × Unit)→Option (Bool × Unit))) × Unit))→Option (Bool × Unit):=fun (x0,x1,()) =>
  Option.bind (vu (x0,some fun z=>zcA (z.1,some x1,()),())) fun q0=>bif q0.1 then some (false,()) else some (true,())
abbrev zmA:Fun:=⟨106,(ch [(.sl zW),(.fn (ch [zW]) (ch [.bool]))]),(ch [.bool]),0,zhE⟩
theorem zv3:Sq zmA:=ms2 (d:=false) (K:=0) Tryz.func106 (by kernel_rfl) (funext fun (x0,x1,())=>by kernel_rfl)
def ve:(qs × ((Option qN) × ((Option Int) × Unit)))→Option (Bool × Unit):=fun (x0,x1,x2,()) =>
  bif x0.1 then Option.bind x1 fun q0=>Option.bind x2 fun q1=>Option.bind (zfN (q0,x0.2.1,q1,())) fun q2=>bif q2.1 then Option.bind x1 fun q3=>Option.bind (qP (q3,x0.2.2.1,())) fun q4=>bif q4.1 then Option.bind x1 fun q5=>Option.bind (qP (q5,x0.2.2.2.1,())) fun q6=>bif q6.1 then some (true,()) else some (false,()) else some (false,()) else some (false,()) else some (true,())
abbrev zlq:Fun:=⟨109,(ch [z4,(.ptr qe),(.ptr tI)]),(ch [.bool]),0,ve⟩
theorem zum:Sq zlq:=ms2 (d:=false) (K:=0) Tryz.func109 (by kernel_rfl) (funext fun (x0,x1,x2,())=>by kernel_rfl)
def yz:((List qs) × ((Option ((qs × Unit)→Option (Bool × Unit))) × Unit))→Option (Bool × Unit):=fun (x0,x1,()) =>
  Option.bind (jl (x0,some fun z=>zbI (z.1,some x1,()),())) fun q0=>bif q0.1 then some (false,()) else some (true,())
abbrev zlr:Fun:=⟨108,(ch [(.sl z4),(.fn (ch [z4]) (ch [.bool]))]),(ch [.bool]),0,yz⟩
theorem zun:Sq zlr:=ms2 (d:=false) (K:=0) Tryz.func108 (by kernel_rfl) (funext fun (x0,x1,())=>by kernel_rfl)
def qF:((List zp) × ((Option ((zp × Unit)→Option (Bool × Unit))) × Unit))→Option (Bool × Unit):=fun (x0,x1,()) =>
  Option.bind (ja (x0,some fun z=>zbg (z.1,some x1,()),())) fun q0=>bif q0.1 then some (false,()) else some (true,())
abbrev zka:Fun:=⟨111,(ch [(.sl zw),(.fn (ch [zw]) (ch [.bool]))]),(ch [.bool]),0,qF⟩
theorem zsM:Sq zka:=ms2 (d:=false) (K:=0) Tryz.func111 (by kernel_rfl) (funext fun (x0,x1,())=>by kernel_rfl)
abbrev yn:Type:=(Option zbC) × Int × Int × List Int
abbrev zql:yn→St:=fun (v0,v12,v13,o0)=>St.mk [(0,.dat (.ptr vI) v0),(3,.ow 0),(12,.dat tI v12),(13,.dat tI v13)] [.row tI o0 false]
def yo (k0:yn→Option ((List Int) × Unit)):yn→Option ((List Int) × Unit):=fun (v0,v12,v13,o0) =>
  bif decide (v13 < v12) then Option.bind (vP (v0,v13,())) fun q2=>bif q2.1 then bif decide (List.length o0 + List.length (zi (List.replicate 1 (0:Int)) 0 v13) ≤ lim) then k0 (v0,v12,wI (v13 + 1),o0 ++ zi (List.replicate 1 (0:Int)) 0 v13) else none else k0 (v0,v12,wI (v13 + 1),o0) else some (o0,())
abbrev zij (K:Nat):yn→Option ((List Int) × Unit):=zl yo K
theorem zqm (K:Nat):∀ n,evV Es2 K Tryz.f116 0 (ch [(.sl tI)]) [1,1,1,0,1,0] [] zql n = zl yo n:=zv fun n0 (v0,v12,v13,o0)=>by kernel_rfl
def zft (L0:yn→Option ((List Int) × Unit)):((Option zbC) × Unit)→Option ((List Int) × Unit):=fun (x0,()) =>
  Option.bind (zdq (x0,())) fun q0=>bif q0.1 then Option.bind x0 fun q1=>L0 (x0,((List.length q1.1):Int),0,[]) else some ([],())
def zcD:((Option zbC) × Unit)→Option ((List Int) × Unit):=zft (zij K0)
abbrev zkb:Fun:=⟨116,(ch [(.ptr vI)]),(ch [(.sl tI)]),0,zcD⟩
theorem zsN:Sq zkb:=ml2 (d:=false) (S:=fun K=>zft (zij K)) Tryz.func116 (by kernel_rfl) (fun K=>tr1 (T:=zft) (zqm K K) fun (x0,())=>by kernel_rfl) rfl
def zkm:((List zn) × Unit)→Option ((Option zdf) × Unit):=fun (x0,()) =>
  Option.bind (zgu (x0,some zhj,())) fun q0=>some (q0.1,())
abbrev zv4:Fun:=⟨212,(ch [(.sl zm)]),(ch [(.ptr yF)]),0,zkm⟩
theorem zDY:Sq zv4:=ms2 (d:=false) (K:=0) Tryz.func212 (by kernel_rfl) (funext fun (x0,())=>by kernel_rfl)
abbrev yp:Type:=(Option zdf) × Int × Int × List Int
abbrev zqn:yp→St:=fun (v0,v12,v13,o0)=>St.mk [(0,.dat (.ptr yF) v0),(3,.ow 0),(12,.dat tI v12),(13,.dat tI v13)] [.row tI o0 false]
def yq (k0:yp→Option ((List Int) × Unit)):yp→Option ((List Int) × Unit):=fun (v0,v12,v13,o0) =>
  bif decide (v13 < v12) then Option.bind (zed (v0,v13,())) fun q2=>bif q2.1 then bif decide (List.length o0 + List.length (zi (List.replicate 1 (0:Int)) 0 v13) ≤ lim) then k0 (v0,v12,wI (v13 + 1),o0 ++ zi (List.replicate 1 (0:Int)) 0 v13) else none else k0 (v0,v12,wI (v13 + 1),o0) else some (o0,())
abbrev zik (K:Nat):yp→Option ((List Int) × Unit):=zl yq K
theorem zqo (K:Nat):∀ n,evV Es2 K Tryz.f213 0 (ch [(.sl tI)]) [1,1,1,0,1,0] [] zqn n = zl yq n:=zv fun n0 (v0,v12,v13,o0)=>by kernel_rfl
def zfu (L0:yp→Option ((List Int) × Unit)):((Option zdf) × Unit)→Option ((List Int) × Unit):=fun (x0,()) =>
  Option.bind (zds (x0,())) fun q0=>bif q0.1 then Option.bind x0 fun q1=>L0 (x0,((List.length q1.1):Int),0,[]) else some ([],())
def zfv:((Option zdf) × Unit)→Option ((List Int) × Unit):=zfu (zik K0)
abbrev zkc:Fun:=⟨213,(ch [(.ptr yF)]),(ch [(.sl tI)]),0,zfv⟩
theorem zsO:Sq zkc:=ml2 (d:=false) (S:=fun K=>zfu (zik K)) Tryz.func213 (by kernel_rfl) (fun K=>tr1 (T:=zfu) (zqo K K) fun (x0,())=>by kernel_rfl) rfl
def ziZ:((List zp) × Unit)→Option ((Option zbC) × Unit):=fun (x0,()) =>
  Option.bind (yw (x0,some zf1,())) fun q0=>some (q0.1,())
abbrev ztd:Fun:=⟨120,(ch [(.sl zw)]),(ch [(.ptr vI)]),0,ziZ⟩
theorem zCk:Sq ztd:=ms2 (d:=false) (K:=0) Tryz.func120 (by kernel_rfl) (funext fun (x0,())=>by kernel_rfl)
abbrev za2:Type:=Int × (Option ((zg × Unit)→Option ((List Int) × Unit))) × (List zg) × Int × Int × List Int
abbrev zuo:za2→St:=fun (v1,v2,v12,v13,v14,o0)=>St.mk [(1,.dat tI v1),(2,.dat (.fn (.pair zj .unit) (.pair (.arr 4 tU) .unit)) v2),(8,.ow 0),(12,.dat (.sl zj) v12),(13,.dat tI v13),(14,.dat tI v14)] [.row tU o0 false]
def za3 (k0:za2→Option (Int × (Int × Unit))):za2→Option (Int × (Int × Unit)):=fun (v1,v2,v12,v13,v14,o0) =>
  bif decide (v14 < v13) then inR v14 ((List.length v12):Int) (Option.bind v2 fun q0=>Option.bind (q0 (ix za v12 v14,())) fun q1=>inR v1 (↑4:Int) (bif decide (List.length o0 + List.length (zi (List.replicate 1 (0:Int)) 0 (ix (0:Int) q1.1 v1)) ≤ lim) then k0 (v1,v2,v12,v13,wI (v14 + 1),o0 ++ zi (List.replicate 1 (0:Int)) 0 (ix (0:Int) q1.1 v1)) else none)) else Option.bind (ze2 (o0,())) fun q2=>some (q2.1,q2.2.1,())
abbrev zls (K:Nat):za2→Option (Int × (Int × Unit)):=zl za3 K
theorem zup (K:Nat):∀ n,evV Es2 K Tryz.f209 0 (ch [tU,tI]) [1,1,0,1,0] [] zuo n = zl za3 n:=zv fun n0 (v1,v2,v12,v13,v14,o0)=>by kernel_rfl
def ziD (L0:za2→Option (Int × (Int × Unit))):(zb × (Int × ((Option ((zg × Unit)→Option ((List Int) × Unit))) × Unit)))→Option (Int × (Int × Unit)):=fun (x0,x1,x2,()) =>
  L0 (x1,x2,x0.2.1,((List.length x0.2.1):Int),0,[])
def ze4:(zb × (Int × ((Option ((zg × Unit)→Option ((List Int) × Unit))) × Unit)))→Option (Int × Int × Unit):=ziD (zls K0)
abbrev zn4:Fun:=⟨209,(ch [zu,tI,(.fn (ch [zj]) (ch [(.arr 4 tU)]))]),(ch [tU,tI]),0,ze4⟩
theorem zxm:Sq zn4:=ml2 (d:=false) (S:=fun K=>ziD (zls K)) Tryz.func209 (by kernel_rfl) (fun K=>tr1 (T:=ziD) (zup K K) fun (x0,x1,x2,())=>by kernel_rfl) rfl
def zhF:(zb × (zb × Unit))→Option (Bool × Unit):=fun (x0,x1,()) =>
  bif x0.1 == x1.1 then Option.bind (zdu (x0.2.1,x1.2.1,some vY,())) fun q0=>bif q0.1 then Option.bind (zd8 (x0.2.2.1,x1.2.2.1,some zaJ,())) fun q1=>bif q1.1 then Option.bind (zgr (x0.2.2.2.1,x1.2.2.2.1,())) fun q2=>bif q2.1 then Option.bind (zgt (x0.2.2.2.2.1,x1.2.2.2.2.1,())) fun q3=>bif q3.1 then Option.bind (zaJ (x0.2.2.2.2.2.1,x1.2.2.2.2.2.1,())) fun q4=>bif q4.1 then some (true,()) else some (false,()) else some (false,()) else some (false,()) else some (false,()) else some (false,()) else some (false,())
abbrev zro:Fun:=⟨46,(ch [zu,zu]),(ch [.bool]),0,zhF⟩
theorem zAF:Sq zro:=ms2 (d:=false) (K:=0) Tryz.func46 (by kernel_rfl) (funext fun (x0,x1,())=>by kernel_rfl)
def zcp:((List Int) × (Int × (Int × Unit)))→Option ((List Int) × (Int × Unit)):=fun (x0,x1,x2,()) =>
  Option.bind (zdF (x0,x1,x2,some zdU,())) fun q0=>some (q0.1,q0.2.1,())
abbrev zte:Fun:=⟨54,(ch [(.arr 4 tU),tI,tU]),(ch [(.arr 4 tU),tI]),0,zcp⟩
theorem zCl:Sq zte:=ms2 (d:=false) (K:=0) Tryz.func54 (by kernel_rfl) (funext fun (x0,x1,x2,())=>by kernel_rfl)
def zcq:((List Int) × (Int × (Int × Unit)))→Option ((List Int) × (Int × Unit)):=fun (x0,x1,x2,()) =>
  Option.bind (zdF (x0,x1,x2,some zaU,())) fun q0=>some (q0.1,q0.2.1,())
abbrev ztf:Fun:=⟨52,(ch [(.arr 4 tU),tI,tU]),(ch [(.arr 4 tU),tI]),0,zcq⟩
theorem zCm:Sq ztf:=ms2 (d:=false) (K:=0) Tryz.func52 (by kernel_rfl) (funext fun (x0,x1,x2,())=>by kernel_rfl)
abbrev L3:List Fun:=zta :: zpF :: zv0 :: zn1 :: zn2 :: zj7 :: zrn :: ztb :: ztc :: zpG :: zj8 :: zj9 :: zmy :: zmz :: zlo :: zlp :: zmA :: zlq :: zlr :: zka :: zkb :: zv4 :: zkc :: ztd :: zn4 :: zro :: zte :: ztf :: L2
theorem h3:Sds Tryz.prog E0 L3:=⟨zCh,zyI,zDX,zxi,zxj,zsJ,zAE,zCi,zCj,zyJ,zsK,zsL,zv1,zv2,zuk,zul,zv3,zum,zun,zsM,zsN,zDY,zsO,zCk,zxm,zAF,zCl,zCm,h2⟩
theorem ms3 {d:Bool} {F:Fun} {f:Go.Func} {K:Nat} (hf:Tryz.prog.funcs[F.id]? = some f) (ho:jL f = true) (h:evF (En E0 d L3) K f F.md F.a F.r = F.spec):Sd Tryz.prog E0 F:=mkS h3 hf ho h
theorem ml3 {d:Bool} {F:Fun} {f:Go.Func} {S:Nat→F.a.I→Option F.r.I} (hf:Tryz.prog.funcs[F.id]? = some f) (ho:jL f = true) (h:∀ K,evF (En E0 d L3) K f F.md F.a F.r = S K) (e:S K0 = F.spec):Sd Tryz.prog E0 F:=mkS h3 hf ho ((h K0).trans e)
abbrev Es3:Env:=En E0 false L3
abbrev za4:Type:=Int × ze
abbrev zuq:za4→St:=fun (v4,o0)=>St.mk [(1,.bp 0 []),(4,.dat tI v4)] [.bx (.dat zy o0) false]
def zdz (k0:za4→Option (Bool × Unit)):za4→Option (Bool × Unit):=fun (v4,o0) =>
  bif decide (v4 < ((List.length o0.1):Int)) then inR (wI (v4 - 1)) ((List.length o0.1):Int) (inR v4 ((List.length o0.1):Int) (Option.bind (ziX (List.getD o0.1 (Int.toNat (wI (v4 - 1))) (zf zA),ix qz o0.1 v4,())) fun q2=>bif decide (q2.1 ≥ 0) then some (false,()) else k0 (wI (v4 + 1),o0))) else some (true,())
abbrev zgx (K:Nat):za4→Option (Bool × Unit):=zl zdz K
theorem zur (K:Nat):∀ n,evV Es3 K Tryz.f151 0 (ch [.bool]) [1,1,1,0,1,0] [] zuq n = zl zdz n:=zv fun n0 (v4,o0)=>by kernel_rfl
def ze5 (L0:za4→Option (Bool × Unit)):(ze × Unit)→Option (Bool × Unit):=fun (x0,()) =>
  Option.bind (ql (((List.length x0.1):Int),1,8,())) fun q0=>bif q0.1 then bif decide (0 < ((List.length x0.1):Int)) then bif !eqI zA (ix qz x0.1 0) (zf zA) then some (false,()) else Option.bind (ye (x0.1,some zdv,())) fun q1=>bif q1.1 then some (false,()) else L0 (1,x0) else none else some (false,())
def vx:(ze × Unit)→Option (Bool × Unit):=ze5 (zgx K0)
abbrev zn5:Fun:=⟨151,(ch [zy]),(ch [.bool]),0,vx⟩
theorem zxn:Sq zn5:=ml3 (d:=false) (S:=fun K=>ze5 (zgx K)) Tryz.func151 (by kernel_rfl) (fun K=>tr1 (T:=ze5) (zur K K) fun (x0,())=>by kernel_rfl) rfl
def za5:(ByteArray × Unit)→Option (Bool × Unit):=fun (x0,()) =>
  bif decide ((↑(ByteArray.size x0):Int) < 1) then some (false,()) else bif decide ((↑(ByteArray.size x0):Int) > 12) then some (false,()) else bif decide (0 < (↑(ByteArray.size x0):Int)) then Option.bind (zep ((↑(UInt8.toNat (List.getD (Array.toList (ByteArray.data x0)) (Int.toNat 0) 0)):Int),())) fun q0=>bif q0.1 then Option.bind (zkl (x0,some ze0,())) fun q1=>bif q1.1 then some (true,()) else some (false,()) else some (false,()) else none
abbrev zrp:Fun:=⟨180,(ch [.str]),(ch [.bool]),0,za5⟩
theorem zAG:Sq zrp:=ms3 (d:=false) (K:=0) Tryz.func180 (by kernel_rfl) (funext fun (x0,())=>by kernel_rfl)
def zi0:(ByteArray × Unit)→Option (Bool × Unit):=fun (x0,()) =>
  bif decide ((↑(ByteArray.size x0):Int) ≥ 1) then bif decide ((↑(ByteArray.size x0):Int) ≤ 40) then Option.bind (zkl (x0,some zhe,())) fun q0=>bif q0.1 then Option.bind (ze1 (x0,ByteArray.mk #[32],())) fun q1=>bif ByteArray.toList q1.1 == ByteArray.toList x0 then some (true,()) else some (false,()) else some (false,()) else some (false,()) else some (false,())
abbrev ztg:Fun:=⟨257,(ch [.str]),(ch [.bool]),0,zi0⟩
theorem zCn:Sq ztg:=ms3 (d:=false) (K:=0) Tryz.func257 (by kernel_rfl) (funext fun (x0,())=>by kernel_rfl)
def zee:(zp × Unit)→Option (Bool × Unit):=fun (x0,()) =>
  bif x0.1 then Option.bind (ziY (x0,())) fun q0=>bif q0.1 then some (false,()) else some (true,()) else bif !eqI zw x0 (zf zw) then some (true,()) else some (false,())
abbrev zmB:Fun:=⟨188,(ch [zw]),(ch [.bool]),0,zee⟩
theorem zv5:Sq zmB:=ms3 (d:=false) (K:=0) Tryz.func188 (by kernel_rfl) (funext fun (x0,())=>by kernel_rfl)
def zkn:(zn × Unit)→Option (Bool × Unit):=fun (x0,()) =>
  Option.bind (zfP (x0.2.2.2.1,x0.2.2.2.2.2.2.2.1,x0.2.2.2.2.2.2.1,())) fun q0=>bif q0.2.1 == 0 then bif q0.1 == x0.2.2.2.2.2.2.2.2.1 then Option.bind (zjk (x0.2.1,())) fun q1=>bif q1.1 then Option.bind (zjk (x0.2.2.1,())) fun q2=>bif q2.1 then Option.bind (qO (x0.2.2.2.2.1,())) fun q3=>bif q3.1 then Option.bind (qO (x0.2.2.2.2.2.1,())) fun q4=>bif q4.1 then bif x0.2.2.2.2.1 != x0.2.2.2.2.2.1 then bif decide (x0.2.2.2.2.2.2.2.2.2.1 ≥ 0) then some (true,()) else some (false,()) else some (false,()) else some (false,()) else some (false,()) else some (false,()) else some (false,()) else some (false,()) else some (false,())
abbrev zv6:Fun:=⟨192,(ch [zm]),(ch [.bool]),0,zkn⟩
theorem zDZ:Sq zv6:=ms3 (d:=false) (K:=0) Tryz.func192 (by kernel_rfl) (funext fun (x0,())=>by kernel_rfl)
def zi1:(zF × Unit)→Option (Bool × Unit):=fun (x0,()) =>
  bif decide (x0.1 > 4611686018427387904) then some (false,()) else Option.bind (zdl (x0.2.1,())) fun q0=>bif q0.1 then Option.bind (zdl (x0.2.2.1,())) fun q1=>bif q1.1 then Option.bind (zdl (x0.2.2.2.1,())) fun q2=>bif q2.1 then Option.bind (zdl (x0.2.2.2.2.2.2.2.2.2.1,())) fun q3=>bif q3.1 then bif x0.2.2.2.2.1 == 3 then bif eqI zt x0 (x0.1,x0.2.1,x0.2.2.1,x0.2.2.2.1,x0.2.2.2.2.1,(zf zt).2.2.2.2.2.1,(zf zt).2.2.2.2.2.2.1,(zf zt).2.2.2.2.2.2.2.1,(zf zt).2.2.2.2.2.2.2.2.1,x0.2.2.2.2.2.2.2.2.2.1,(zf zt).2.2.2.2.2.2.2.2.2.2) then some (true,()) else some (false,()) else Option.bind (zfP (x0.2.2.2.2.1,x0.2.2.2.2.2.2.2.1,x0.2.2.2.2.2.2.2.2.1,())) fun q4=>bif q4.2.1 == 0 then bif x0.2.2.2.2.2.2.2.2.2.1 == 0 then bif x0.2.2.2.2.2.1 != x0.2.2.2.2.2.2.1 then Option.bind (qO (x0.2.2.2.2.2.1,())) fun q5=>bif q5.1 then Option.bind (qO (x0.2.2.2.2.2.2.1,())) fun q6=>bif q6.1 then some (true,()) else some (false,()) else some (false,()) else some (false,()) else some (false,()) else some (false,()) else some (false,()) else some (false,()) else some (false,()) else some (false,())
abbrev zth:Fun:=⟨193,(ch [zt]),(ch [.bool]),0,zi1⟩
theorem zCo:Sq zth:=ms3 (d:=false) (K:=0) Tryz.func193 (by kernel_rfl) (funext fun (x0,())=>by kernel_rfl)
def zjH:(qN × (Int × Unit))→Option ((Option ((qb × Unit)→Option (Bool × Unit))) × Unit):=fun (x0,x1,()) =>
  some (some fun z=>vQ (z.1,some x0,some x1,()),())
abbrev zpH:Fun:=⟨101,(ch [qe,tI]),(ch [(.fn (ch [zW]) (ch [.bool]))]),0,zjH⟩
theorem zyK:Sq zpH:=ms3 (d:=false) (K:=0) Tryz.func101 (by kernel_rfl) (funext fun (x0,x1,())=>by kernel_rfl)
end
end Go.Proofs.YtokcjmkikhgkeaaGreatDoor
end
section
namespace Go.Proofs.YtokcjmkikhgkeaaGreatDoor
open Go.Ev
noncomputable section
abbrev vf:Type:=(List zg) × Int × Int × qN
abbrev zus:vf→St:=fun (v10,v11,v12,o0)=>St.mk [(1,.bp 0 []),(10,.dat (.sl zj) v10),(11,.dat tI v11),(12,.dat tI v12)] [.bx (.dat qe o0) true]
abbrev zdA:Type:=(List zg) × Int × Int × qN
abbrev zut:zdA→St:=fun (v10,v11,v12,o0)=>St.mk [(1,.bp 0 []),(10,.dat (.sl zj) v10),(11,.dat tI v11),(12,.dat tI v12)] [.bx (.dat qe o0) false]
def qS (k1:vf→Option (Bool × Unit)):vf→Option (Bool × Unit):=fun (v10,v11,v12,o0) =>
  bif decide (v12 < v11) then inR v12 ((List.length v10):Int) (Option.bind (yx ((ix za v10 v12).2.2.1,some fun z=>zaY (z.1,some o0,()),())) fun q3=>bif q3.1 then Option.bind (yz ((ix za v10 v12).2.2.2.1,some fun z=>ve (z.1,some o0,some v12,()),())) fun q4=>bif q4.1 then Option.bind (qF ((ix za v10 v12).2.2.2.2.1,some fun z=>qD (z.1,some o0,()),())) fun q5=>bif q5.1 then k1 (v10,v11,wI (v12 + 1),o0) else some (false,()) else Option.bind (qF ((ix za v10 v12).2.2.2.2.1,some fun z=>qD (z.1,some o0,()),())) fun q6=>bif q6.1 then some (false,()) else some (false,()) else Option.bind (yz ((ix za v10 v12).2.2.2.1,some fun z=>ve (z.1,some o0,some v12,()),())) fun q7=>bif q7.1 then Option.bind (qF ((ix za v10 v12).2.2.2.2.1,some fun z=>qD (z.1,some o0,()),())) fun q8=>bif q8.1 then some (false,()) else some (false,()) else Option.bind (qF ((ix za v10 v12).2.2.2.2.1,some fun z=>qD (z.1,some o0,()),())) fun q9=>bif q9.1 then some (false,()) else some (false,())) else some (true,())
theorem zuu (K:Nat):∀ n,evV Es3 K Tryz.f38 0 (ch [.bool]) [1,0,1,0] [] zus n = zl qS n:=zv fun n1 (v10,v11,v12,o0)=>by kernel_rfl
def zlt (k1:vf→Option (Bool × Unit)):zdA→Option (Bool × Unit):=fun (v10,v11,v12,o0) =>
  bif decide (v12 < v11) then inR v12 ((List.length v10):Int) (Option.bind (yx ((ix za v10 v12).2.2.1,some fun z=>zaY (z.1,some o0,()),())) fun q0=>bif q0.1 then Option.bind (yz ((ix za v10 v12).2.2.2.1,some fun z=>ve (z.1,some o0,some v12,()),())) fun q1=>bif q1.1 then Option.bind (qF ((ix za v10 v12).2.2.2.2.1,some fun z=>qD (z.1,some o0,()),())) fun q2=>bif q2.1 then k1 (v10,v11,wI (v12 + 1),o0) else some (false,()) else Option.bind (qF ((ix za v10 v12).2.2.2.2.1,some fun z=>qD (z.1,some o0,()),())) fun q10=>bif q10.1 then some (false,()) else some (false,()) else Option.bind (yz ((ix za v10 v12).2.2.2.1,some fun z=>ve (z.1,some o0,some v12,()),())) fun q11=>bif q11.1 then Option.bind (qF ((ix za v10 v12).2.2.2.2.1,some fun z=>qD (z.1,some o0,()),())) fun q12=>bif q12.1 then some (false,()) else some (false,()) else Option.bind (qF ((ix za v10 v12).2.2.2.2.1,some fun z=>qD (z.1,some o0,()),())) fun q13=>bif q13.1 then some (false,()) else some (false,())) else some (true,())
abbrev zlu (K:Nat):zdA→Option (Bool × Unit):=zvx zlt qS K
theorem zuv (K:Nat):∀ n,evV Es3 K Tryz.f38 0 (ch [.bool]) [1,0,1,0] [] zut n = zvx zlt qS n:=zFp (zuu K) fun n0 (v10,v11,v12,o0)=>by kernel_rfl
def ziE (L0:zdA→Option (Bool × Unit)):(qN × Unit)→Option (Bool × Unit):=fun (x0,()) =>
  L0 (x0.2.1.2.1,((List.length x0.2.1.2.1):Int),0,x0)
def zaK:(qN × Unit)→Option (Bool × Unit):=ziE (zlu K0)
abbrev zn6:Fun:=⟨38,(ch [qe]),(ch [.bool]),0,zaK⟩
theorem zxo:Sq zn6:=ml3 (d:=false) (S:=fun K=>ziE (zlu K)) Tryz.func38 (by kernel_rfl) (fun K=>tr1 (T:=ziE) (zuv K K) fun (x0,())=>by kernel_rfl) rfl
abbrev zbQ:Type:=(List zg) × Int × Int × (List Int) × Int × Int × zg
abbrev zmC:zbQ→St:=fun (v14,v15,v16,v55,v56,v57,o0)=>St.mk [(4,.bp 0 []),(14,.dat (.sl zj) v14),(15,.dat tI v15),(16,.dat tI v16),(55,.dat (.sl tI) v55),(56,.dat tI v56),(57,.dat tI v57)] [.bx (.dat zj o0) false]
abbrev zbR:Type:=(Option zbC) × (List zg) × Int × Int × (List qc) × Int × Int × zg
abbrev zmD:zbR→St:=fun (v5,v14,v15,v16,v24,v25,v26,o0)=>St.mk [(4,.bp 0 []),(5,.dat (.ptr vI) v5),(14,.dat (.sl zj) v14),(15,.dat tI v15),(16,.dat tI v16),(24,.dat (.sl zU) v24),(25,.dat tI v25),(26,.dat tI v26)] [.bx (.dat zj o0) false]
abbrev jx:Type:=(List zg) × Int × Int
abbrev yZ:jx→St:=fun (v14,v15,v16)=>St.mk [(14,.dat (.sl zj) v14),(15,.dat tI v15),(16,.dat tI v16)] []
def zbS (k0:jx→Option (Bool × Unit)) (k2:zbQ→Option (Bool × Unit)):zbQ→Option (Bool × Unit):=fun (v14,v15,v16,v55,v56,v57,o0) =>
  bif decide (v57 < v56) then inR v57 ((List.length v55):Int) (inR (ix (0:Int) v55 v57) ((List.length o0.2.2.2.2.1):Int) (inR (ix (0:Int) v55 v57) ((List.length o0.2.2.2.2.1):Int) (bif decide ((List.getD o0.2.2.2.2.1 (Int.toNat (ix (0:Int) v55 v57)) (zf zw)).2.2.2.1.2.2.1 ≥ ((List.length o0.2.2.1):Int)) then some (false,()) else bif decide ((List.getD o0.2.2.2.2.1 (Int.toNat (ix (0:Int) v55 v57)) (zf zw)).2.2.2.2.1.2.2.1 ≥ ((List.length o0.2.2.1):Int)) then some (false,()) else bif decide ((List.getD o0.2.2.2.2.1 (Int.toNat (ix (0:Int) v55 v57)) (zf zw)).2.2.2.1.2.2.1 ≥ 0) then inR (List.getD o0.2.2.2.2.1 (Int.toNat (ix (0:Int) v55 v57)) (zf zw)).2.2.2.1.2.2.1 ((List.length o0.2.2.1):Int) (bif (List.getD o0.2.2.1 (Int.toNat (List.getD o0.2.2.2.2.1 (Int.toNat (ix (0:Int) v55 v57)) (zf zw)).2.2.2.1.2.2.1) (zf zU)).2.2.1 != 3 then some (false,()) else inR (List.getD o0.2.2.2.2.1 (Int.toNat (ix (0:Int) v55 v57)) (zf zw)).2.2.2.1.2.2.1 ((List.length o0.2.2.1):Int) (bif (List.getD o0.2.2.1 (Int.toNat (List.getD o0.2.2.2.2.1 (Int.toNat (ix (0:Int) v55 v57)) (zf zw)).2.2.2.1.2.2.1) (zf zU)).2.2.2.1 != ix (0:Int) v55 v57 then some (false,()) else k2 (v14,v15,v16,v55,v56,wI (v57 + 1),o0))) else k2 (v14,v15,v16,v55,v56,wI (v57 + 1),o0)))) else k0 (v14,v15,wI (v16 + 1))
abbrev zbT (K:Nat) (k0:jx→Option (Bool × Unit)):zbQ→Option (Bool × Unit):=zl (fun k2=>zbS k0 k2) K
theorem zv7 (K:Nat) (n0:Nat):∀ n,evV Es3 K Tryz.f39 0 (ch [.bool]) [1,0,1,0,0,1,1,0,0,1,1,1,1,0] [n0] zmC n = zl (fun k2=>zbS (evV Es3 K Tryz.f39 0 (ch [.bool]) [1,0,1,0] [] yZ n0) k2) n:=zv fun n2 (v14,v15,v16,v55,v56,v57,o0)=>by kernel_rfl
def y0 (L2:zbQ→Option (Bool × Unit)) (k0:jx→Option (Bool × Unit)) (k1:zbR→Option (Bool × Unit)):zbR→Option (Bool × Unit):=fun (v5,v14,v15,v16,v24,v25,v26,o0) =>
  bif decide (v26 < v25) then inR v26 ((List.length v24):Int) (bif (ix zdd v24 v26).2.2.1 == 3 then Option.bind (vP (v5,(ix zdd v24 v26).2.2.2.1,())) fun q1=>bif q1.1 then inR (ix zdd v24 v26).2.2.2.1 ((List.length o0.2.2.2.2.1):Int) (bif (List.getD o0.2.2.2.2.1 (Int.toNat (ix zdd v24 v26).2.2.2.1) (zf zw)).2.2.2.1.2.2.1 != v26 then some (false,()) else k1 (v5,v14,v15,v16,v24,v25,wI (v26 + 1),o0)) else some (false,()) else k1 (v5,v14,v15,v16,v24,v25,wI (v26 + 1),o0)) else Option.bind (zcD (v5,())) fun q2=>L2 (v14,v15,v16,q2.1,((List.length q2.1):Int),0,o0)
abbrev zbU (K:Nat) (k0:jx→Option (Bool × Unit)):zbR→Option (Bool × Unit):=zl (fun k1=>y0 (zbT K k0) k0 k1) K
theorem zv8 (K:Nat) (n0:Nat):∀ n,evV Es3 K Tryz.f39 0 (ch [.bool]) [1,0,1,0,0,1,1,0,0,1,1,0,1,0] [n0] zmD n = zl (fun k1=>y0 (zbT K (evV Es3 K Tryz.f39 0 (ch [.bool]) [1,0,1,0] [] yZ n0)) (evV Es3 K Tryz.f39 0 (ch [.bool]) [1,0,1,0] [] yZ n0) k1) n:=zgF (B:=fun L2 k1=>y0 L2 (evV Es3 K Tryz.f39 0 (ch [.bool]) [1,0,1,0] [] yZ n0) k1) (V1:=fun n1=>evV Es3 K Tryz.f39 0 (ch [.bool]) [1,0,1,0,0,1,1,0,0,1,1,1,1,0] [n0] zmC K) (W1:=fun k1=>(zbT K (evV Es3 K Tryz.f39 0 (ch [.bool]) [1,0,1,0] [] yZ n0))) (fun n1=>zv7 K n0 K) fun n1 (v5,v14,v15,v16,v24,v25,v26,o0)=>by kernel_rfl
def y3 (L1:zbR→Option (Bool × Unit)) (k0:jx→Option (Bool × Unit)):jx→Option (Bool × Unit):=fun (v14,v15,v16) =>
  bif decide (v16 < v15) then inR v16 ((List.length v14):Int) (Option.bind (yw ((ix za v14 v16).2.2.2.2.1,some vL,())) fun q0=>L1 (q0.1,v14,v15,v16,(ix za v14 v16).2.2.1,((List.length (ix za v14 v16).2.2.1):Int),0,ix za v14 v16)) else some (true,())
abbrev zmE (K:Nat):jx→Option (Bool × Unit):=zl (fun k0=>y3 (zbU K k0) k0) K
theorem zv9 (K:Nat):∀ n,evV Es3 K Tryz.f39 0 (ch [.bool]) [1,0,1,0] [] yZ n = zl (fun k0=>y3 (zbU K k0) k0) n:=zgF (B:=fun L1 k0=>y3 L1 k0) (V1:=fun n0=>evV Es3 K Tryz.f39 0 (ch [.bool]) [1,0,1,0,0,1,1,0,0,1,1,0,1,0] [n0] zmD K) (W1:=fun k0=>(zbU K k0)) (fun n0=>zv8 K n0 K) fun n0 (v14,v15,v16)=>by kernel_rfl
def zjI (L0:jx→Option (Bool × Unit)):(qN × Unit)→Option (Bool × Unit):=fun (x0,()) =>
  L0 (x0.2.1.2.1,((List.length x0.2.1.2.1):Int),0)
def zdG:(qN × Unit)→Option (Bool × Unit):=zjI (zmE K0)
abbrev zpI:Fun:=⟨39,(ch [qe]),(ch [.bool]),0,zdG⟩
theorem zyL:Sq zpI:=ml3 (d:=false) (S:=fun K=>zjI (zmE K)) Tryz.func39 (by kernel_rfl) (fun K=>tr1 (T:=zjI) (zv9 K K) fun (x0,())=>by kernel_rfl) rfl
def zhG:((List zn) × Unit)→Option ((List Int) × Unit):=fun (x0,()) =>
  Option.bind (zkm (x0,())) fun q0=>Option.bind (zfv (q0.1,())) fun q1=>some (q1.1,())
abbrev zrq:Fun:=⟨118,(ch [(.sl zm)]),(ch [(.sl tI)]),0,zhG⟩
theorem zAH:Sq zrq:=ms3 (d:=false) (K:=0) Tryz.func118 (by kernel_rfl) (funext fun (x0,())=>by kernel_rfl)
abbrev zcV:Type:=(List zp) × Int × (List Int) × Int × Int × List Int
abbrev zxp:zcV→St:=fun (v0,v1,v14,v15,v16,o0)=>St.mk [(0,.dat (.sl zw) v0),(1,.dat tI v1),(6,.ow 0),(14,.dat (.sl tI) v14),(15,.dat tI v15),(16,.dat tI v16)] [.row tU o0 false]
def zcW (k0:zcV→Option (Int × (Int × Unit))):zcV→Option (Int × (Int × Unit)):=fun (v0,v1,v14,v15,v16,o0) =>
  bif decide (v16 < v15) then inR v16 ((List.length v14):Int) (inR (ix (0:Int) v14 v16) ((List.length v0):Int) (bif (List.getD v0 (Int.toNat (ix (0:Int) v14 v16)) (zf zw)).2.2.2.1.1 == v1 then inR (ix (0:Int) v14 v16) ((List.length v0):Int) (bif decide (List.length o0 + List.length (zi (List.replicate 1 (0:Int)) 0 (List.getD v0 (Int.toNat (ix (0:Int) v14 v16)) (zf zw)).2.2.2.1.2.1) ≤ lim) then k0 (v0,v1,v14,v15,wI (v16 + 1),o0 ++ zi (List.replicate 1 (0:Int)) 0 (List.getD v0 (Int.toNat (ix (0:Int) v14 v16)) (zf zw)).2.2.2.1.2.1) else none) else k0 (v0,v1,v14,v15,wI (v16 + 1),o0))) else Option.bind (ze2 (o0,())) fun q3=>some (q3.1,q3.2.1,())
abbrev zn7 (K:Nat):zcV→Option (Int × (Int × Unit)):=zl zcW K
theorem zxq (K:Nat):∀ n,evV Es3 K Tryz.f43 0 (ch [tU,tI]) [1,1,1,0,1,0] [] zxp n = zl zcW n:=zv fun n0 (v0,v1,v14,v15,v16,o0)=>by kernel_rfl
def zhH (L0:zcV→Option (Int × (Int × Unit))):((List zp) × (Int × Unit))→Option (Int × (Int × Unit)):=fun (x0,x1,()) =>
  Option.bind (qO (x1,())) fun q0=>bif q0.1 then Option.bind (ziZ (x0,())) fun q1=>Option.bind (zcD (q1.1,())) fun q2=>L0 (x0,x1,q2.1,((List.length q2.1):Int),0,[]) else some (0,1,())
def zhI:((List zp) × Int × Unit)→Option (Int × Int × Unit):=zhH (zn7 K0)
abbrev zrr:Fun:=⟨43,(ch [(.sl zw),tI]),(ch [tU,tI]),0,zhI⟩
theorem zAI:Sq zrr:=ml3 (d:=false) (S:=fun K=>zhH (zn7 K)) Tryz.func43 (by kernel_rfl) (fun K=>tr1 (T:=zhH) (zxq K K) fun (x0,x1,())=>by kernel_rfl) rfl
def zhJ:(zb × (Int × Unit))→Option (Int × (Int × Unit)):=fun (x0,x1,()) =>
  Option.bind (qO (x1,())) fun q0=>bif q0.1 then Option.bind (ze4 (x0,x1,some ziv,())) fun q1=>bif q1.2.1 != 0 then some (0,q1.2.1,()) else Option.bind (ze4 (x0,x1,some ziw,())) fun q2=>bif q2.2.1 != 0 then some (0,q2.2.1,()) else Option.bind (zaU (q1.1,q2.1,())) fun q3=>some (q3.1,q3.2.1,()) else some (0,1,())
abbrev zrs:Fun:=⟨117,(ch [zu,tI]),(ch [tU,tI]),0,zhJ⟩
theorem zAJ:Sq zrs:=ms3 (d:=false) (K:=0) Tryz.func117 (by kernel_rfl) (funext fun (x0,x1,())=>by kernel_rfl)
abbrev L4:List Fun:=zn5 :: zrp :: ztg :: zmB :: zv6 :: zth :: zpH :: zn6 :: zpI :: zrq :: zrr :: zrs :: L3
theorem h4:Sds Tryz.prog E0 L4:=⟨zxn,zAG,zCn,zv5,zDZ,zCo,zyK,zxo,zyL,zAH,zAI,zAJ,h3⟩
theorem ms4 {d:Bool} {F:Fun} {f:Go.Func} {K:Nat} (hf:Tryz.prog.funcs[F.id]? = some f) (ho:jL f = true) (h:evF (En E0 d L4) K f F.md F.a F.r = F.spec):Sd Tryz.prog E0 F:=mkS h4 hf ho h
theorem ml4 {d:Bool} {F:Fun} {f:Go.Func} {S:Nat→F.a.I→Option F.r.I} (hf:Tryz.prog.funcs[F.id]? = some f) (ho:jL f = true) (h:∀ K,evF (En E0 d L4) K f F.md F.a F.r = S K) (e:S K0 = F.spec):Sd Tryz.prog E0 F:=mkS h4 hf ho ((h K0).trans e)
abbrev Es4:Env:=En E0 false L4
def zbV:(qR × Unit)→Option (Bool × Unit):=fun (x0,()) =>
  Option.bind (za5 (x0.1,())) fun q0=>bif q0.1 then Option.bind (za5 (x0.2.1,())) fun q1=>bif q1.1 then Option.bind (ql (x0.2.2.1,0,3,())) fun q2=>bif q2.1 then some (false,()) else some (true,()) else some (true,()) else some (true,())
abbrev zju:Fun:=⟨228,(ch [qQ]),(ch [.bool]),0,zbV⟩
theorem zrt:Sq zju:=ms4 (d:=false) (K:=0) Tryz.func228 (by kernel_rfl) (funext fun (x0,())=>by kernel_rfl)
def ze6:(jc × Unit)→Option (Bool × Unit):=fun (x0,()) =>
  bif x0.1 then Option.bind (za5 (x0.2.1,())) fun q0=>bif q0.1 then bif x0.1 then some (false,()) else bif !ByteArray.toList x0.2.1 == ByteArray.toList (ByteArray.mk #[]) then some (true,()) else some (false,()) else some (true,()) else bif x0.1 then some (false,()) else bif !ByteArray.toList x0.2.1 == ByteArray.toList (ByteArray.mk #[]) then some (true,()) else some (false,())
abbrev zn8:Fun:=⟨179,(ch [qj]),(ch [.bool]),0,ze6⟩
theorem zxr:Sq zn8:=ms4 (d:=false) (K:=0) Tryz.func179 (by kernel_rfl) (funext fun (x0,())=>by kernel_rfl)
def zf7:(qc × Unit)→Option (Bool × Unit):=fun (x0,()) =>
  bif x0.1 then Option.bind (za5 (x0.2.1,())) fun q0=>bif q0.1 then Option.bind (zoR (x0,())) fun q1=>Option.bind (zbL (q1.1,())) fun q2=>bif q2.1 then some (false,()) else some (true,()) else some (true,()) else bif !eqI zU x0 (zf zU) then some (true,()) else some (false,())
abbrev zpJ:Fun:=⟨184,(ch [zU]),(ch [.bool]),0,zf7⟩
theorem zyM:Sq zpJ:=ms4 (d:=false) (K:=0) Tryz.func184 (by kernel_rfl) (funext fun (x0,())=>by kernel_rfl)
def zhK:(qs × Unit)→Option (Bool × Unit):=fun (x0,()) =>
  bif x0.1 then Option.bind (ziB (x0,())) fun q0=>bif q0.1 then Option.bind (zi0 (x0.2.2.2.2.1,())) fun q1=>bif q1.1 then some (false,()) else some (true,()) else some (true,()) else bif !eqI z4 x0 (zf z4) then some (true,()) else some (false,())
abbrev zru:Fun:=⟨186,(ch [z4]),(ch [.bool]),0,zhK⟩
theorem zAK:Sq zru:=ms4 (d:=false) (K:=0) Tryz.func186 (by kernel_rfl) (funext fun (x0,())=>by kernel_rfl)
def zf8:((List zp) × Unit)→Option (Bool × Unit):=fun (x0,()) =>
  Option.bind (ja (x0,some zee,())) fun q0=>bif q0.1 then some (false,()) else some (true,())
abbrev zpK:Fun:=⟨88,(ch [(.sl zw)]),(ch [.bool]),0,zf8⟩
theorem zyN:Sq zpK:=ms4 (d:=false) (K:=0) Tryz.func88 (by kernel_rfl) (funext fun (x0,())=>by kernel_rfl)
abbrev zcX:Type:=Int × (List zn) × Int × Int × List (Int × Int)
abbrev zxs:zcX→St:=fun (v4,v8,v9,v10,o0)=>St.mk [(3,.om 0),(4,.dat tI v4),(8,.dat (.sl zm) v8),(9,.dat tI v9),(10,.dat tI v10)] [.mp tI tI o0]
def zcY (k0:zcX→Option (Bool × Unit)):zcX→Option (Bool × Unit):=fun (v4,v8,v9,v10,o0) =>
  bif decide (v10 < v9) then inR v10 ((List.length v8):Int) (bif (ix qr v8 v10).1 then Option.bind (zkn (ix qr v8 v10,())) fun q0=>bif q0.1 then bif (ix qr v8 v10).1 then bif (ix qr v8 v10).1 then k0 (wI (v4 + 1),v8,v9,wI (v10 + 1),yr tI o0 (ix qr v8 v10).2.2.2.2.2.2.2.2.2.1 (wI (zcc tI (0:Int) o0 (ix qr v8 v10).2.2.2.2.2.2.2.2.2.1 + 1))) else k0 (v4,v8,v9,wI (v10 + 1),o0) else bif !eqI zm (ix qr v8 v10) (zf zm) then some (false,()) else bif (ix qr v8 v10).1 then k0 (wI (v4 + 1),v8,v9,wI (v10 + 1),yr tI o0 (ix qr v8 v10).2.2.2.2.2.2.2.2.2.1 (wI (zcc tI (0:Int) o0 (ix qr v8 v10).2.2.2.2.2.2.2.2.2.1 + 1))) else k0 (v4,v8,v9,wI (v10 + 1),o0) else some (false,()) else bif (ix qr v8 v10).1 then bif (ix qr v8 v10).1 then k0 (wI (v4 + 1),v8,v9,wI (v10 + 1),yr tI o0 (ix qr v8 v10).2.2.2.2.2.2.2.2.2.1 (wI (zcc tI (0:Int) o0 (ix qr v8 v10).2.2.2.2.2.2.2.2.2.1 + 1))) else k0 (v4,v8,v9,wI (v10 + 1),o0) else bif !eqI zm (ix qr v8 v10) (zf zm) then some (false,()) else bif (ix qr v8 v10).1 then k0 (wI (v4 + 1),v8,v9,wI (v10 + 1),yr tI o0 (ix qr v8 v10).2.2.2.2.2.2.2.2.2.1 (wI (zcc tI (0:Int) o0 (ix qr v8 v10).2.2.2.2.2.2.2.2.2.1 + 1))) else k0 (v4,v8,v9,wI (v10 + 1),o0)) else bif ((List.length o0):Int) == v4 then some (true,()) else some (false,())
abbrev zn9 (K:Nat):zcX→Option (Bool × Unit):=zl zcY K
theorem zxt (K:Nat):∀ n,evV Es4 K Tryz.f90 0 (ch [.bool]) [1,1,1,0,1,0] [] zxs n = zl zcY n:=zv fun n0 (v4,v8,v9,v10,o0)=>by kernel_rfl
def zlv (L0:zcX→Option (Bool × Unit)):((List zn) × Unit)→Option (Bool × Unit):=fun (x0,()) =>
  L0 (0,x0,((List.length x0):Int),0,[])
def zlw:((List zn) × Unit)→Option (Bool × Unit):=zlv (zn9 K0)
abbrev zrv:Fun:=⟨90,(ch [(.sl zm)]),(ch [.bool]),0,zlw⟩
theorem zAL:Sq zrv:=ml4 (d:=false) (S:=fun K=>zlv (zn9 K)) Tryz.func90 (by kernel_rfl) (fun K=>tr1 (T:=zlv) (zxt K K) fun (x0,())=>by kernel_rfl) rfl
abbrev zbW:Type:=(List zF) × (List zF) × Int × Int
abbrev zwa:zbW→St:=fun (v0,v5,v6,v7)=>St.mk [(0,.dat (.sl zt) v0),(5,.dat (.sl zt) v5),(6,.dat tI v6),(7,.dat tI v7)] []
def zbX (k0:zbW→Option (Bool × Unit)):zbW→Option (Bool × Unit):=fun (v0,v5,v6,v7) =>
  bif decide (v7 < v6) then inR v7 ((List.length v5):Int) (Option.bind (zi1 (ix zg6 v5 v7,())) fun q0=>bif q0.1 then bif decide (v7 > 0) then inR (wI (v7 - 1)) ((List.length v0):Int) (Option.bind (zf6 (List.getD v0 (Int.toNat (wI (v7 - 1))) (zf zt),ix zg6 v5 v7,())) fun q1=>bif decide (q1.1 ≥ 0) then some (false,()) else k0 (v0,v5,v6,wI (v7 + 1))) else k0 (v0,v5,v6,wI (v7 + 1)) else some (false,())) else some (true,())
abbrev zmF (K:Nat):zbW→Option (Bool × Unit):=zl zbX K
theorem zwb (K:Nat):∀ n,evV Es4 K Tryz.f91 0 (ch [.bool]) [1,0,1,0] [] zwa n = zl zbX n:=zv fun n0 (v0,v5,v6,v7)=>by kernel_rfl
def zjJ (L0:zbW→Option (Bool × Unit)):((List zF) × Unit)→Option (Bool × Unit):=fun (x0,()) =>
  L0 (x0,x0,((List.length x0):Int),0)
def zjK:((List zF) × Unit)→Option (Bool × Unit):=zjJ (zmF K0)
abbrev zpL:Fun:=⟨91,(ch [(.sl zt)]),(ch [.bool]),0,zjK⟩
theorem zyO:Sq zpL:=ml4 (d:=false) (S:=fun K=>zjJ (zmF K)) Tryz.func91 (by kernel_rfl) (fun K=>tr1 (T:=zjJ) (zwb K K) fun (x0,())=>by kernel_rfl) rfl
abbrev zbY:Type:=(List zg) × Int × Int × qN
abbrev zwc:zbY→St:=fun (v10,v11,v12,o0)=>St.mk [(1,.bp 0 []),(10,.dat (.sl zj) v10),(11,.dat tI v11),(12,.dat tI v12)] [.bx (.dat qe o0) false]
def zbZ (k0:zbY→Option (Bool × Unit)):zbY→Option (Bool × Unit):=fun (v10,v11,v12,o0) =>
  bif decide (v12 < v11) then inR v12 ((List.length v10):Int) (Option.bind (zjH (o0,v12,())) fun q0=>Option.bind (zgw ((ix za v10 v12).2.1,some fun z=>zeb (z.1,some q0.1,()),())) fun q1=>bif q1.1 then Option.bind (yx ((ix za v10 v12).2.2.1,some fun z=>zbF (z.1,some q0.1,()),())) fun q2=>bif q2.1 then Option.bind (zhE ((ix za v10 v12).2.2.2.2.2.2.1,q0.1,())) fun q3=>bif q3.1 then k0 (v10,v11,wI (v12 + 1),o0) else some (false,()) else some (false,()) else Option.bind (yx ((ix za v10 v12).2.2.1,some fun z=>zbF (z.1,some q0.1,()),())) fun q4=>bif q4.1 then some (false,()) else some (false,())) else some (true,())
abbrev zmG (K:Nat):zbY→Option (Bool × Unit):=zl zbZ K
theorem zwd (K:Nat):∀ n,evV Es4 K Tryz.f37 0 (ch [.bool]) [1,0,1,0] [] zwc n = zl zbZ n:=zv fun n0 (v10,v11,v12,o0)=>by kernel_rfl
def zjL (L0:zbY→Option (Bool × Unit)):(qN × Unit)→Option (Bool × Unit):=fun (x0,()) =>
  L0 (x0.2.1.2.1,((List.length x0.2.1.2.1):Int),0,x0)
def zdH:(qN × Unit)→Option (Bool × Unit):=zjL (zmG K0)
abbrev zpM:Fun:=⟨37,(ch [qe]),(ch [.bool]),0,zdH⟩
theorem zyP:Sq zpM:=ml4 (d:=false) (S:=fun K=>zjL (zmG K)) Tryz.func37 (by kernel_rfl) (fun K=>tr1 (T:=zjL) (zwd K K) fun (x0,())=>by kernel_rfl) rfl
abbrev zdI:Type:=(List zn) × Int × (List Int) × Int × Int × List Int
abbrev zyQ:zdI→St:=fun (v0,v1,v13,v14,v15,o0)=>St.mk [(0,.dat (.sl zm) v0),(1,.dat tI v1),(6,.ow 0),(13,.dat (.sl tI) v13),(14,.dat tI v14),(15,.dat tI v15)] [.row tU o0 false]
def zdJ (k0:zdI→Option (Int × (Int × Unit))):zdI→Option (Int × (Int × Unit)):=fun (v0,v1,v13,v14,v15,o0) =>
  bif decide (v15 < v14) then inR v15 ((List.length v13):Int) (inR (ix (0:Int) v13 v15) ((List.length v0):Int) (Option.bind (zf0 (List.getD v0 (Int.toNat (ix (0:Int) v13 v15)) (zf zm),())) fun q2=>bif q2.1 == v1 then inR (ix (0:Int) v13 v15) ((List.length v0):Int) (bif decide (List.length o0 + List.length (zi (List.replicate 1 (0:Int)) 0 (List.getD v0 (Int.toNat (ix (0:Int) v13 v15)) (zf zm)).2.2.2.2.2.2.2.2.1) ≤ lim) then k0 (v0,v1,v13,v14,wI (v15 + 1),o0 ++ zi (List.replicate 1 (0:Int)) 0 (List.getD v0 (Int.toNat (ix (0:Int) v13 v15)) (zf zm)).2.2.2.2.2.2.2.2.1) else none) else k0 (v0,v1,v13,v14,wI (v15 + 1),o0))) else Option.bind (ze2 (o0,())) fun q3=>some (q3.1,q3.2.1,())
abbrev zpN (K:Nat):zdI→Option (Int × (Int × Unit)):=zl zdJ K
theorem zyR (K:Nat):∀ n,evV Es4 K Tryz.f42 0 (ch [tU,tI]) [1,1,1,0,1,0] [] zyQ n = zl zdJ n:=zv fun n0 (v0,v1,v13,v14,v15,o0)=>by kernel_rfl
def zi2 (L0:zdI→Option (Int × (Int × Unit))):((List zn) × (Int × Unit))→Option (Int × (Int × Unit)):=fun (x0,x1,()) =>
  Option.bind (qO (x1,())) fun q0=>bif q0.1 then Option.bind (zhG (x0,())) fun q1=>L0 (x0,x1,q1.1,((List.length q1.1):Int),0,[]) else some (0,1,())
def zi3:((List zn) × Int × Unit)→Option (Int × Int × Unit):=zi2 (zpN K0)
abbrev zti:Fun:=⟨42,(ch [(.sl zm),tI]),(ch [tU,tI]),0,zi3⟩
theorem zCp:Sq zti:=ml4 (d:=false) (S:=fun K=>zi2 (zpN K)) Tryz.func42 (by kernel_rfl) (fun K=>tr1 (T:=zi2) (zyR K K) fun (x0,x1,())=>by kernel_rfl) rfl
abbrev L5:List Fun:=zju :: zn8 :: zpJ :: zru :: zpK :: zrv :: zpL :: zpM :: zti :: L4
theorem h5:Sds Tryz.prog E0 L5:=⟨zrt,zxr,zyM,zAK,zyN,zAL,zyO,zyP,zCp,h4⟩
theorem ms5 {d:Bool} {F:Fun} {f:Go.Func} {K:Nat} (hf:Tryz.prog.funcs[F.id]? = some f) (ho:jL f = true) (h:evF (En E0 d L5) K f F.md F.a F.r = F.spec):Sd Tryz.prog E0 F:=mkS h5 hf ho h
theorem ml5 {d:Bool} {F:Fun} {f:Go.Func} {S:Nat→F.a.I→Option F.r.I} (hf:Tryz.prog.funcs[F.id]? = some f) (ho:jL f = true) (h:∀ K,evF (En E0 d L5) K f F.md F.a F.r = S K) (e:S K0 = F.spec):Sd Tryz.prog E0 F:=mkS h5 hf ho ((h K0).trans e)
abbrev Es5:Env:=En E0 false L5
def jF:(ze × Unit)→Option (Bool × Unit):=fun (x0,()) =>
  Option.bind (ql (((List.length x0.2.2.1):Int),1,8,())) fun q0=>bif q0.1 then Option.bind (zax (x0.2.2.1,some zbV,())) fun q1=>bif q1.1 then some (false,()) else Option.bind (zfk (x0,())) fun q2=>Option.bind (zkW (q2.1,())) fun q3=>bif q3.1 then some (true,()) else some (false,()) else some (false,())
abbrev zlx:Fun:=⟨153,(ch [zy]),(ch [.bool]),0,jF⟩
theorem zuw:Sq zlx:=ms5 (d:=false) (K:=0) Tryz.func153 (by kernel_rfl) (funext fun (x0,())=>by kernel_rfl)
def zhL:((List jc) × Unit)→Option (Bool × Unit):=fun (x0,()) =>
  Option.bind (zco (x0,some ze6,())) fun q0=>bif q0.1 then some (false,()) else some (true,())
abbrev zrw:Fun:=⟨84,(ch [(.sl qj)]),(ch [.bool]),0,zhL⟩
theorem zAM:Sq zrw:=ms5 (d:=false) (K:=0) Tryz.func84 (by kernel_rfl) (funext fun (x0,())=>by kernel_rfl)
def zf9:((List qc) × Unit)→Option (Bool × Unit):=fun (x0,()) =>
  Option.bind (jk (x0,some zf7,())) fun q0=>bif q0.1 then some (false,()) else some (true,())
abbrev zpO:Fun:=⟨86,(ch [(.sl zU)]),(ch [.bool]),0,zf9⟩
theorem zyS:Sq zpO:=ms5 (d:=false) (K:=0) Tryz.func86 (by kernel_rfl) (funext fun (x0,())=>by kernel_rfl)
def zhM:((List qs) × Unit)→Option (Bool × Unit):=fun (x0,()) =>
  Option.bind (jl (x0,some zhK,())) fun q0=>bif q0.1 then some (false,()) else some (true,())
abbrev zrx:Fun:=⟨87,(ch [(.sl z4)]),(ch [.bool]),0,zhM⟩
theorem zAN:Sq zrx:=ms5 (d:=false) (K:=0) Tryz.func87 (by kernel_rfl) (funext fun (x0,())=>by kernel_rfl)
abbrev zcZ:Type:=Int × (List zg) × Int × Int × (List (List Int)) × Int × Int × List Int
abbrev zoa:zcZ→St:=fun (v1,v31,v32,v33,v52,v53,v54,o0)=>St.mk [(1,.dat tI v1),(8,.ow 0),(31,.dat (.sl zj) v31),(32,.dat tI v32),(33,.dat tI v33),(52,.dat (.sl (.arr 4 tU)) v52),(53,.dat tI v53),(54,.dat tI v54)] [.row tU o0 false]
abbrev yA:Type:=Int × (List zg) × Int × Int × List Int
abbrev zob:yA→St:=fun (v1,v31,v32,v33,o0)=>St.mk [(1,.dat tI v1),(8,.ow 0),(31,.dat (.sl zj) v31),(32,.dat tI v32),(33,.dat tI v33)] [.row tU o0 false]
def zc0 (k0:yA→Option (Int × (Int × Unit))) (k1:zcZ→Option (Int × (Int × Unit))):zcZ→Option (Int × (Int × Unit)):=fun (v1,v31,v32,v33,v52,v53,v54,o0) =>
  bif decide (v54 < v53) then inR v54 ((List.length v52):Int) (inR v1 (↑4:Int) (bif decide (List.length o0 + List.length (zi (List.replicate 1 (0:Int)) 0 (List.getD (List.getD v52 (Int.toNat v54) (zf (.arr 4 tU))) (Int.toNat v1) (0:Int))) ≤ lim) then k1 (v1,v31,v32,v33,v52,v53,wI (v54 + 1),o0 ++ zi (List.replicate 1 (0:Int)) 0 (List.getD (List.getD v52 (Int.toNat v54) (zf (.arr 4 tU))) (Int.toNat v1) (0:Int))) else none)) else k0 (v1,v31,v32,wI (v33 + 1),o0)
abbrev zc1 (K:Nat) (k0:yA→Option (Int × (Int × Unit))):zcZ→Option (Int × (Int × Unit)):=zl (fun k1=>zc0 k0 k1) K
theorem zxu (K:Nat) (n0:Nat):∀ n,evV Es5 K Tryz.f13 0 (ch [tU,tI]) [1,1,1,1,1,0,1,0,0,1,1,0,0,1,1,1,1,1,0] [n0] zoa n = zl (fun k1=>zc0 (evV Es5 K Tryz.f13 0 (ch [tU,tI]) [1,1,1,1,1,0,1,0] [] zob n0) k1) n:=zv fun n1 (v1,v31,v32,v33,v52,v53,v54,o0)=>by kernel_rfl
def zaL (L1:zcZ→Option (Int × (Int × Unit))) (k0:yA→Option (Int × (Int × Unit))):yA→Option (Int × (Int × Unit)):=fun (v1,v31,v32,v33,o0) =>
  bif decide (v33 < v32) then inR v33 ((List.length v31):Int) (Option.bind (zhI ((ix za v31 v33).2.2.2.2.1,v1,())) fun q2=>bif q2.2.1 != 0 then some (0,q2.2.1,()) else bif decide (List.length o0 + List.length (zi (List.replicate 1 (0:Int)) 0 q2.1) ≤ lim) then L1 (v1,v31,v32,v33,(ix za v31 v33).2.2.2.2.2.1,((List.length (ix za v31 v33).2.2.2.2.2.1):Int),0,o0 ++ zi (List.replicate 1 (0:Int)) 0 q2.1) else none) else Option.bind (ze2 (o0,())) fun q3=>some (q3.1,q3.2.1,())
abbrev zoc (K:Nat):yA→Option (Int × (Int × Unit)):=zl (fun k0=>zaL (zc1 K k0) k0) K
theorem zxv (K:Nat):∀ n,evV Es5 K Tryz.f13 0 (ch [tU,tI]) [1,1,1,1,1,0,1,0] [] zob n = zl (fun k0=>zaL (zc1 K k0) k0) n:=zgF (B:=fun L1 k0=>zaL L1 k0) (V1:=fun n0=>evV Es5 K Tryz.f13 0 (ch [tU,tI]) [1,1,1,1,1,0,1,0,0,1,1,0,0,1,1,1,1,1,0] [n0] zoa K) (W1:=fun k0=>(zc1 K k0)) (fun n0=>zxu K n0 K) fun n0 (v1,v31,v32,v33,o0)=>by kernel_rfl
def zhN (L0:yA→Option (Int × (Int × Unit))):(zb × (Int × Unit))→Option (Int × (Int × Unit)):=fun (x0,x1,()) =>
  Option.bind (qO (x1,())) fun q0=>bif q0.1 then Option.bind (zi3 (x0.2.2.2.1,x1,())) fun q1=>bif q1.2.1 != 0 then some (0,q1.2.1,()) else L0 (x1,x0.2.1,((List.length x0.2.1):Int),0,[q1.1]) else some (0,1,())
def zhO:(zb × Int × Unit)→Option (Int × Int × Unit):=zhN (zoc K0)
abbrev zry:Fun:=⟨13,(ch [zu,tI]),(ch [tU,tI]),0,zhO⟩
theorem zAO:Sq zry:=ml5 (d:=false) (S:=fun K=>zhN (zoc K)) Tryz.func13 (by kernel_rfl) (fun K=>tr1 (T:=zhN) (zxv K K) fun (x0,x1,())=>by kernel_rfl) rfl
abbrev L6:List Fun:=zlx :: zrw :: zpO :: zrx :: zry :: L5
theorem h6:Sds Tryz.prog E0 L6:=⟨zuw,zAM,zyS,zAN,zAO,h5⟩
theorem ms6 {d:Bool} {F:Fun} {f:Go.Func} {K:Nat} (hf:Tryz.prog.funcs[F.id]? = some f) (ho:jL f = true) (h:evF (En E0 d L6) K f F.md F.a F.r = F.spec):Sd Tryz.prog E0 F:=mkS h6 hf ho h
theorem ml6 {d:Bool} {F:Fun} {f:Go.Func} {S:Nat→F.a.I→Option F.r.I} (hf:Tryz.prog.funcs[F.id]? = some f) (ho:jL f = true) (h:∀ K,evF (En E0 d L6) K f F.md F.a F.r = S K) (e:S K0 = F.spec):Sd Tryz.prog E0 F:=mkS h6 hf ho ((h K0).trans e)
abbrev Es6:Env:=En E0 false L6
abbrev zb0:Type:=Int × Int × ze × List (Option ((ze × Unit)→Option (Bool × Unit)))
abbrev zwe:zb0→St:=fun (v6,v7,o0,o1)=>St.mk [(1,.bp 0 []),(5,.ow 1),(6,.dat tI v6),(7,.dat tI v7)] [.bx (.dat zy o0) false,.row (.fn (.pair zy .unit) (.pair .bool .unit)) o1 false]
def zef (k0:zb0→Option (Bool × Unit)):zb0→Option (Bool × Unit):=fun (v6,v7,o0,o1) =>
  bif decide (v7 < v6) then inR v7 ((List.length o1):Int) (Option.bind (List.getD o1 (Int.toNat v7) (zf (.fn (.pair zy .unit) (.pair .bool .unit)))) fun q0=>Option.bind (q0 (o0,())) fun q1=>bif q1.1 then k0 (v6,wI (v7 + 1),o0,o1) else some (false,())) else some (true,())
abbrev zmH (K:Nat):zb0→Option (Bool × Unit):=zl zef K
theorem zwf (K:Nat):∀ n,evV Es6 K Tryz.f55 0 (ch [.bool]) [1,0,1,0] [] zwe n = zl zef n:=zv fun n0 (v6,v7,o0,o1)=>by kernel_rfl
def zjM (L0:zb0→Option (Bool × Unit)):(ze × Unit)→Option (Bool × Unit):=fun (x0,()) =>
  L0 (((List.length (zi (zi (zi (zi (zi (zi (List.replicate 6 (zf (.fn (.pair zy .unit) (.pair .bool .unit)))) 0 (some vx)) 1 (some ya)) 2 (some jF)) 3 (some vv)) 4 (some vw)) 5 (some yQ))):Int),0,x0,[some vx,some ya,some jF,some vv,some vw,some yQ])
def zac:(ze × Unit)→Option (Bool × Unit):=zjM (zmH K0)
abbrev zpP:Fun:=⟨55,(ch [zy]),(ch [.bool]),0,zac⟩
theorem zyT:Sq zpP:=ml6 (d:=false) (S:=fun K=>zjM (zmH K)) Tryz.func55 (by kernel_rfl) (fun K=>tr1 (T:=zjM) (zwf K K) fun (x0,())=>by kernel_rfl) rfl
def zeg:(zg × Unit)→Option (Bool × Unit):=fun (x0,()) =>
  Option.bind (zhL (x0.1,())) fun q0=>bif q0.1 then Option.bind (zln (x0.2.1,())) fun q1=>bif q1.1 then Option.bind (zf9 (x0.2.2.1,())) fun q2=>bif q2.1 then Option.bind (zhM (x0.2.2.2.1,())) fun q3=>bif q3.1 then Option.bind (zf8 (x0.2.2.2.2.1,())) fun q4=>bif q4.1 then some (true,()) else some (false,()) else some (false,()) else some (false,()) else some (false,()) else some (false,())
abbrev zmI:Fun:=⟨83,(ch [zj]),(ch [.bool]),0,zeg⟩
theorem zwg:Sq zmI:=ms6 (d:=false) (K:=0) Tryz.func83 (by kernel_rfl) (funext fun (x0,())=>by kernel_rfl)
abbrev zb1:Type:=Int × Int × (List zg) × Int × Int × qN
abbrev zmJ:zb1→St:=fun (v3,v10,v15,v16,v17,o0)=>St.mk [(1,.bp 0 []),(3,.dat tI v3),(10,.dat tI v10),(15,.dat (.sl zj) v15),(16,.dat tI v16),(17,.dat tI v17)] [.bx (.dat qe o0) false]
abbrev vR:Type:=Int × qN
abbrev zmK:vR→St:=fun (v10,o0)=>St.mk [(1,.bp 0 []),(10,.dat tI v10)] [.bx (.dat qe o0) false]
def zb2 (k0:vR→Option (Bool × Unit)) (k1:zb1→Option (Bool × Unit)):zb1→Option (Bool × Unit):=fun (v3,v10,v15,v16,v17,o0) =>
  bif decide (v17 < v16) then inR v17 ((List.length v15):Int) (inR v3 (↑4:Int) (inR v17 ((List.length o0.1.2.2.2.2.1):Int) (bif decide (List.getD (ix za v15 v17).2.2.2.2.2.2.2.1 (Int.toNat v3) (0:Int) > (ix qC o0.1.2.2.2.2.1 v17).2.2.2.2.2.1) then some (false,()) else k1 (v3,v10,v15,v16,wI (v17 + 1),o0)))) else Option.bind (zhO (o0.2.1,v3,())) fun q0=>Option.bind (zhJ (o0.2.1,v3,())) fun q1=>bif q0.2.1 != 0 then some (false,()) else bif q1.2.1 != 0 then some (false,()) else bif q0.1 != q1.1 then some (false,()) else k0 (wI (v10 + 1),o0)
abbrev zb3 (K:Nat) (k0:vR→Option (Bool × Unit)):zb1→Option (Bool × Unit):=zl (fun k1=>zb2 k0 k1) K
theorem zwh (K:Nat) (n0:Nat):∀ n,evV Es6 K Tryz.f40 0 (ch [.bool]) [1,0,1,0,0,1,1,0,0,1,0,1,0] [n0] zmJ n = zl (fun k1=>zb2 (evV Es6 K Tryz.f40 0 (ch [.bool]) [1,0,1,0] [] zmK n0) k1) n:=zv fun n1 (v3,v10,v15,v16,v17,o0)=>by kernel_rfl
def zb4 (L1:zb1→Option (Bool × Unit)) (k0:vR→Option (Bool × Unit)):vR→Option (Bool × Unit):=fun (v10,o0) =>
  bif decide (v10 < 4) then L1 (v10,v10,o0.2.1.2.1,((List.length o0.2.1.2.1):Int),0,o0) else some (true,())
abbrev zmL (K:Nat):vR→Option (Bool × Unit):=zl (fun k0=>zb4 (zb3 K k0) k0) K
theorem zwi (K:Nat):∀ n,evV Es6 K Tryz.f40 0 (ch [.bool]) [1,0,1,0] [] zmK n = zl (fun k0=>zb4 (zb3 K k0) k0) n:=zgF (B:=fun L1 k0=>zb4 L1 k0) (V1:=fun n0=>evV Es6 K Tryz.f40 0 (ch [.bool]) [1,0,1,0,0,1,1,0,0,1,0,1,0] [n0] zmJ K) (W1:=fun k0=>(zb3 K k0)) (fun n0=>zwh K n0 K) fun n0 (v10,o0)=>by kernel_rfl
def zjN (L0:vR→Option (Bool × Unit)):(qN × Unit)→Option (Bool × Unit):=fun (x0,()) =>
  L0 (0,x0)
def zdK:(qN × Unit)→Option (Bool × Unit):=zjN (zmL K0)
abbrev zpQ:Fun:=⟨40,(ch [qe]),(ch [.bool]),0,zdK⟩
theorem zyU:Sq zpQ:=ml6 (d:=false) (S:=fun K=>zjN (zmL K)) Tryz.func40 (by kernel_rfl) (fun K=>tr1 (T:=zjN) (zwi K K) fun (x0,())=>by kernel_rfl) rfl
abbrev L7:List Fun:=zpP :: zmI :: zpQ :: L6
theorem h7:Sds Tryz.prog E0 L7:=⟨zyT,zwg,zyU,h6⟩
theorem ms7 {d:Bool} {F:Fun} {f:Go.Func} {K:Nat} (hf:Tryz.prog.funcs[F.id]? = some f) (ho:jL f = true) (h:evF (En E0 d L7) K f F.md F.a F.r = F.spec):Sd Tryz.prog E0 F:=mkS h7 hf ho h
theorem ml7 {d:Bool} {F:Fun} {f:Go.Func} {S:Nat→F.a.I→Option F.r.I} (hf:Tryz.prog.funcs[F.id]? = some f) (ho:jL f = true) (h:∀ K,evF (En E0 d L7) K f F.md F.a F.r = S K) (e:S K0 = F.spec):Sd Tryz.prog E0 F:=mkS h7 hf ho ((h K0).trans e)
abbrev Es7:Env:=En E0 false L7
abbrev Ed7:Env:=En E0 true L7
abbrev zb5:Type:=Int × (List zg) × Int × Int × qN
abbrev zwj:zb5→St:=fun (v3,v65,v66,v67,o0)=>St.mk [(1,.bp 0 []),(3,.dat tI v3),(65,.dat (.sl zj) v65),(66,.dat tI v66),(67,.dat tI v67)] [.bx (.dat qe o0) false]
def zeh (k0:zb5→Option (Bool × Unit)):zb5→Option (Bool × Unit):=fun (v3,v65,v66,v67,o0) =>
  bif decide (v67 < v66) then inR v67 ((List.length v65):Int) (inR v67 ((List.length o0.1.2.2.2.2.1):Int) (bif ((List.length (ix za v65 v67).1):Int) != (ix qC o0.1.2.2.2.2.1 v67).1 then some (false,()) else bif ((List.length (ix za v65 v67).2.1):Int) != (ix qC o0.1.2.2.2.2.1 v67).2.1 then some (false,()) else bif ((List.length (ix za v65 v67).2.2.1):Int) != (ix qC o0.1.2.2.2.2.1 v67).2.2.1 then some (false,()) else bif ((List.length (ix za v65 v67).2.2.2.1):Int) != (ix qC o0.1.2.2.2.2.1 v67).2.2.2.1 then some (false,()) else bif ((List.length (ix za v65 v67).2.2.2.2.1):Int) != (ix qC o0.1.2.2.2.2.1 v67).2.2.2.2.1 then some (false,()) else bif ((List.length (ix za v65 v67).2.2.2.2.2.1):Int) != v3 then some (false,()) else bif ((List.length (ix za v65 v67).2.2.2.2.2.2.1):Int) != v3 then some (false,()) else k0 (v3,v65,v66,wI (v67 + 1),o0))) else some (true,())
abbrev zhP (K:Nat):zb5→Option (Bool × Unit):=zl zeh K
theorem zwk (K:Nat):∀ n,evV Es7 K Tryz.f34 0 (ch [.bool]) [1,1,1,0,1,0] [] zwj n = zl zeh n:=zv fun n0 (v3,v65,v66,v67,o0)=>by kernel_rfl
def zga (L0:zb5→Option (Bool × Unit)):(qN × Unit)→Option (Bool × Unit):=fun (x0,()) =>
  Option.bind (zac (x0.1,())) fun q0=>bif q0.1 then bif ((List.length x0.2.1.2.1):Int) != ((List.length x0.1.1):Int) then some (false,()) else bif ((List.length x0.2.1.2.2.2.1):Int) != x0.1.2.2.2.2.2.1 then some (false,()) else bif decide (((List.length x0.2.1.2.2.2.2.1):Int) > x0.1.2.2.2.2.2.2.1) then some (false,()) else bif ((List.length x0.2.1.2.2.2.2.2.1):Int) != ((List.length x0.1.2.1):Int) then some (false,()) else bif decide (x0.2.1.1 > 4611686018427387904) then some (false,()) else L0 (((List.length x0.1.2.2.1):Int),x0.2.1.2.1,((List.length x0.2.1.2.1):Int),0,x0) else some (false,())
def zbq:(qN × Unit)→Option (Bool × Unit):=zga (zhP K0)
abbrev zpR:Fun:=⟨34,(ch [qe]),(ch [.bool]),0,zbq⟩
theorem zyV:Sq zpR:=ml7 (d:=false) (S:=fun K=>zga (zhP K)) Tryz.func34 (by kernel_rfl) (fun K=>tr1 (T:=zga) (zwk K K) fun (x0,())=>by kernel_rfl) rfl
def zbr:(qN × Unit)→Option (Bool × Unit):=fun (x0,()) =>
  Option.bind (zfr (x0.2.1.2.1,some zeg,())) fun q0=>bif q0.1 then some (true,()) else some (false,())
abbrev zpS:Fun:=⟨35,(ch [qe]),(ch [.bool]),0,zbr⟩
theorem zyW:Sq zpS:=ms7 (d:=false) (K:=0) Tryz.func35 (by kernel_rfl) (funext fun (x0,())=>by kernel_rfl)
abbrev zc2:Type:=(Option ((Int × Unit)→Option (Bool × Unit))) × (List (List Int)) × Int × Int × ze
abbrev zxw:zc2→St:=fun (v5,v19,v20,v21,o0)=>St.mk [(2,.bp 0 []),(5,.dat (.fn (.pair tI .unit) (.pair .bool .unit)) v5),(19,.dat (.sl (.sl tI)) v19),(20,.dat tI v20),(21,.dat tI v21)] [.bx (.dat zy o0) false]
def ze7 (k0:zc2→Option (Bool × Unit)):zc2→Option (Bool × Unit):=fun (v5,v19,v20,v21,o0) =>
  bif decide (v21 < v20) then inR v21 ((List.length v19):Int) (bif ((List.length (List.getD v19 (Int.toNat v21) ([]:List Int))):Int) != ((List.length o0.2.2.1):Int) then some (false,()) else Option.bind (qE (List.getD v19 (Int.toNat v21) ([]:List Int),v5,())) fun q1=>bif q1.1 then some (false,()) else inR v21 ((List.length o0.2.2.2.1):Int) (inR (ix qU o0.2.2.2.1 v21).2.1 ((List.length (List.getD v19 (Int.toNat v21) ([]:List Int))):Int) (bif List.getD (List.getD v19 (Int.toNat v21) ([]:List Int)) (Int.toNat (ix qU o0.2.2.2.1 v21).2.1) (0:Int) != 2 then some (false,()) else k0 (v5,v19,v20,wI (v21 + 1),o0)))) else some (true,())
abbrev ziF (K:Nat):zc2→Option (Bool × Unit):=zl ze7 K
theorem zxx (K:Nat):∀ n,evV Es7 K Tryz.f89 0 (ch [.bool]) [1,1,1,0,1,0] [] zxw n = zl ze7 n:=zv fun n0 (v5,v19,v20,v21,o0)=>by kernel_rfl
def zhQ (L0:zc2→Option (Bool × Unit)):(ze × ((List (List Int)) × Unit))→Option (Bool × Unit):=fun (x0,x1,()) =>
  Option.bind (zac (x0,())) fun q0=>bif q0.1 then bif ((List.length x1):Int) != ((List.length x0.2.2.2.1):Int) then some (false,()) else L0 (some zaI,x1,((List.length x1):Int),0,x0) else some (false,())
def zhR:(ze × (List (List Int)) × Unit)→Option (Bool × Unit):=zhQ (ziF K0)
abbrev zrz:Fun:=⟨89,(ch [zy,(.sl (.sl tI))]),(ch [.bool]),0,zhR⟩
theorem zAP:Sq zrz:=ml7 (d:=false) (S:=fun K=>zhQ (ziF K)) Tryz.func89 (by kernel_rfl) (fun K=>tr1 (T:=zhQ) (zxx K K) fun (x0,x1,())=>by kernel_rfl) rfl
abbrev zeE:Type:=(List qb) × Int × Int × ze × List (List Int) × Nat
abbrev zAQ:zeE→St:=fun (v11,v12,v13,o0,o1,c1)=>St.mk [(1,.bp 0 []),(3,.ow 1),(11,.dat (.sl zaS) v11),(12,.dat tI v12),(13,.dat tI v13)] [.bx (.dat zy o0) false,.drow (.sl tI) o1 c1]
def zeF (k0:zeE→Option ((List (List Int)) × Unit)):zeE→Option ((List (List Int)) × Unit):=fun (v11,v12,v13,o0,o1,c1) =>
  bif decide (v13 < v12) then inR v13 ((List.length v11):Int) (bif decide (((List.length o0.2.2.1):Int) ≤ ((List.length o0.2.2.1):Int)) then bif decide (((List.length o0.2.2.1):Int) ≤ (↑lim:Int)) then inR (ix qU v11 v13).2.1 ((List.length (List.replicate (Int.toNat ((List.length o0.2.2.1):Int)) (0:Int))):Int) (bif decide (List.length o1 + List.length [List.set (List.replicate (Int.toNat ((List.length o0.2.2.1):Int)) (0:Int)) (Int.toNat (ix qU v11 v13).2.1) 2] ≤ lim) then bif decide (c1 = List.length o1) then k0 (v11,v12,wI (v13 + 1),o0,o1 ++ [List.set (List.replicate (Int.toNat ((List.length o0.2.2.1):Int)) (0:Int)) (Int.toNat (ix qU v11 v13).2.1) 2],c1 + (0 + 1)) else none else none) else none else none) else bif decide (c1 = List.length o1) then some (o1,()) else none
abbrev zrA (K:Nat):zeE→Option ((List (List Int)) × Unit):=zl zeF K
theorem zAR (K:Nat):∀ n,evV Ed7 K Tryz.f56 4 (ch [(.sl (.sl tI))]) [1,1,1,0,1,0] [] zAQ n = zl zeF n:=zv fun n0 (v11,v12,v13,o0,o1,c1)=>by kernel_rfl
def zko (L0:zeE→Option ((List (List Int)) × Unit)):(ze × Unit)→Option ((List (List Int)) × Unit):=fun (x0,()) =>
  Option.bind (zac (x0,())) fun q0=>bif q0.1 then L0 (x0.2.2.2.1,((List.length x0.2.2.2.1):Int),0,x0,[],0) else some ([],())
def zkp:(ze × Unit)→Option ((List (List Int)) × Unit):=zko (zrA K0)
abbrev zwl:Fun:=⟨56,(ch [zy]),(ch [(.sl (.sl tI))]),4,zkp⟩
theorem zD0:Sq zwl:=ml7 (d:=true) (S:=fun K=>zko (zrA K)) Tryz.func56 (by kernel_rfl) (fun K=>tr1 (T:=zko) (zAR K K) fun (x0,())=>by kernel_rfl) rfl
def zb6:(ze × (Int × Unit))→Option (Bool × Unit):=fun (x0,x1,()) =>
  Option.bind (zac (x0,())) fun q0=>bif q0.1 then Option.bind (ql (x1,0,wI (((List.length x0.1):Int) - 1),())) fun q1=>bif q1.1 then some (true,()) else some (false,()) else some (false,())
abbrev zmM:Fun:=⟨48,(ch [zy,tI]),(ch [.bool]),0,zb6⟩
theorem zwm:Sq zmM:=ms7 (d:=false) (K:=0) Tryz.func48 (by kernel_rfl) (funext fun (x0,x1,())=>by kernel_rfl)
abbrev L8:List Fun:=zpR :: zpS :: zrz :: zwl :: zmM :: L7
theorem h8:Sds Tryz.prog E0 L8:=⟨zyV,zyW,zAP,zD0,zwm,h7⟩
theorem ms8 {d:Bool} {F:Fun} {f:Go.Func} {K:Nat} (hf:Tryz.prog.funcs[F.id]? = some f) (ho:jL f = true) (h:evF (En E0 d L8) K f F.md F.a F.r = F.spec):Sd Tryz.prog E0 F:=mkS h8 hf ho h
theorem ml8 {d:Bool} {F:Fun} {f:Go.Func} {S:Nat→F.a.I→Option F.r.I} (hf:Tryz.prog.funcs[F.id]? = some f) (ho:jL f = true) (h:∀ K,evF (En E0 d L8) K f F.md F.a F.r = S K) (e:S K0 = F.spec):Sd Tryz.prog E0 F:=mkS h8 hf ho ((h K0).trans e)
abbrev Ed8:Env:=En E0 true L8
def zaM:(qN × Unit)→Option (Bool × Unit):=fun (x0,()) =>
  Option.bind (zhR (x0.1,x0.2.1.2.2.1,())) fun q0=>bif q0.1 then Option.bind (zlw (x0.2.1.2.2.2.1,())) fun q1=>bif q1.1 then Option.bind (zjK (x0.2.1.2.2.2.2.1,())) fun q2=>bif q2.1 then Option.bind (zdE (x0.2.1,zf zW,())) fun q3=>bif q3.1 then Option.bind (zfs (x0.2.1.2.2.2.1,some fun z=>zdx (z.1,some x0,()),())) fun q4=>bif q4.1 then Option.bind (zcC (x0.2.1.2.2.2.2.1,some fun z=>zaX (z.1,some x0,()),())) fun q5=>bif q5.1 then Option.bind (yY (x0.2.1.2.2.2.2.2.1,some fun z=>vd (z.1,some x0,()),())) fun q6=>bif q6.1 then some (true,()) else some (false,()) else Option.bind (yY (x0.2.1.2.2.2.2.2.1,some fun z=>vd (z.1,some x0,()),())) fun q7=>bif q7.1 then some (false,()) else some (false,()) else Option.bind (zcC (x0.2.1.2.2.2.2.1,some fun z=>zaX (z.1,some x0,()),())) fun q8=>bif q8.1 then Option.bind (yY (x0.2.1.2.2.2.2.2.1,some fun z=>vd (z.1,some x0,()),())) fun q9=>bif q9.1 then some (false,()) else some (false,()) else Option.bind (yY (x0.2.1.2.2.2.2.2.1,some fun z=>vd (z.1,some x0,()),())) fun q10=>bif q10.1 then some (false,()) else some (false,()) else some (false,()) else some (false,()) else some (false,()) else some (false,())
abbrev zod:Fun:=⟨36,(ch [qe]),(ch [.bool]),0,zaM⟩
theorem zxy:Sq zod:=ms8 (d:=false) (K:=0) Tryz.func36 (by kernel_rfl) (funext fun (x0,())=>by kernel_rfl)
end
end Go.Proofs.YtokcjmkikhgkeaaGreatDoor
end
