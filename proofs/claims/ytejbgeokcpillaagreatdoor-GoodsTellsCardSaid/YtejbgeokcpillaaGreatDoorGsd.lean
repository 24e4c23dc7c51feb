import Derived.Test.YtejbgeokcpillaaGreatDoorGsc
import Derived.Carry
import Derived.OpenShut
import Derived.Test.YtejbgeokcpillaaGreatDoorProg
set_option linter.unusedSimpArgs false
set_option linter.unusedVariables false
section
namespace Go.Ev
open Go.RowKit
section
variable {P:Program} {nt:Up} {F0 F G:FH} {w0 w:World} {st st':St} {m:MM} {a:Act} {E:Env} {v:AV} {u:Value}
def zrl (ids:Nat→Option Nat) (h:List Obj):(b:Ty)→Nat→b.I→List AV→Prop
  | .pair (.sl σ) b,i,x,v :: vs=>(∃ id,v = .ow id ∧ ids i = some id ∧ atN h id = some (mkO σ (bif σ.deep then some (List.length x.1) else none) x.1)) ∧ zrl ids h b (i + 1) x.2 vs
  | .pair a b,i,x,v :: vs=>v = .dat a x.1 ∧ zrl ids h b (i + 1) x.2 vs
  | .unit,_,_,[]=>True
  | _,_,_,_=>False
theorem zrl.ids {ids ids':Nat→Option Nat} {h:List Obj}:∀ {b:Ty} {i:Nat} {x:b.I} {vs:List AV},(∀ f,i ≤ f→ids' f = ids f)→zrl ids h b i x vs→zrl ids' h b i x vs:=by
  intro b
  induction b with
  | unit=>intro i x vs _ ho; cases vs <;> exact ho
  | pair t b _ ihb =>
    intro i x vs hi ho
    cases vs with
    | nil=>cases t <;> exact ho.elim
    | cons v vs =>
      cases t with
      | sl σ =>
        obtain ⟨⟨id,h1,h2,h3⟩,h4⟩:=ho
        exact ⟨⟨id,h1,by rw [hi i (Nat.le_refl _)]; exact h2,h3⟩,ihb (fun f hf=>hi f (by omega)) h4⟩
      | _=>exact ⟨ho.1,ihb (fun f hf=>hi f (by omega)) ho.2⟩
  | _=>intro i x vs _ ho; cases vs <;> exact ho.elim
theorem zrl.heap {ids:Nat→Option Nat} {h h':List Obj}:∀ {b:Ty} {i:Nat} {x:b.I} {vs:List AV},(∀ f id,ids f = some id→atN h' id = atN h id)→zrl ids h b i x vs→zrl ids h' b i x vs:=by
  intro b
  induction b with
  | unit=>intro i x vs _ ho; cases vs <;> exact ho
  | pair t b _ ihb =>
    intro i x vs hi ho
    cases vs with
    | nil=>cases t <;> exact ho.elim
    | cons v vs =>
      cases t with
      | sl σ =>
        obtain ⟨⟨id,h1,h2,h3⟩,h4⟩:=ho
        exact ⟨⟨id,h1,h2,by rw [hi _ _ h2]; exact h3⟩,ihb hi h4⟩
      | _=>exact ⟨ho.1,ihb hi ho.2⟩
  | _=>intro i x vs _ ho; cases vs <;> exact ho.elim
theorem zOI {h h0 h1:List Obj} (hdr:∀ i τ xs k,atN h i = some (.drow τ xs k)→τ.deep = true) {t:Ty} {x:t.I} (hz:zzn h0 t v = some (x,h1)) (l:zad h0 h) :
    (v = .dat t x ∧ t.dl = false ∧ h1 = h0) ∨ ∃ (σ:Ty) (xs:List σ.I) (id:Nat),(⟨t,x⟩:(τ:Ty) × τ.I) = ⟨.sl σ,xs⟩ ∧ v = .ow id ∧ atN h id = some (mkO σ (bif σ.deep then some (List.length xs) else none) xs) ∧ atN h0 id ≠ some .gone ∧ (∃ o,atN h0 id = some o) ∧ h1 = zm h0 id .gone:=by
  cases v with
  | dat τ y =>
    simp only [zzn] at hz
    obtain ⟨hdl,hz⟩:=qz hz
    split at hz
    · rename_i z hc
      cases hz
      obtain ⟨rfl,rfl⟩:=zQ hc
      exact .inl ⟨rfl,hdl,rfl⟩
    · cases hz
  | ow id =>
    simp only [zzn] at hz
    right
    split at hz
    · rename_i τ xs ho
      obtain ⟨hd,hz⟩:=qz hz
      split at hz
      · rename_i z hc
        cases hz
        obtain ⟨e,rfl⟩:=zQ hc
        subst e
        refine ⟨τ,xs,id,rfl,rfl,?_,(by rw [ho]; intro e; cases e),⟨_,ho⟩,rfl⟩
        rw [l.at ho (by intro e; cases e),hd]
        rfl
      · cases hz
    · rename_i τ xs n ho
      split at hz
      · rename_i z hc
        obtain ⟨hn,hz⟩:=za hz
        cases hz
        obtain ⟨e,rfl⟩:=zQ hc
        subst e
        have hat:=l.at ho (by intro e; cases e)
        refine ⟨τ,xs,id,rfl,rfl,?_,(by rw [ho]; intro e; cases e),⟨_,ho⟩,rfl⟩
        rw [hat,hdr _ _ _ _ hat,of_decide_eq_true hn]
        rfl
      · cases hz
    · cases hz
  | _=>cases hz
theorem zFw {h:List Obj} (hdr:∀ i τ xs k,atN h i = some (.drow τ xs k)→τ.deep = true):∀ {b:Ty} {vs:List AV} {x:b.I} {h0 h1:List Obj} (i:Nat),ownC b vs h0 = some (x,h1)→zad h0 h →
    ∃ ids:Nat→Option Nat,zrl ids h b i x vs ∧ zad h1 h ∧ (∀ f id,ids f = some id→i ≤ f ∧ atN h0 id ≠ some .gone ∧ atN h1 id = some .gone ∧ ∃ σ k xs,atN h id = some (mkO σ k xs)) ∧ (∀ j,atN h0 j = some .gone→atN h1 j = some .gone) ∧
      ∀ f f' id,ids f = some id→ids f' = some id→f = f':=by
  intro b
  induction b with
  | unit =>
    intro vs x h0 h1 i hz l
    cases vs with
    | nil=>cases hz; exact ⟨fun _=>none,trivial,l,fun f id e=>(by cases e),fun _ h=>h,fun f f' id e=>(by cases e)⟩
    | cons _ _=>cases hz
  | pair t b _ ihb =>
    intro vs x h0 h1 i hz l
    cases vs with
    | nil=>cases hz
    | cons v vs =>
      simp only [ownC] at hz
      split at hz
      · rename_i y h2 hy
        split at hz
        · rename_i ys h3 hys
          cases hz
          rcases zOI hdr hy l with ⟨rfl,hdl,rfl⟩ | ⟨σ,xs,id,e,rfl,hat,hng,⟨o,ho⟩,rfl⟩
          · obtain ⟨ids,g1,g2,g3,g4,g5⟩:=ihb (i + 1) hys l
            refine ⟨ids,?_,g2,fun f id hf=>⟨by have:=(g3 f id hf).1; omega,(g3 f id hf).2⟩,g4,g5⟩
            cases t with
            | sl σ=>cases hdl
            | _=>exact ⟨rfl,g1⟩
          · cases e
            obtain ⟨ids,g1,g2,g3,g4,g5⟩:=ihb (i + 1) hys (l.gone ho)
            have hid:atN (zm h0 id .gone) id = some .gone:=yQ ho
            have hids:∀ f,i + 1 ≤ f→(if f = i then some id else ids f) = ids f:=fun f hf=>by rw [if_neg (by omega)]
            refine ⟨fun f=>if f = i then some id else ids f,⟨⟨id,rfl,if_pos rfl,hat⟩,g1.ids hids⟩,g2,fun f id' hf=>?_,fun j hj=>?_,fun f f' id' hf hf'=>?_⟩
            · by_cases e:f = i
              · simp only [e,if_true,Option.some.injEq] at hf
                subst hf
                exact ⟨by omega,hng,g4 _ hid,σ,_,_,hat⟩
              · simp only [e,if_false] at hf
                obtain ⟨k1,k2,k3,k4⟩:=g3 f id' hf
                refine ⟨by omega,fun hg=>k2 ?_,k3,k4⟩
                by_cases e2:id = id'
                · rw [← e2]; exact hid
                · rw [qs e2]; exact hg
            · refine g4 j ?_
              by_cases e2:id = j
              · rw [← e2]; exact hid
              · rw [qs e2]; exact hj
            · by_cases e:f = i <;> by_cases e':f' = i
              · omega
              · simp only [e,if_true,Option.some.injEq] at hf
                simp only [e',if_false] at hf'
                subst hf
                exact absurd hid (g3 f' _ hf').2.1
              · simp only [e,if_false] at hf
                simp only [e',if_true,Option.some.injEq] at hf'
                subst hf'
                exact absurd hid (g3 f _ hf).2.1
              · simp only [e,if_false] at hf
                simp only [e',if_false] at hf'
                exact g5 f f' id' hf hf'
        · cases hz
      · cases hz
  | _=>intro vs x h0 h1 i hz l; cases vs <;> cases hz
def MM.ofI (m:MM) (ids:Nat→Option Nat):Nat→Nat→List Nat→Option (Nat × Nat):=fun f=>match ids f with | some id=>m.d id | none=>fun _ _=>none
theorem MM.ofI_some {m:MM} {ids:Nat→Option Nat} {f j:Nat} {p:List Nat} {b:Nat × Nat} (h:m.ofI ids f j p = some b):∃ id,ids f = some id ∧ m.d id j p = some b:=by
  unfold MM.ofI at h
  cases hi:ids f with
  | none=>rw [hi] at h; cases h
  | some id=>rw [hi] at h; exact ⟨id,rfl,h⟩
theorem zMq (h:Rel P nt F0 w0 st m F a w) {ids:Nat→Option Nat}:∀ {b:Ty} {i:Nat} {x:b.I} {vs:List AV} {cs:List Value},zrl ids st.h b i x vs→z4 P st.h m F b vs cs→zj1 P F w (fun f=>(ids f).bind m) (m.ofI ids) b i x cs:=by
  intro b
  induction b with
  | unit =>
    intro i x vs cs ho hv
    cases vs with
    | nil=>exact hv
    | cons _ _=>exact hv.elim
  | pair t b _ ihb =>
    intro i x vs cs ho hv
    cases vs with
    | nil=>exact hv.elim
    | cons v vs =>
      obtain ⟨c,d,rfl,h1,h2⟩:=hv
      cases t with
      | sl σ =>
        obtain ⟨⟨id,rfl,hi,hat⟩,h4⟩:=ho
        obtain ⟨σ',u,e1,rfl,hs,_⟩:=h1
        cases e1
        refine ⟨u,d,rfl,⟨fun j p bk n hp=>?_,?_⟩,ihb h4 h2⟩
        · obtain ⟨id',hi',hp⟩:=MM.ofI_some hp
          rw [hi] at hi'; cases hi'
          obtain ⟨⟨o,g1,g2⟩,_⟩:=h.dok _ _ _ _ _ hp
          rw [hat] at g1
          cases g1
          cases hd:σ.deep with
          | false=>rw [hd] at g2; cases g2
          | true =>
            rw [hd] at g2
            simp only [cond_true,mkO,Obj.deepAt,decide_eq_true_eq] at g2
            exact ⟨rfl,g2⟩
        · have hq:=zM.owAt hat (zrU _ _ _) hs
          show match (ids i).bind m with | some (b,n)=>_ | none=>_
          rw [hi,Option.bind_some]
          cases hmi:m id with
          | none =>
            rw [hmi] at hq
            exact ⟨zH4 (h.obs _ _ hat) hmi,hq.2⟩
          | some bn =>
            obtain ⟨bk,n⟩:=bn
            rw [hmi] at hq
            obtain ⟨cap,g1,g2,g3⟩:=hq
            refine ⟨cap,g1,g2,g3,?_⟩
            have:=ztC (h.obs _ _ hat) hmi
            have hd:m.ofI ids i = m.d id:=by unfold MM.ofI; rw [hi]
            rw [hd]
            exact this
      | _ =>
        obtain ⟨rfl,h4⟩:=ho
        exact ⟨c,d,rfl,h1.2,ihb h4 h2⟩
  | _=>intro i x vs cs ho; cases vs <;> exact ho.elim
theorem zMr (h:Rel P nt F0 w0 st m F a w) {ids:Nat→Option Nat} (hat:∀ f id,ids f = some id→∃ σ k xs,atN st.h id = some (mkO σ k xs)) (hinj:∀ f f' id,ids f = some id→ids f' = some id→f = f'):zHR F w w0.heap.size (fun f=>(ids f).bind m) (m.ofI ids):=by
  refine ⟨fun f b n hf=>?_,fun f j p b n hp=>?_,fun f f' b n n' hf hf'=>?_,fun f j p b n f' j' p' n' hp hp'=>?_,fun f b n f' j p n' hf hp=>?_⟩
  · obtain ⟨id,hi,hf⟩:=Option.bind_eq_some_iff.1 hf
    obtain ⟨σ,k,xs,ho⟩:=hat f id hi
    obtain ⟨el,cs,c,d,_,_,_,hF,_⟩:=ztC (h.obs _ _ ho) hf
    have:=h.rng _ _ _ hf
    exact ⟨this.2.1,this.2.2,hF⟩
  · obtain ⟨id,hi,hp⟩:=MM.ofI_some hp
    have:=h.dok _ _ _ _ _ hp
    exact ⟨this.2.1,this.2.2.1,this.2.2.2.1⟩
  · obtain ⟨id,hi,hf⟩:=Option.bind_eq_some_iff.1 hf
    obtain ⟨id',hi',hf'⟩:=Option.bind_eq_some_iff.1 hf'
    have:=h.inj _ _ _ _ _ hf hf'
    subst this
    exact hinj _ _ _ hi hi'
  · obtain ⟨id,hi,hp⟩:=MM.ofI_some hp
    obtain ⟨id',hi',hp'⟩:=MM.ofI_some hp'
    obtain ⟨rfl,e2,e3⟩:=h.din _ _ _ _ _ _ _ _ _ hp hp'
    exact ⟨hinj _ _ _ hi hi',e2,e3⟩
  · obtain ⟨id,hi,hf⟩:=Option.bind_eq_some_iff.1 hf
    obtain ⟨id',hi',hp⟩:=MM.ofI_some hp
    exact (h.dok _ _ _ _ _ hp).2.2.2.2 _ _ hf
theorem zPA {ρ:Type} {h:List Obj} {σ:Ty} {v:AV} {k:σ.I→List Obj→Option ρ}:zMK h σ v k = (zzn h σ v).bind fun p=>k p.1 p.2:=by
  unfold zMK zzn
  cases v with
  | dat τ x =>
    simp only
    cases τ.dl with
    | true=>rfl
    | false=>simp only [cond_false]; cases qU τ σ x <;> rfl
  | ow id =>
    simp only
    cases atN h id with
    | none=>rfl
    | some o =>
      cases o with
      | row τ xs f =>
        cases f with
        | true=>rfl
        | false =>
          simp only
          cases τ.deep with
          | true=>rfl
          | false=>simp only [cond_false]; cases qU (.sl τ) σ xs <;> rfl
      | drow τ xs n =>
        simp only
        cases qU (.sl τ) σ xs with
        | none=>rfl
        | some x=>simp only; cases decide (n = List.length xs) <;> rfl
      | _=>rfl
  | _=>rfl
theorem zIn {ρ:Type}:∀ {σ:Ty} {vs:List AV} {h:List Obj} {k:σ.I→List Obj→Option ρ},zAR σ vs h k = (ownC σ vs h).bind fun p=>k p.1 p.2:=by
  intro σ
  induction σ with
  | unit=>intro vs h k; cases vs <;> rfl
  | pair a b _ ihb =>
    intro vs h k
    cases vs with
    | nil=>rfl
    | cons v vs =>
      simp only [zAR,ownC,zPA,ihb]
      cases zzn h a v with
      | none=>rfl
      | some p =>
        obtain ⟨x,h1⟩:=p
        simp only [Option.bind_some]
        cases ownC b vs h1 <;> rfl
  | _=>intro vs h k; cases vs <;> rfl
theorem zOJ {md:Nat} {r:Ty} {y:r.I} {vs:List AV} {us:List Value} (h:Rel P nt F0 w0 st m F a w) (hv:jG P st.h m F vs us) (hz:zML md r vs st = some y) :
    ∃ F',F0.grow F' w0.heap.size ∧ F'.ok w ∧ zlQ P F' w w0.heap.size md r y us:=by
  unfold zML at hz
  split at hz
  ·
    rename_i b c v vs
    split at hz
    · rename_i x h1 hx
      split at hz
      · rename_i p hp
        cases hz
        obtain ⟨u,r,rfl,hv1,hv2⟩:=hv
        obtain ⟨id,k,rfl,hat,rfl,hkr⟩:∃ id k,v = .ow id ∧ atN st.h id = some (mkO b k x) ∧ h1 = zm st.h id .gone ∧ (k = none ∨ k = some 0):=by
          unfold zN4 at hx
          split at hx
          · rename_i id
            split at hx
            · rename_i τ xs ho
              split at hx
              · rename_i z hc
                cases hx
                obtain ⟨e,rfl⟩:=zQ hc
                cases e
                exact ⟨id,none,rfl,ho,rfl,.inl rfl⟩
              · cases hx
            · rename_i τ xs n ho
              split at hx
              · rename_i z hc
                obtain ⟨hn,hx⟩:=za hx
                cases hx
                obtain ⟨e,rfl⟩:=zQ hc
                cases e
                have hn:n = 0:=of_decide_eq_true hn
                subst hn
                exact ⟨id,some 0,rfl,ho,rfl,.inr rfl⟩
              · cases hx
            · cases hx
          · cases hx
        obtain ⟨st2fr,st2h⟩:=st
        have l:zad (zm st2h id .gone) st2h:=(zad.refl st2h).gone hat
        obtain ⟨h',e1,e2,e3⟩:=zrk l (show jO false c vs ⟨st2fr,zm st2h id .gone⟩ = some (p.1,p.2) from hp)
        obtain ⟨m',F',g1,g2,g3⟩:=zgf e1 h hv2
        have hat':atN h' id = some (mkO b k x):=by rw [(e3.2 id (yQ hat)).2]; exact hat
        have hq:=zM.owAt hat' (zrU _ _ _) (show zM P h' m' F' (.ow id) u from hv1.ext g3)
        refine ⟨F',g1.gro,g1.fok,?_⟩
        simp only [zlQ]
        refine ⟨u,r,rfl,g2,?_⟩
        cases hmi:m' id with
        | none =>
          rw [hmi] at hq
          exact .inr ⟨zH4 (g1.obs _ _ hat') hmi,hq.2⟩
        | some bn =>
          obtain ⟨bk,n⟩:=bn
          rw [hmi] at hq
          obtain ⟨cap,k1,k2,k3⟩:=hq
          obtain ⟨el,cs,cc,d,f1,f2,f3,f4,f5⟩:=ztC (g1.obs _ _ hat') hmi
          refine .inl ⟨bk,cap,el,cs,cc,d,k3,k2,(g1.rng _ _ _ hmi).2.1,f1,f4,by rw [f2,k1],f3,?_⟩
          rcases hkr with rfl | rfl
          · exact f5
          · exact qc.toL (fun j x c _ _ hx=>by unfold DE at hx; rw [if_neg (by omega)] at hx; exact hx) (show qc (DE P F' w (m'.d id) b 0) 0 x cc from f5)
      · cases hz
    · cases hz
  ·
    rename_i b c c' vs us'
    obtain ⟨hbc,hz⟩:=za hz
    simp only [decide_eq_true_eq] at hbc
    rw [zIn] at hz
    obtain ⟨⟨x,h1⟩,hx,hz⟩:=Option.bind_eq_some_iff.1 hz
    · split at hz
      · rename_i p hp
        cases hz
        obtain ⟨u,r,rfl,hv1,hv2⟩:=hv
        obtain ⟨cs,rfl,hfs⟩:=(show zL P st.h m F (.fld c' vs) u from hv1)
        subst hbc
        obtain ⟨ids,k1,k2,k3,k4,k5⟩:=zFw (fun i τ xs k ho=>(h.drowk ho).2) 0 hx (zad.refl _)
        obtain ⟨st2fr,st2h⟩:=st
        obtain ⟨h',e1,e2,e3⟩:=zrk k2 (show jO false c us' ⟨st2fr,h1⟩ = some (p.1,p.2) from hp)
        obtain ⟨m',F',g1,g2,g3⟩:=zgf e1 h hv2
        have hkeep:∀ f id,ids f = some id→atN h' id = atN st2h id:=fun f id hf=>(e3.2 id (k3 f id hf).2.2.1).2
        refine ⟨F',g1.gro,g1.fok,?_⟩
        simp only [zlQ]
        refine ⟨.agg cs,r,cs,_,_,rfl,g2,rfl,zMq g1 (k1.heap hkeep) (hfs.ext g3),zMr g1 (fun f id hf=>?_) k5⟩
        obtain ⟨σ,k,xs,ho⟩:=(k3 f id hf).2.2.2
        exact ⟨σ,k,xs,by rw [hkeep f id hf]; exact ho⟩
      · cases hz
  ·
    rename_i b c v us'
    rw [zIn] at hz
    obtain ⟨⟨x,h1⟩,hx,hz⟩:=Option.bind_eq_some_iff.1 hz
    · split at hz
      · rename_i p hp
        cases hz
        obtain ⟨u,r,rfl,hv1,hv2⟩:=hv
        obtain ⟨ids,k1,k2,k3,k4,k5⟩:=zFw (fun i τ xs k ho=>(h.drowk ho).2) 0 hx (zad.refl _)
        obtain ⟨⟨id,rfl,hi0,hat0⟩,_⟩:=(show (∃ id,v = .ow id ∧ ids 0 = some id ∧ atN st.h id = some (mkO b _ x.1)) ∧ _ from k1)
        have hT:zbj st.h id = some b:=by rw [zxS hat0,zrU]; rfl
        have hfs:z4 P st.h m F (.pair (.sl b) .unit) [.ow id] [u]:=⟨[u],[],rfl,vR.ofRow hT (show zM P st.h m F (.ow id) u from hv1),rfl⟩
        obtain ⟨st2fr,st2h⟩:=st
        obtain ⟨h',e1,e2,e3⟩:=zrk k2 (show jO false c us' ⟨st2fr,h1⟩ = some (p.1,p.2) from hp)
        obtain ⟨m',F',g1,g2,g3⟩:=zgf e1 h hv2
        have hkeep:∀ f id,ids f = some id→atN h' id = atN st2h id:=fun f id hf=>(e3.2 id (k3 f id hf).2.2.1).2
        refine ⟨F',g1.gro,g1.fok,?_⟩
        simp only [zlQ]
        refine ⟨u,r,_,_,rfl,g2,zMq g1 (k1.heap hkeep) (hfs.ext g3),zMr g1 (fun f id hf=>?_) k5⟩
        obtain ⟨σ,k,xs,ho⟩:=(k3 f id hf).2.2.2
        exact ⟨σ,k,xs,by rw [hkeep f id hf]; exact ho⟩
      · cases hz
  ·
    split at hz
    · rename_i p hp
      cases hz
      obtain ⟨m',F',g1,g2,_⟩:=zgf (x:=p.1) (st':=p.2) hp h hv
      exact ⟨F',g1.gro,g1.fok,g2⟩
    · cases hz
  · cases hz
theorem zOK (hm:P.follows .mixedOrders = true) (hE:EnvOk P G E) {fi:FuncId} {f:Func} (hf:P.funcs[fi]? = some f) {K md:Nat} {a r:Ty} {x:a.I} {y:r.I} (he:evF E K f md a r x = some y)
    {F0:FH} {w:World} {vs:List Value} (hG:G.le F0) (hk:F0.ok w) (hr:RepA P F0 a x vs) :
    Calls P fi vs.toArray w fun e w'=>∃ us F',e = .returned (zto us) ∧ Below w.heap.size w w' ∧ F0.grow F' w.heap.size ∧ F'.ok w' ∧ zlQ P F' w' w.heap.size md r y us:=by
  unfold evF at he
  cases hb:f.body with
  | none=>rw [hb] at he; cases he
  | some c =>
    rw [hb] at he
    simp only at he
    have hE':EnvOk P G { E with nt:=f.ntmps }:=⟨hE.types,hE.funs,hE.glob,hE.ext,hE.hnd⟩
    refine calls_of_wp hf hb ?_
    refine zMp (nt:=⟨f.ntmps,[],F0⟩) (F0:=F0) (w0:=w) (.inr rfl) hm hE' hG rfl c (r:=y) ?_ ⟨_,F0,Rel.enter hk hr f.ntmps⟩ he
    rintro e st a' w' ⟨m,F,h⟩ hfin
    have hdone:(cond ((f.results.toList.map (zd1 { E with nt:=f.ntmps } st)).all Option.isSome) (zML md r ((f.results.toList.map (zd1 { E with nt:=f.ntmps } st)).filterMap id) st) none) = some y →
        a'.defers = [] ∧ ∃ v,(results f a'.tmps).run P w' = .ok v w' ∧ ∃ us F',Ending.returned v = .returned (zto us) ∧ Below w.heap.size w w' ∧ F0.grow F' w.heap.size ∧ F'.ok w' ∧ zlQ P F' w' w.heap.size md r y us:=by
      intro hfin
      obtain ⟨h1,h2⟩:=za hfin
      obtain ⟨us,h3,h4⟩:=zyE hE' h (zne h1)
      obtain ⟨F',g1,g2,g3⟩:=zOJ h h4 h2
      exact ⟨h.dfr,_,h3,us,F',rfl,h.bel,g1,g2,g3⟩
    cases e with
    | normal=>exact hdone hfin
    | ret=>exact hdone hfin
    | exit id=>cases hfin
theorem jG.one {h:List Obj}:∀ {vs:List AV} {us:List Value},jG P h m F vs us→vs.all AV.one = true→zmo P h m F vs us
  | [],_,e,_=>e
  | v :: vs,_,⟨u,r,e,h1,h2⟩,ho=>by
    simp only [List.all_cons,Bool.and_eq_true] at ho
    rw [zl.eq1 (by rintro ws rfl; cases ho.1)] at h1
    exact ⟨u,r,e,h1,jG.one h2 ho.2⟩
theorem zBq:∀ {vs:List AV} {us:List Value} {h:List Obj} {m:MM} {F:FH} {i t:Nat} {v:AV},look (slots vs i) t = some v→jG P h m F vs us→i ≤ t ∧ ∃ u,us[t - i]? = some u ∧ zl P h m F v u
  | [],_,_,_,_,_,_,_,h,_=>by simp [slots,look] at h
  | x :: vs,_,hp,m,F,i,t,v,h,⟨u,r,rfl,h1,h2⟩=>by
    simp only [slots] at h
    by_cases e:i = t
    · subst e
      simp only [look,beq_self,cond_true,Option.some.injEq] at h
      subst h
      exact ⟨Nat.le_refl _,u,by simp,h1⟩
    · simp only [look,zbl e,cond_false] at h
      obtain ⟨g1,u',g2,g3⟩:=zBq h h2
      refine ⟨by omega,u',?_,g3⟩
      rw [show t - i = (t - (i + 1)) + 1 by omega,List.getElem?_cons_succ]
      exact g2
theorem zQd (hm:P.follows .mixedOrders = true) (hE:EnvOk P G E) {fi:FuncId} {f:Func} (hf:P.funcs[fi]? = some f) (hn:(f.name == "runtime.NumGoroutine") = false) (hb':f.body.isNone = false):zQB P G fi (zQK E f):=by
  refine ⟨⟨f,hf,hn,hb'⟩,fun args h h' v he nt F0 w0 fr m F a w vs hG hr hv=>?_⟩
  change ztJ E f (AV × List Obj) args h (fun v h=>some (v,h)) = some (v,h') at he
  unfold ztJ at he
  cases hb:f.body with
  | none=>rw [hb] at he; cases he
  | some c =>
    rw [hb] at he
    simp only at he
    have hE':EnvOk P G (inE E f):=⟨hE.types,hE.funs,hE.glob,hE.ext,hE.hnd⟩
    refine calls_of_wp hf hb ?_
    let up:List (AV × Value):=fr.filterMap (fun p=>(look fr p.1).map fun v=>(v,a.tmps.getD p.1 undef)) ++ nt.up
    have hup:∀ v u,(v,u) ∈ up→zl P h m F v u:=by
      intro v u hv
      rcases List.mem_append.1 hv with hv | hv
      · obtain ⟨p,hp,e⟩:=List.mem_filterMap.1 hv
        obtain ⟨v',h1,h2⟩:=Option.map_eq_some_iff.1 e
        cases h2
        exact hr.fr _ _ h1
      · exact hr.up v u hv
    have hst:Rel P ⟨f.ntmps,up,F⟩ F0 w0 ⟨slots args 0,h⟩ m F { tmps:=vs.toArray ++ Array.replicate (f.ntmps - vs.toArray.size) undef,defers:=[] } w:=by
      refine ⟨by simp; omega,fun t v ht=>?_,hup,.refl F,hr.obs,hr.inj,hr.rng,hr.dok,hr.din,hr.fok,hr.gro,hr.bel,rfl⟩
      obtain ⟨_,u,h2,h3⟩:=zBq ht hv
      rw [Nat.sub_zero] at h2
      have hlt:=(List.getElem?_eq_some_iff.1 h2).1
      have:(vs.toArray ++ Array.replicate (f.ntmps - vs.toArray.size) undef).getD t undef = u:=by
        rw [Array.getD_eq_getD_getElem?,Array.getElem?_append_left (by simpa using hlt)]
        simp [h2]
      rw [this]
      exact h3
    refine zMp (nt:=⟨f.ntmps,up,F⟩) (F0:=F0) (w0:=w0) (.inl rfl) hm hE' hG rfl c (r:=(v,h')) ?_ ⟨m,F,hst⟩ he
    rintro e st a' w' ⟨m',F',h2⟩ hfin
    have hdone:(cond ((f.results.toList.map (zd1 (inE E f) st)).all Option.isSome && ((f.results.toList.map (zd1 (inE E f) st)).filterMap id).all AV.one) (some (unT ((f.results.toList.map (zd1 (inE E f) st)).filterMap id),st.h)) none) = some (v,h') →
        a'.defers = [] ∧ ∃ v1,(results f a'.tmps).run P w' = .ok v1 w' ∧ ∃ u m' F',Ending.returned v1 = .returned u ∧ F.le F' ∧ Rel P nt F0 w0 ⟨fr,h'⟩ m' F' a w' ∧ zl P h' m' F' v u:=by
      intro hfin
      obtain ⟨g1,g2⟩:=za hfin
      rw [Bool.and_eq_true] at g1
      cases g2
      obtain ⟨us,g3,g4⟩:=zyE hE' h2 (zne g1.1)
      refine ⟨h2.dfr,_,g3,_,m',F',rfl,h2.lo,⟨hr.nt,fun t v ht=>?_,fun v u hv=>h2.up v u (List.mem_append.2 (.inr hv)),hr.lo.trans h2.lo,h2.obs,h2.inj,h2.rng,h2.dok,h2.din,h2.fok,h2.gro,h2.bel,hr.dfr⟩,zeg (jG.one g4 g1.2)⟩
      have hmem:∀ (l:List (Nat × AV)),look l t = some v→∃ p ∈ l,p.1 = t:=by
        intro l
        induction l with
        | nil=>intro h; simp [look] at h
        | cons p l ih =>
          intro h
          obtain ⟨k,y⟩:=p
          simp only [look] at h
          cases hb:Nat.beq k t with
          | true=>exact ⟨(k,y),by simp,Nat.eq_of_beq_eq_true hb⟩
          | false=>rw [hb] at h; obtain ⟨p,hp,e⟩:=ih h; exact ⟨p,by simp [hp],e⟩
      obtain ⟨p,hp,rfl⟩:=hmem fr ht
      exact h2.up v _ (List.mem_append.2 (.inl (List.mem_filterMap.2 ⟨p,hp,by rw [ht]; rfl⟩)))
    cases e with
    | normal=>exact hdone hfin
    | ret=>exact hdone hfin
    | exit id=>cases hfin
end
end Go.Ev
end
section
namespace Go.Ev
open Go.RowKit Go.ChangeShapes
def InR:(τ:Ty)→τ.I→Prop
  | .int k,n=>(Lit.int k n).wf = true
  | .str,s=>ByteArray.size s ≤ maxLen
  | .pair a b,x=>InR a x.1 ∧ InR b x.2
  | .st a,x=>InR a x
  | .arr n a,xs=>List.length xs = n ∧ ∀ x ∈ (show List a.I from xs),InR a x
  | .sl a,xs=>List.length xs ≤ maxLen ∧ ∀ x ∈ (show List a.I from xs),InR a x
  | _,_=>True
def Ty.data:Ty→Bool
  | .bool | .int _ | .str | .unit=>true
  | .pair a b=>a.data && b.data
  | .st a=>a.data
  | .arr _ a=>a.data
  | .sl a=>a.data
  | _=>false
mutual
def dbk {H:Type}:DataW H→Nat
  | .slice elems _=>dbkAll elems + 1
  | .agg parts=>dbkAll parts + 1
  | _=>1
def dbkAll {H:Type}:List (DataW H)→Nat
  | []=>0
  | d :: r=>dbk d + dbkAll r
end
def bkI:(τ:Ty)→τ.I→Nat
  | .unit,_=>0
  | .pair a b,x=>bkI a x.1 + bkI b x.2
  | .st a,x=>bkI a x + 1
  | .arr _ a,xs=>(List.map (bkI a) xs).sum + 1
  | .sl a,xs=>(List.map (bkI a) xs).sum + 1
  | _,_=>1
def WtR:(τ:Ty)→τ.I→Prop
  | .str,s=>ByteArray.size s ≤ reachBytes
  | .pair a b,x=>WtR a x.1 ∧ WtR b x.2
  | .st a,x=>WtR a x
  | .arr _ a,xs=>∀ x ∈ (show List a.I from xs),WtR a x
  | .sl a,xs=>List.length xs * a.bts ≤ reachBytes ∧ ∀ x ∈ (show List a.I from xs),WtR a x
  | _,_=>True
theorem zzC {P:Program} {H:Type} {e:TypeId} {n:Nat} {d:DataW H}:∀ {l:List (DataW H)},d ∈ l→n ∈ DataW.weights P e d→n ∈ DataW.weightsAll P e l
  | x :: l,h,hn=>by
    simp only [DataW.weightsAll,List.mem_append]
    rcases List.mem_cons.1 h with rfl | h
    · exact .inl hn
    · exact .inr (zzC h hn)
theorem zIo {α β:Type} {f:α→Option β}:∀ (l:List α) (ys:List β),l.mapM f = some ys→ys.length = l.length
  | [],ys,h=>by
    have:ys = []:=by simpa using h.symm
    subst this; rfl
  | x :: l,ys,h=>by
    rw [List.mapM_cons] at h
    simp only [Option.bind_eq_bind,Option.bind_eq_some_iff,Option.pure_def,Option.some.injEq] at h
    obtain ⟨y,_,ys',h2,rfl⟩:=h
    simp [zIo l ys' h2]
theorem zx2 {H:Type} (d:DataW H):1 ≤ dbk d:=by cases d <;> simp [dbk]
section
variable {P:Program} {H:Type} {enc:TypeId × Value→H} {w:World} {base:Nat} {sp:Nat→Bool} {held:Bool}
theorem zIp {a:Addr} {j:Nat} {v:Value} (h:w.cell? (a.add j) = some v) (h0:a.spot = none ∨ j = 0):a.spot = none ∧ ∃ c el fz,w.heap[a.block]? = some (.cells c el fz) ∧ c[a.off + j]? = some v:=by
  have hs:a.spot = none:=by
    rcases h0 with h0 | rfl
    · exact h0
    · have:a.add 0 = a:=by unfold Addr.add; rfl
      rw [this] at h
      unfold World.cell? at h
      split at h
      · cases hsp:a.spot with
        | none=>rfl
        | some x=>rw [hsp] at h; simp at h
      · cases h
  refine ⟨hs,?_⟩
  rw [zts hs] at h
  unfold World.cell? at h
  simp only at h
  split at h
  · rename_i c el fz hk
    exact ⟨c,el,fz,hk,by simpa using h⟩
  · cases h
theorem zIq {a:Addr} {n:Nat} {cs:List Value} (h:w.cells? base a n = some cs) (hn:0 < n):∃ c,FH.of w a.block = some c ∧ a.spot = none ∧ ∀ (j:Nat) (v:Value),cs[j]? = some v→c[a.off + j]? = some v:=by
  obtain ⟨hb,hl,hc⟩:=World.cells?_some h
  have h0:=hc 0 hn
  rw [List.getElem?_eq_getElem (by omega)] at h0
  obtain ⟨hs,c,el,fz,hk,_⟩:=zIp h0 (.inr rfl)
  refine ⟨c,by simp [FH.of,hk],hs,fun j v hv=>?_⟩
  have hj:=(List.getElem?_eq_some_iff.1 hv).1
  have:=hc j (by omega)
  rw [hv] at this
  obtain ⟨_,c',_,_,hk',h2⟩:=zIp this (.inl hs)
  rw [hk] at hk'
  cases hk'
  exact h2
theorem zMs {ad:Addr} {n:Nat} (hn:0 < n) {c:Array Value} (hs:ad.spot = none) (hc:FH.of w ad.block = some c):∀ (m i0:Nat) (css:List (List Value)),((List.range' i0 m).mapM fun i=>w.cells? base (ad.add (i * n)) n) = some css →
    ∀ (j:Nat) (v:Value),css.flatten[j]? = some v→c[ad.off + i0 * n + j]? = some v
  | 0,i0,css,h,j,v,hj=>by simp at h; subst h; simp at hj
  | m + 1,i0,css,h,j,v,hj=>by
    rw [List.range'_succ,List.mapM_cons] at h
    simp only [Option.bind_eq_bind,Option.bind_eq_some_iff,Option.pure_def,Option.some.injEq] at h
    obtain ⟨cs,h1,css',h2,rfl⟩:=h
    have hl:=(World.cells?_some h1).2.1
    obtain ⟨c',h3,_,h5⟩:=zIq h1 hn
    rw [zts hs] at h3 h5
    simp only at h3 h5
    rw [hc] at h3
    cases h3
    rw [List.flatten_cons] at hj
    by_cases hjn:j < n
    · rw [List.getElem?_append_left (by omega)] at hj
      exact h5 j v hj
    · rw [List.getElem?_append_right (by omega),hl] at hj
      have:=zMs hn hs hc m (i0 + 1) css' h2 (j - n) v hj
      rw [show ad.off + i0 * n + j = ad.off + (i0 + 1) * n + (j - n) by rw [Nat.add_mul]; omega]
      exact this
theorem zzD {α:Type} {R:α→List Value→Prop} {f:Nat→Option (List Value)} {g:List Value→Option (DataW H × List MemPlace)} {I:α→Prop} {bk:α→Nat} {Wd:DataW H→Prop} {J:α→Prop} (hg:∀ cs y,g cs = some y→∃ x,R x cs ∧ I x ∧ bk x ≤ dbk y.1 ∧ (Wd y.1→J x)) :
    ∀ (l:List Nat) (ys:List (DataW H × List MemPlace)),(l.mapM fun i=>(f i).bind g) = some ys→∃ (xs:List α) (css:List (List Value)),xs.length = l.length ∧ l.mapM f = some css ∧ zD R xs css.flatten ∧ (∀ x ∈ xs,I x) ∧ (xs.map bk).sum ≤ dbkAll (ys.map (·.1)) ∧ ((∀ d ∈ ys.map (·.1),Wd d)→∀ x ∈ xs,J x)
  | [],ys,h=>⟨[],[],rfl,rfl,rfl,by simp,Nat.zero_le _,fun _ x hx=>by cases hx⟩
  | i :: l,ys,h=>by
    rw [List.mapM_cons] at h
    simp only [Option.bind_eq_bind,Option.bind_eq_some_iff,Option.pure_def,Option.some.injEq] at h
    obtain ⟨y,⟨cs,hcs,hy⟩,ys',h2,rfl⟩:=h
    obtain ⟨x,hx,hI,hk,hJ⟩:=hg cs y hy
    obtain ⟨xs,css,h3,h4,h5,h6,h7,h8⟩:=zzD hg l ys' h2
    refine ⟨x :: xs,cs :: css,by simp [h3],?_,⟨cs,css.flatten,rfl,hx,h5⟩,?_,by simp only [List.map_cons,List.sum_cons,dbkAll]; omega,?_⟩
    · rw [List.mapM_cons,hcs,h4]; rfl
    · intro z hz
      rcases List.mem_cons.1 hz with rfl | hz
      · exact hI
      · exact h6 z hz
    · intro hw z hz
      rcases List.mem_cons.1 hz with rfl | hz
      · exact hJ (hw _ (by simp))
      · exact h8 (fun d hd=>hw d (by rw [List.map_cons]; exact List.mem_cons_of_mem _ hd)) z hz
theorem zrY {cs:List Value} {n:Nat}:∀ (m i0:Nat) (css:List (List Value)),(i0 + m) * n ≤ cs.length→((List.range' i0 m).mapM fun i=>some ((cs.drop (i * n)).take n)) = some css→css.flatten = (cs.drop (i0 * n)).take (m * n)
  | 0,i0,css,_,h=>by simp at h; subst h; simp
  | m + 1,i0,css,hl,h=>by
    rw [List.range'_succ,List.mapM_cons] at h
    simp only [Option.bind_eq_bind,Option.bind_some,Option.bind_eq_some_iff,Option.pure_def,Option.some.injEq] at h
    obtain ⟨css',h2,rfl⟩:=h
    have:=zrY m (i0 + 1) css' (by rw [show i0 + 1 + m = i0 + (m + 1) by omega]; exact hl) h2
    rw [List.flatten_cons,this,Nat.add_mul i0 1 n,Nat.one_mul,← List.drop_drop,show (m + 1) * n = n + m * n by rw [Nat.add_mul]; omega,List.take_add]
theorem zPB:∀ (τ:Ty),τ.data = true →
    (∀ (fuel:Nat) (t:TypeId) (cs:List Value) (x:DataW H × List MemPlace),τ.np = true→z5 P t τ→DataW.trod enc P w base sp held fuel t cs = some x→∃ y,Rep P (FH.of w) τ y cs ∧ InR τ y ∧ bkI τ y ≤ dbk x.1 ∧ ((∀ n ∈ DataW.weights P t x.1,n ≤ reachBytes)→WtR τ y)) ∧
    (∀ (fuel:Nat) (fs:List Field) (off:Nat) (cs:List Value) (xs:List (DataW H × List MemPlace)),(tyB P τ).2 fs off = true→(fs.mapM fun f=>DataW.trod enc P w base sp held fuel f.type ((cs.drop f.offset).take (P.cellsOf f.type))) = some xs→cs.length = off + nc τ→∃ y,Rep P (FH.of w) τ y (cs.drop off) ∧ InR τ y ∧ bkI τ y ≤ dbkAll (xs.map (·.1)) ∧ ((∀ n ∈ DataW.weightsEach P (fs.map (·.type)) (xs.map (·.1)),n ≤ reachBytes)→WtR τ y)):=by
  intro τ
  induction τ with
  | unit =>
    intro _
    refine ⟨fun fuel t cs x _ h=>(by cases h),fun fuel fs off cs xs h _ hl=>⟨(),?_,trivial,Nat.zero_le _,fun _=>trivial⟩⟩
    show cs.drop off = []
    rw [List.drop_eq_nil_iff]
    simp only [nc] at hl
    omega
  | bool =>
    intro _
    refine ⟨fun fuel t cs x _ h hx=>?_,fun fuel fs off cs xs h=>(by cases h)⟩
    have hu:P.underlying t = some .bool:=by
      simp only [z5,tyB,Bool.and_eq_true] at h
      have:=h.2
      split at this
      · assumption
      · cases this
    cases fuel with
    | zero=>simp [DataW.trod] at hx
    | succ fuel =>
      unfold DataW.trod at hx
      rw [hu] at hx
      split at hx <;> first | (cases hx; done) | skip
      all_goals first | exact ⟨_,rfl,trivial,zx2 _,fun _=>trivial⟩ | (rename_i hh; simp at hh)
  | int k =>
    intro _
    refine ⟨fun fuel t cs x _ h hx=>?_,fun fuel fs off cs xs h=>(by cases h)⟩
    have hu:P.underlying t = some (.int k):=by
      simp only [z5,tyB,Bool.and_eq_true] at h
      have:=h.2
      split at this
      · simp only [decide_eq_true_eq] at this; subst this; assumption
      · cases this
    cases fuel with
    | zero=>simp [DataW.trod] at hx
    | succ fuel =>
      unfold DataW.trod at hx
      rw [hu] at hx
      split at hx <;> first | (cases hx; done) | skip
      · rename_i hh; cases hh
      · rename_i k1 k2 n hh
        cases hh
        split at hx
        · rename_i hc; obtain ⟨rfl,hw⟩:=hc; exact ⟨n,rfl,hw,zx2 _,fun _=>trivial⟩
        · cases hx
      all_goals (rename_i hh; simp at hh)
  | str =>
    intro _
    refine ⟨fun fuel t cs x _ h hx=>?_,fun fuel fs off cs xs h=>(by cases h)⟩
    have hu:P.underlying t = some .string:=by
      simp only [z5,tyB,Bool.and_eq_true] at h
      have:=h.2
      split at this
      · assumption
      · cases this
    cases fuel with
    | zero=>simp [DataW.trod] at hx
    | succ fuel =>
      unfold DataW.trod at hx
      rw [hu] at hx
      split at hx <;> first | (cases hx; done) | skip
      all_goals first
        | (rename_i hh; simp at hh; done)
        | (rename_i s hh; split at hx; · rename_i hc; cases hx; exact ⟨s,rfl,hc,zx2 _,fun hw=>by have:=hw s.data.toList.length (by simp [DataW.weights]); exact this⟩
           · cases hx)
        | skip
  | pair a b iha ihb =>
    intro hd
    simp only [Ty.data,Bool.and_eq_true] at hd
    refine ⟨fun fuel t cs x _ h hx=>?_,fun fuel fs off cs xs h hx hl=>?_⟩
    · rename_i hnp; cases hnp
    · cases fs with
      | nil=>cases h
      | cons f fs =>
        simp only [tyB,Bool.and_eq_true] at h
        obtain ⟨⟨⟨⟨h1,h2⟩,h3⟩,_⟩,h4⟩:=h
        obtain rfl:=Nat.eq_of_beq_eq_true h1
        obtain ⟨i,hi,hsz⟩:=z5.size h2 (Ty.np_spec h3.2)
        rw [List.mapM_cons] at hx
        simp only [Option.bind_eq_bind,Option.bind_eq_some_iff,Option.pure_def,Option.some.injEq] at hx
        obtain ⟨x1,hx1,xs2,hx2,rfl⟩:=hx
        have hcells:P.cellsOf f.type = nc a:=by unfold Program.cellsOf; rw [hi]; exact hsz
        rw [hcells] at hx1
        obtain ⟨y1,g1,g2,b1,c1⟩:=(iha hd.1).1 fuel f.type _ x1 h3.2 h2 hx1
        simp only [nc] at hl
        obtain ⟨y2,g3,g4,b2,c2⟩:=(ihb hd.2).2 fuel fs (f.offset + nc a) cs xs2 h4 hx2 (by omega)
        refine ⟨(y1,y2),⟨_,_,?_,g1,g3⟩,⟨g2,g4⟩,by simp only [bkI,List.map_cons,dbkAll]; omega,fun hw=>?_⟩
        rotate_left
        · simp only [List.map_cons,DataW.weightsEach,List.mem_append] at hw
          exact ⟨c1 fun n hn=>hw n (.inl hn),c2 fun n hn=>hw n (.inr hn)⟩
        rw [← List.drop_drop,List.take_append_drop]
  | st a iha =>
    intro hd
    refine ⟨fun fuel t cs x _ h hx=>?_,fun fuel fs off cs xs h=>(by cases h)⟩
    obtain ⟨fs,hu,hf,_⟩:=z5.st h
    obtain ⟨i,hi,hsz⟩:=z5.size h (by intro a b e; cases e)
    have hcells:P.cellsOf t = nc a:=by unfold Program.cellsOf; rw [hi]; exact hsz
    cases fuel with
    | zero=>simp [DataW.trod] at hx
    | succ fuel =>
      unfold DataW.trod at hx
      rw [hu] at hx
      simp only at hx
      split at hx
      · rename_i hl
        simp only [Option.map_eq_some_iff] at hx
        obtain ⟨xs,hx,rfl⟩:=hx
        obtain ⟨y,g1,g2,b1,c1⟩:=(iha hd).2 fuel fs.toList 0 cs xs hf hx (by omega)
        refine ⟨y,g1,g2,by simp only [bkI,dbk]; omega,fun hw=>c1 ?_⟩
        simp only [DataW.weights,hu] at hw
        exact hw
      · cases hx
  | arr n a iha =>
    intro hd
    refine ⟨fun fuel t cs x _ h hx=>?_,fun fuel fs off cs xs h=>(by cases h)⟩
    obtain ⟨e,hu,he,hpos,hnp,_⟩:=z5.arr h
    obtain ⟨i,hi,hsz⟩:=z5.size h (by intro a b e; cases e)
    obtain ⟨ie,hie,hsze⟩:=z5.size he (Ty.np_spec hnp)
    have hcells:P.cellsOf t = n * nc a:=by unfold Program.cellsOf; rw [hi]; exact hsz
    have hcellse:P.cellsOf e = nc a:=by unfold Program.cellsOf; rw [hie]; exact hsze
    cases fuel with
    | zero=>simp [DataW.trod] at hx
    | succ fuel =>
      unfold DataW.trod at hx
      rw [hu] at hx
      simp only at hx
      split at hx
      · rename_i hl
        simp only [Option.map_eq_some_iff] at hx
        obtain ⟨xs,hx,rfl⟩:=hx
        rw [hcellse] at hx
        obtain ⟨ys,css,h1,h2,h3,h4,h5,h6⟩:=zzD (bk:=bkI a) (Wd:=fun d=>∀ n ∈ DataW.weights P e d,n ≤ reachBytes) (J:=WtR a) (f:=fun i=>some ((cs.drop (i * nc a)).take (nc a))) (g:=DataW.trod enc P w base sp held fuel e) (R:=Rep P (FH.of w) a) (I:=InR a) (fun cs y hy=>(iha hd).1 fuel e cs y hnp he hy) (List.range n) xs hx
        rw [List.range_eq_range'] at h2
        have:=zrY n 0 css (by rw [Nat.zero_add]; omega) h2
        rw [this] at h3
        simp only [Nat.zero_mul,List.drop_zero] at h3
        rw [List.take_of_length_le (by omega)] at h3
        refine ⟨ys,⟨by simpa using h1,h3⟩,⟨by simpa using h1,h4⟩,by simp only [bkI,dbk]; omega,fun hw=>h6 fun d hd n hn=>?_⟩
        simp only [DataW.weights,hu] at hw
        exact hw n (zzC hd hn)
      · cases hx
  | sl a iha =>
    intro hd
    refine ⟨fun fuel t cs x _ h hx=>?_,fun fuel fs off cs xs h=>(by cases h)⟩
    obtain ⟨e,hu,he,hpos,hnp⟩:=z5.sl h
    obtain ⟨ie,hie,hsze⟩:=z5.size he (Ty.np_spec hnp)
    have hcellse:P.cellsOf e = nc a:=by unfold Program.cellsOf; rw [hie]; exact hsze
    cases fuel with
    | zero=>simp [DataW.trod] at hx
    | succ fuel =>
      unfold DataW.trod at hx
      rw [hu] at hx
      split at hx <;> first | (cases hx; done) | skip
      all_goals first
        | (rename_i hh; cases hh; done)
        | exact ⟨[],⟨_,0,rfl,Nat.le_refl _,fun hne=>absurd rfl hne⟩,⟨Nat.zero_le _,fun x hx=>(by cases hx)⟩,zx2 _,fun _=>⟨by simp,fun x hx=>(by cases hx)⟩⟩
        | skip
      rename_i e' ad len cap heq
      simp only [Option.some.injEq,TypeDesc.slice.injEq] at heq
      subst heq
      simp only at hx
      split at hx
      · rename_i hc
        simp only [Option.bind_eq_some_iff] at hx
        obtain ⟨elems,hx,hx2⟩:=hx
        rw [hcellse] at hx
        obtain ⟨ys,css,h1,h2,h3,h4,h5,h6⟩:=zzD (bk:=bkI a) (Wd:=fun d=>∀ n ∈ DataW.weights P e d,n ≤ reachBytes) (J:=WtR a) (f:=fun i=>w.cells? base (ad.add (i * nc a)) (nc a)) (g:=DataW.trod enc P w base sp held fuel e) (R:=Rep P (FH.of w) a) (I:=InR a) (fun cs y hy=>(iha hd).1 fuel e cs y hnp he hy) (List.range len) elems hx
        rw [List.length_range] at h1
        refine ⟨ys,⟨some ad,cap,by rw [h1],by rw [h1]; exact hc.2.1,fun hne=>?_⟩,⟨(show ys.length ≤ maxLen by omega),h4⟩,?_,fun hw=>?_⟩
        rotate_left
        · obtain ⟨rest,-,rfl⟩:=Option.map_eq_some_iff.1 hx2
          simp only [bkI,dbk]; omega
        · obtain ⟨rest,-,rfl⟩:=Option.map_eq_some_iff.1 hx2
          simp only [DataW.weights,hu,List.mem_cons,List.mem_append] at hw
          have hel:=zIo _ _ hx
          rw [List.length_range] at hel
          have hb:=he.bts (Ty.np_spec hnp)
          refine ⟨?_,h6 fun d hd n hn=>hw n (.inr (.inl (zzC hd hn)))⟩
          have h9:=hw _ (.inl rfl)
          rw [hb,List.length_map,hel] at h9
          refine Nat.le_trans (Nat.mul_le_mul_right _ ?_) h9
          rw [h1]; exact Nat.le_add_right _ _
        have hlen:0 < len:=by
          rw [← h1]
          exact List.length_pos_iff.2 hne
        rw [List.range_eq_range'] at h2
        obtain ⟨m,rfl⟩:∃ m,len = m + 1:=⟨len - 1,by omega⟩
        have h2':=h2
        rw [List.range'_succ,List.mapM_cons] at h2'
        simp only [Option.bind_eq_bind,Option.bind_eq_some_iff,Option.pure_def,Option.some.injEq] at h2'
        obtain ⟨cs0,g1,_⟩:=h2'
        rw [Nat.zero_mul,show ad.add 0 = ad from rfl] at g1
        obtain ⟨c,g2,g3,g4⟩:=zIq g1 hpos
        refine ⟨ad,css.flatten,rfl,⟨g3,c,g2,fun j v hv=>?_⟩,h3⟩
        have:=zMs hpos g3 g2 (m + 1) 0 css h2 j v hv
        simpa using this
      · cases hx
  | ptr a=>intro hd; cases hd
  | fn a b=>intro hd; cases hd
def tyL (P:Program):Ty→List TypeId→Bool
  | .unit,[]=>true
  | .pair a b,t :: ts=>(tyB P a).1 t && a.np && a.data && tyL P b ts
  | _,_=>false
theorem zyF:∀ {τ:Ty} {ts:List TypeId} {vs:List Value} {ds:List (DataW H)} {ps:List MemPlace},tyL P τ ts = true→DataW.TrodAll enc P w base sp held ts vs ds ps→(∀ (j:Nat) (t:TypeId) (v:Value),ts[j]? = some t→vs[j]? = some v→∃ W r b,Value.okWide P W r b t v) →
    ∃ x,RepA P (FH.of w) τ x vs ∧ InR τ x ∧ bkI τ x ≤ dbkAll ds ∧ ((∀ n ∈ DataW.weightsEach P ts ds,n ≤ reachBytes)→WtR τ x)
  | .unit,[],[],[],ps,_,_,_=>⟨(),rfl,trivial,Nat.zero_le _,fun _=>trivial⟩
  | .pair a b,t :: ts,v :: vs,d :: ds,ps,h,hr,hf=>by
    simp only [tyL,Bool.and_eq_true] at h
    obtain ⟨⟨⟨h1,h2⟩,h3⟩,h4⟩:=h
    obtain ⟨p,q,⟨fuel,h5⟩,h6,_⟩:=hr
    obtain ⟨y,g1,g2,b1,c1⟩:=(zPB a h3).1 fuel t v.cells.toList (d,p) h2 h1 h5
    obtain ⟨x,g3,g4,b2,c2⟩:=zyF h4 h6 fun j t v ht hv=>hf (j + 1) t v (by simpa using ht) (by simpa using hv)
    refine ⟨(y,x),⟨v,vs,rfl,g1,?_,g3⟩,⟨g2,g4⟩,by simp only [bkI,dbkAll]; exact Nat.add_le_add b1 b2,fun hw=>by
      simp only [DataW.weightsEach,List.mem_append] at hw
      exact ⟨c1 fun n hn=>hw n (.inl hn),c2 fun n hn=>hw n (.inr hn)⟩⟩
    obtain ⟨W,r,b0,hform⟩:=hf 0 t v rfl rfl
    obtain ⟨de,hu,hagg⟩:=z5.isAgg h1
    unfold Value.okWide at hform
    rw [hu] at hform
    rw [← hagg]
    have hno:∀ cs,v = .agg cs→Cell.okWide P W r b0 t v→(match de with | .struct _ | .array _ _=>true | _=>false) = false→False:=by
      rintro cs rfl hc hde
      unfold Cell.okWide at hc
      rw [hu] at hc
      cases de <;> simp [Cell.ok,hu] at hc hde
    cases de <;> simp only at hform hno ⊢
    case struct=>obtain ⟨cs,rfl,_⟩:=hform; rfl
    case array=>obtain ⟨cs,rfl,_⟩:=hform; rfl
    all_goals (cases v <;> first | rfl | exact (hno _ rfl hform trivial).elim)
  | .unit,[],[],_ :: _,_,_,h,_=>h.elim
  | .unit,[],_ :: _,_,_,_,h,_=>(by cases h)
  | .unit,_ :: _,_,_,_,h,_,_=>(by cases h)
  | .pair _ _,[],_,_,_,h,_,_=>(by cases h)
  | .pair _ _,_ :: _,[],_,_,_,h,_=>(by cases h)
  | .pair _ _,_ :: _,_ :: _,[],_,_,h,_=>(by cases h)
  | .bool,_,_,_,_,h,_,_=>(by cases h)
  | .int _,_,_,_,_,h,_,_=>(by cases h)
  | .str,_,_,_,_,h,_,_=>(by cases h)
  | .st _,_,_,_,_,h,_,_=>(by cases h)
  | .arr _ _,_,_,_,_,h,_,_=>(by cases h)
  | .sl _,_,_,_,_,h,_,_=>(by cases h)
  | .ptr _,_,_,_,_,h,_,_=>(by cases h)
  | .fn _ _,_,_,_,_,h,_,_=>(by cases h)
theorem zue {W W':World} (hl:laidOutB P = true) (hb:Below W.heap.size W W'):∀ {ts:List TypeId} {vs:List Value} {ds:List (DataW H)} {ps:List MemPlace},
    (∀ t ∈ ts,P.readableRec t = true ∧ t < P.types.size)→DataW.TrodAll enc P W 0 (fun _=>true) true ts vs ds ps→(∀ x ∈ ps,x.block < W.heap.size)→∀ s:Nat→Bool,(∀ p ∈ ps,s p.block = true)→DataW.TrodAll enc P W' 0 s true ts vs ds ps
  | [],[],[],ps,_,h,_,s,_=>h
  | t :: ts,v :: vs,d :: ds,ps,ht,⟨p,q,h1,h2,e⟩,hlt,s,hs=>by
    subst e
    have h0:=ht t (by simp)
    refine ⟨p,q,?_,zue hl hb (fun t' h'=>ht t' (by simp [h'])) h2 (fun x hx=>hlt x (by simp [hx])) s (fun x hx=>hs x (by simp [hx])),rfl⟩
    exact WideElems.Trod_stays hl h0.1 h0.2 h1 (fun x hx=>hb.same (hlt x (by simp [hx]))) (fun x hx=>hs x (by simp [hx]))
  | [],[],_ :: _,_,_,h,_,_,_=>h.elim
  | [],_ :: _,_,_,_,h,_,_,_=>h.elim
  | _ :: _,[],_,_,_,h,_,_,_=>h.elim
  | _ :: _,_ :: _,[],_,_,h,_,_,_=>h.elim
end
section
variable {P:Program} {H:Type} {enc:TypeId × Value→H}
theorem zBr {n:Nat}:∀ {ts us:List TypeId} {ds gs:List (DataW H)},n ∈ DataW.weightsEach P ts ds→n ∈ DataW.weightsEach P (ts ++ us) (ds ++ gs)
  | t :: ts,us,d :: ds,gs,h=>by
    simp only [List.cons_append,DataW.weightsEach,List.mem_append] at h ⊢
    exact h.imp id zBr
  | [],_,_,_,h=>by simp [DataW.weightsEach] at h
  | _ :: _,_,[],_,h=>by simp [DataW.weightsEach] at h
theorem zFQ {fi:FuncId} {f:Func} {a:Ty} {tb:TypeId} {spec:ChangeSpec} {W:World} {base:Nat} {args:Array Value} {ds gs:List (DataW H)} {before:List MemPlace}
    (hl:laidOutB P = true) (hts:∀ t ∈ f.params.toList,P.readableRec t = true ∧ t < P.types.size) (hty:tyL P a f.params.toList = true) (hres:f.resultTypes = #[tb]) (hbool:P.underlying tb = some .bool) (hvars:spec.vars = [])
    (hfn:∀ ds:List (DataW H),ds.length = f.params.size→spec.fn H ds = { results:=[.lit (.bool true)],args:=ds })
    (hval:∀ (j:Nat) t v,f.params[j]? = some t→args[j]? = some v→Value.okWide P W .any base t v)
    (hW:DataW.Whole enc P f.params.toList spec.vars false W args.toList ds gs before)
    (hcall:∀ x,InR a x→bkI a x ≤ dbkAll ds→((∀ n ∈ DataW.weightsEach P f.params.toList ds,n ≤ reachBytes)→WtR a x)→RepA P (FH.of W) a x args.toList→Calls P fi args W fun e W'=>e = .returned (.bool true) ∧ Below W.heap.size W W') :
    Calls P fi args W fun e W'=>∃ v,e = .returned v ∧ spec.post enc P f false true false false W args v W':=by
  have hW':=hW
  obtain ⟨p,q,hA,hV,rfl,hfz,hnd⟩:=hW
  rw [hvars] at hV
  obtain ⟨rfl,rfl⟩:=trodVars_none hV
  have hlt:∀ x ∈ p,x.block < W.heap.size:=fun x hx=>by simpa using hW'.lt x (by simp [hx])
  obtain ⟨x,hx,hin,hbk,hwt⟩:=zyF (w:=W) hty hA fun j t v ht hv=>⟨W,.any,base,hval j t v (by rw [← Array.getElem?_toList]; exact ht) (by rw [← Array.getElem?_toList]; exact hv)⟩
  have hlen:∀ {ts:List TypeId} {vs:List Value} {ds:List (DataW H)} {ps:List MemPlace},DataW.TrodAll enc P W 0 (fun _=>true) true ts vs ds ps→ds.length = ts.length:=by
    intro ts
    induction ts with
    | nil=>intro vs ds ps h; cases vs <;> cases ds <;> first | rfl | exact h.elim
    | cons t ts ih=>intro vs ds ps h; cases vs <;> cases ds <;> first | exact h.elim | (obtain ⟨_,_,_,h2,_⟩:=h; simp [ih h2])
  have hfn':=hfn ds (by rw [hlen hA]; simp)
  refine (hcall x hin hbk hwt hx).mono fun e W' ⟨he,hb⟩=>?_
  subst he
  simp only [List.append_nil] at *
  refine ⟨_,rfl,ds,[],p,[],p,[],hW',?_,?_,?_,hb.frame _,fun h=>(by cases h)⟩
  · rw [List.append_nil,hfn',hres]
    exact trodAll_cons_mk (shut_bool hbool _) trodAll_mk0
  · rw [List.append_nil,hfn']
    exact zue hl hb hts hA hlt _ (fun x hx=>by simpa using hlt x hx)
  · rw [List.append_nil,hfn',hvars]
    rfl
end
end Go.Ev
end
section
namespace Go.Ev
open Go.RowKit
section
variable {P:Program} {G:FH} {E:Env}
theorem zot.mk (hm:P.follows .mixedOrders = true) (hE:EnvOk P G E) {fi:FuncId} {f:Func} (hf:P.funcs[fi]? = some f) (hn:(f.name == "runtime.NumGoroutine") = false) (hb:f.body.isNone = false)
    {F:Fun} (h:∀ x y,F.spec x = some y→∃ K,evF E K f F.md F.a F.r x = some y):zot P G fi F:=by
  refine ⟨⟨f,hf,hn,hb⟩,fun x y hy F0 w vs hG hk hr=>?_⟩
  obtain ⟨K,he⟩:=h x y hy
  exact zOK hm hE hf he hG hk hr
theorem EnvOk.nil {types:TT} {nt:Nat} {dp:Bool} (ht:types.all (fun k τ=>(tyB P τ).1 k) = true) {glob:List (Nat × AV)} (hg:∀ g v,look glob g = some v→∃ τ x cs,v = .dat (.ptr τ) (some x) ∧ At G ⟨g,0,none⟩ cs ∧ Rep P G τ x cs) {ext:List (Nat × Bool)} {jn:List Nat} (hx:∀ f add,look ext f = some add→ExtOk P f add):EnvOk P G ⟨types,[],glob,nt,dp,ext,jn,fun _=>none,false,false⟩ :=
  ⟨fun t τ h=>TT.all_look ht h,fun f F h=>by simp [look] at h,hg,hx,fun f H h=>by cases h⟩
theorem EnvOk.deep (hE:EnvOk P G E) (d:Bool):EnvOk P G { E with deep:=d }:=⟨hE.types,hE.funs,hE.glob,hE.ext,hE.hnd⟩
theorem EnvOk.cons (hE:EnvOk P G E) {fi:FuncId} {F:Fun} (h:zot P G fi F):EnvOk P G { E with funs:=(fi,F) :: E.funs }:=by
  refine ⟨hE.types,fun f F' h'=>?_,hE.glob,hE.ext,hE.hnd⟩
  simp only [look] at h'
  cases hb:Nat.beq fi f with
  | true =>
    rw [hb] at h'
    simp only [cond_true,Option.some.injEq] at h'
    subst h'
    rw [← Nat.eq_of_beq_eq_true hb]
    exact h
  | false=>rw [hb] at h'; exact hE.funs f F' h'
end
end Go.Ev
end
section
namespace Go.Ev
theorem zIr {n:Nat} (h:n ≤ Go.maxLen):IntKind.wrap .i64 (n:Int) = (n:Int):=by
  unfold Go.maxLen at h
  exact IntWalk.i64_in _ (by omega)
def je {α:Type} (p:α→Bool):List α→Int→Int
  | [],_=>-1
  | x :: xs,i=>cond (p x) i (je p xs (i + 1))
theorem zzE {α:Type} {p:α→Bool}:∀ (xs:List α) (i:Int),0 ≤ i→decide (je p xs i ≥ 0) = xs.any p
  | [],_,_=>rfl
  | x :: xs,i,h=>by
    have ih:=zzE (p:=p) xs (i + 1) (by omega)
    simp only [je,List.any_cons]
    by_cases hp:p x = true
    · simp [hp,h]
    · simp only [Bool.not_eq_true] at hp
      simp only [hp,cond_false,Bool.false_or]
      exact ih
end Go.Ev
end
section
namespace Go.Ev
theorem zBs {i len:Nat} (h:i < len) (hl:len ≤ Go.maxLen):IntKind.wrap .i64 ((i:Int) + 1) = (i:Int) + 1:=by
  rw [show (i:Int) + 1 = ((i + 1:Nat):Int) by omega]
  exact zIr (by omega)
theorem jB {α:Type} {l:List α} {i:Nat} (d:α) (h:i < l.length):l.drop i = l.getD i d :: l.drop (i + 1):=by
  rw [List.drop_eq_getElem_cons h]
  simp [List.getD,h]
theorem zPC {σ ρ:Type} {L:Nat→Int→σ→Option ρ} {len:Nat} (hl:len ≤ Go.maxLen) (F:Nat→σ→Option ρ) (I:Nat→σ→Prop)
    (hstep:∀ n i s,i < len→I i s→(∀ s',I (i + 1) s'→L n ((i:Int) + 1) s' = F (i + 1) s')→L (n + 1) (i:Int) s = F i s)
    (hend:∀ n s,I len s→L (n + 1) (len:Int) s = F len s) :
    ∀ (k i n:Nat) (s:σ),i + k = len→k < n→I i s→L n (i:Int) s = F i s:=by
  intro k
  induction k with
  | zero =>
    intro i n s hi hn hI
    obtain ⟨m,rfl⟩:∃ m,n = m + 1:=⟨n - 1,by omega⟩
    obtain rfl:i = len:=by omega
    exact hend m s hI
  | succ k ih =>
    intro i n s hi hn hI
    obtain ⟨m,rfl⟩:∃ m,n = m + 1:=⟨n - 1,by omega⟩
    refine hstep m i s (by omega) hI fun s' hI'=>?_
    have:=ih (i + 1) m s' (by omega) (by omega) hI'
    rw [show (i:Int) + 1 = ((i + 1:Nat):Int) by omega]
    exact this
theorem zOL {σ ρ:Type} {L:Nat→Int→σ→Option ρ} {len:Nat} (hl:len ≤ Go.maxLen) (F:Nat→σ→Option ρ) (I:Nat→σ→Prop)
    (hstep:∀ n i s,i < len→I i s→(∀ s',I (i + 1) s'→L n ((i:Int) + 1) s' = F (i + 1) s')→L (n + 1) (i:Int) s = F i s)
    (hend:∀ n s,I len s→L (n + 1) (len:Int) s = F len s) (n:Nat) (hn:len < n) (s:σ) (h0:I 0 s):L n 0 s = F 0 s :=
  zPC hl F I hstep hend len 0 n s (by omega) hn h0
end Go.Ev
end
section
namespace Go.Ev
abbrev Fnc (A R:Ty):Type:=A.I→Option R.I
def zg {σ ρ:Type} (B:(σ→Option ρ)→σ→Option ρ):Nat→σ→Option ρ
  | 0,_=>none
  | n + 1,s=>B (zg B n) s
noncomputable def evV {σ:Type} (E:Env) (K:Nat) (f:Func) (md:Nat) (R:Ty) (p ns:List Nat) (S:σ→St) (n:Nat):σ→Option R.I:=fun s=>evL E K f md R p ns n (S s)
theorem zIs {E:Env} {K:Nat} {f:Func} {md:Nat} {R:Ty} {p ns:List Nat} {st:St}:evL E K f md R p ns 0 st = none:=by
  unfold evL
  split
  · split <;> rfl
  · rfl
theorem zq {σ:Type} {E:Env} {K:Nat} {f:Func} {md:Nat} {R:Ty} {p ns:List Nat} {S:σ→St} {B:(σ→Option R.I)→σ→Option R.I}
    (h:∀ n s,evV E K f md R p ns S (n + 1) s = B (evV E K f md R p ns S n) s):∀ n,evV E K f md R p ns S n = zg B n
  | 0=>by funext s; exact zIs
  | n + 1=>by funext s; rw [h,zq h n]; rfl
theorem qu {σ τ:Type} {E:Env} {K:Nat} {f:Func} {md:Nat} {R:Ty} {p ns:List Nat} {S:σ→St} {B:(τ→Option R.I)→(σ→Option R.I)→σ→Option R.I} {V1:Nat→τ→Option R.I} {W1:(σ→Option R.I)→τ→Option R.I}
    (h1:∀ n,V1 n = W1 (evV E K f md R p ns S n)) (h:∀ n s,evV E K f md R p ns S (n + 1) s = B (V1 n) (evV E K f md R p ns S n) s):∀ n,evV E K f md R p ns S n = zg (fun k=>B (W1 k) k) n :=
  zq fun n s=>by rw [← h1]; exact h n s
theorem zOM {σ τ υ:Type} {E:Env} {K:Nat} {f:Func} {md:Nat} {R:Ty} {p ns:List Nat} {S:σ→St} {B:(τ→Option R.I)→(υ→Option R.I)→(σ→Option R.I)→σ→Option R.I} {V1:Nat→τ→Option R.I} {W1:(σ→Option R.I)→τ→Option R.I} {V2:Nat→υ→Option R.I} {W2:(σ→Option R.I)→υ→Option R.I}
    (h1:∀ n,V1 n = W1 (evV E K f md R p ns S n)) (h2:∀ n,V2 n = W2 (evV E K f md R p ns S n)) (h:∀ n s,evV E K f md R p ns S (n + 1) s = B (V1 n) (V2 n) (evV E K f md R p ns S n) s):∀ n,evV E K f md R p ns S n = zg (fun k=>B (W1 k) (W2 k) k) n :=
  zq fun n s=>by rw [← h1,← h2]; exact h n s
def zBt {σ τ ρ:Type} (B0:(τ→Option ρ)→σ→Option ρ) (B1:(τ→Option ρ)→τ→Option ρ):Nat→σ→Option ρ
  | 0,_=>none
  | n + 1,s=>B0 (zg B1 n) s
theorem zON {σ τ:Type} {E:Env} {K:Nat} {f:Func} {md:Nat} {R:Ty} {p ns:List Nat} {S0:σ→St} {S1:τ→St} {B0:(τ→Option R.I)→σ→Option R.I} {B1:(τ→Option R.I)→τ→Option R.I}
    (h1:∀ n,evV E K f md R p ns S1 n = zg B1 n) (h:∀ n s,evV E K f md R p ns S0 (n + 1) s = B0 (evV E K f md R p ns S1 n) s):∀ n,evV E K f md R p ns S0 n = zBt B0 B1 n
  | 0=>by funext s; exact zIs
  | n + 1=>by funext s; rw [h,h1]; rfl
theorem tr1 {α X Y:Type} {T:α→X→Y} {V W:α} (h:V = W) {F:X→Y} (hx:∀ x,F x = T V x):F = T W:=by subst h; funext x; exact hx x
def En (E:Env) (d:Bool) (l:List Fun):Env:=⟨E.types,l.map fun F=>(F.id,F),E.glob,0,d,E.ext,[],fun _=>none,false,false⟩
def Ej (E:Env) (d:Bool) (js:List Nat) (l:List Fun):Env:=⟨E.types,l.map fun F=>(F.id,F),E.glob,0,d,E.ext,js,fun _=>none,false,js.any (Nat.beq 999999)⟩
def Sd (P:Program) (E:Env) (F:Fun):Prop:=∀ G,EnvOk P G E→zot P G F.id F
def Sds (P:Program) (E:Env):List Fun→Prop
  | []=>True
  | F :: l=>Sd P E F ∧ Sds P E l
def jm (f:Func):Bool:=!(f.name == "runtime.NumGoroutine") && !f.body.isNone
theorem Sds.env {P:Program} {E:Env} {l:List Fun} {d:Bool} {G:FH} (h:Sds P E l) (hE:EnvOk P G E):EnvOk P G (En E d l):=by
  refine ⟨hE.types,?_,hE.glob,hE.ext,fun f H h=>by cases h⟩
  intro f F hf
  have key:∀ l:List Fun,Sds P E l→look (l.map fun F=>(F.id,F)) f = some F→zot P G f F:=by
    intro l
    induction l with
    | nil=>intro _ h; cases h
    | cons F' l ih =>
      intro hs hl
      simp only [List.map_cons,look] at hl
      cases hb:Nat.beq F'.id f with
      | true =>
        rw [hb] at hl
        cases hl
        rw [← Nat.eq_of_beq_eq_true hb]
        exact hs.1 G hE
      | false=>rw [hb] at hl; exact ih hs.2 hl
  exact key l h hf
theorem Sds.envJ {P:Program} {E:Env} {l:List Fun} {d:Bool} {js:List Nat} {G:FH} (h:Sds P E l) (hE:EnvOk P G E):EnvOk P G (Ej E d js l) :=
  have h':=h.env (d:=d) hE
  ⟨h'.types,h'.funs,h'.glob,h'.ext,fun f H h=>by cases h⟩
theorem Sd.mkJ {P:Program} {E:Env} {l:List Fun} {d:Bool} {js:List Nat} {F:Fun} {f:Func} {K:Nat} (hm:P.follows .mixedOrders = true) (hl:Sds P E l) (hf:P.funcs[F.id]? = some f) (ho:jm f = true)
    (h:evF (Ej E d js l) K f F.md F.a F.r = F.spec):Sd P E F:=by
  intro G hE
  unfold jm at ho
  simp only [Bool.and_eq_true,Bool.not_eq_true'] at ho
  exact zot.mk hm (hl.envJ hE) hf ho.1 ho.2 fun x y hy=>⟨K,by rw [h]; exact hy⟩
theorem Sd.mk {P:Program} {E:Env} {l:List Fun} {d:Bool} {F:Fun} {f:Func} {K:Nat} (hm:P.follows .mixedOrders = true) (hl:Sds P E l) (hf:P.funcs[F.id]? = some f) (ho:jm f = true)
    (h:evF (En E d l) K f F.md F.a F.r = F.spec):Sd P E F:=by
  intro G hE
  unfold jm at ho
  simp only [Bool.and_eq_true,Bool.not_eq_true'] at ho
  exact zot.mk hm (hl.env hE) hf ho.1 ho.2 fun x y hy=>⟨K,by rw [h]; exact hy⟩
def FOk (P:Program):List (Nat × Func)→Prop
  | []=>True
  | p :: l=>(P.funcs[p.1]? = some p.2 ∧ jm p.2 = true) ∧ FOk P l
theorem FOk.look {P:Program}:∀ {l:List (Nat × Func)} {i:Nat} {f:Func},FOk P l→look l i = some f→P.funcs[i]? = some f ∧ jm f = true
  | (j,g) :: l,i,f,h,hl=>by
    simp only [Go.Ev.look] at hl
    cases hb:Nat.beq j i with
    | true=>rw [hb] at hl; cases hl; rw [← Nat.eq_of_beq_eq_true hb]; exact h.1
    | false=>rw [hb] at hl; exact FOk.look h.2 hl
theorem EnvOk.inl {P:Program} {G:FH} {E:Env} (hm:P.follows .mixedOrders = true) (hE:EnvOk P G E) {fs:List (Nat × Func)} (hfs:FOk P fs):∀ d,EnvOk P G (E.inl fs d)
  | 0=>hE
  | d + 1=>⟨hE.types,hE.funs,hE.glob,hE.ext,fun i H h=>by
    obtain ⟨fn,h1,rfl⟩:=Option.map_eq_some_iff.1 h
    obtain ⟨h2,h3⟩:=hfs.look h1
    unfold jm at h3
    simp only [Bool.and_eq_true,Bool.not_eq_true'] at h3
    exact zQd hm (EnvOk.inl hm hE hfs d) h2 h3.1 h3.2⟩
theorem Sd.mkI {P:Program} {E:Env} {l:List Fun} {d:Bool} {js:List Nat} {fs:List (Nat × Func)} {n:Nat} {F:Fun} {f:Func} {K:Nat} (hm:P.follows .mixedOrders = true) (hl:Sds P E l) (hfs:FOk P fs) (hf:P.funcs[F.id]? = some f) (ho:jm f = true)
    (h:evF ((Ej E d js l).inl fs n) K f F.md F.a F.r = F.spec):Sd P E F:=by
  intro G hE
  unfold jm at ho
  simp only [Bool.and_eq_true,Bool.not_eq_true'] at ho
  exact zot.mk hm ((hl.envJ hE).inl hm hfs n) hf ho.1 ho.2 fun x y hy=>⟨K,by rw [h]; exact hy⟩
@[reducible] def ch:List Ty→Ty
  | []=>.unit
  | a :: l=>.pair a (ch l)
abbrev u0 {a0 a1:Type} (x:a0 × a1) (v:a0):a0 × a1:=(v,x.2)
abbrev u1 {a0 a1 a2:Type} (x:a0 × a1 × a2) (v:a1):a0 × a1 × a2:=(x.1,v,x.2.2)
abbrev u2 {a0 a1 a2 a3:Type} (x:a0 × a1 × a2 × a3) (v:a2):a0 × a1 × a2 × a3:=(x.1,x.2.1,v,x.2.2.2)
def inR {ρ:Type} (i n:Int) (x:Option ρ):Option ρ:=cond (decide (0 ≤ i)) (cond (decide (i < n)) x none) none
theorem zOO {ρ:Type} {i n:Int} {x:Option ρ} (h0:0 ≤ i) (h1:i < n):inR i n x = x:=by unfold inR; rw [decide_eq_true h0,decide_eq_true h1]; rfl
abbrev ix {α:Type} (d:α) (l:List α) (i:Int):α:=List.getD l (Int.toNat i) d
def K0:Nat:=Go.maxLen + 2
theorem zHB {n:Nat} (h:n ≤ Go.maxLen):n < K0:=by unfold K0; omega
abbrev tI:Ty:=.int .i64
abbrev tU:Ty:=.int .u64
abbrev wI (n:Int):Int:=IntKind.wrap .i64 n
abbrev wU (n:Int):Int:=IntKind.wrap .u64 n
end Go.Ev
end
section
namespace Go.Ev
theorem vB {σ α ρ:Type} {B:(σ→Option ρ)→σ→Option ρ} {len:Nat} (hl:len ≤ Go.maxLen) (st:Int→α→σ) (F:Nat→α→Option ρ) (I:Nat→α→Prop)
    (hstep:∀ k (i:Nat) s,i < len→I i s→(∀ s',I (i + 1) s'→k (st (wI (i + 1)) s') = F (i + 1) s')→B k (st i s) = F i s)
    (hend:∀ k s,I len s→B k (st len s) = F len s) (s:α) (h0:I 0 s):zg B K0 (st 0 s) = F 0 s:=by
  refine zOL (L:=fun n i s=>zg B n (st i s)) hl F I (fun n i s hi hI h=>?_) (fun n s hI=>hend _ s hI) K0 (zHB hl) s h0
  refine hstep _ i s hi hI fun s' hI'=>?_
  rw [wI,zBs hi hl]
  exact h s' hI'
theorem zV {α:Type} {l:List α} {i:Nat} {d:α} (h:i < l.length):l.getD i d ∈ l:=by
  rw [List.getD_eq_getElem?_getD,List.getElem?_eq_getElem h]
  exact List.getElem_mem h
theorem zF (p:Bool):some (p,()) = bif p then some (true,()) else some (false,()):=by cases p <;> rfl
theorem jF {σ α ρ:Type} {B:(σ→Option ρ)→σ→Option ρ} {l:List α} (d:α) {p:α→Bool} {fin bad:Option ρ} (st:Int→σ) (hl:l.length ≤ Go.maxLen)
    (hin:∀ k (i:Nat) x,i < l.length→l.getD i d = x→x ∈ l→B k (st i) = bif p x then k (st (wI (i + 1))) else bad) (hout:∀ k,B k (st l.length) = fin):zg B K0 (st 0) = bif l.all p then fin else bad:=by
  have:=vB (α:=Unit) (B:=B) hl (fun i _=>st i) (fun i _=>bif (l.drop i).all p then fin else bad) (fun _ _=>True) (fun k i s hi _ h=>?_) (fun k s _=>?_) () trivial
  · simpa using this
  · rw [hin k i _ hi rfl (zV hi),h () trivial,jB d hi,List.all_cons]
    cases p (l.getD i d) <;> rfl
  · rw [hout,List.drop_of_length_le (Nat.le_refl _)]; rfl
theorem zFx {σ ρ:Type} {B:(σ→Option ρ)→σ→Option ρ} {n:Nat} (hn:n ≤ Go.maxLen) {p:Nat→Bool} {fin bad:Option ρ} (st:Int→σ)
    (hin:∀ k (i:Nat),i < n→B k (st i) = bif p i then k (st (wI (i + 1))) else bad) (hout:∀ k,B k (st n) = fin):zg B K0 (st 0) = bif (List.range n).all p then fin else bad:=by
  have hx:∀ i,i < n→(List.range n).getD i 0 = i:=fun i hi=>by simp [List.getD,hi]
  refine jF (l:=List.range n) 0 st (by simpa using hn) (fun k i x hi hx' _=>?_) (by simpa using hout)
  simp only [List.length_range] at hi
  rw [hx i hi] at hx'
  subst hx'
  exact hin k i hi
theorem zqe {σ α β ρ:Type} {B:(σ→Option ρ)→σ→Option ρ} {l:List β} (d:β) (st:Int→α→σ) (G:List β→α→Option ρ) (hl:l.length ≤ Go.maxLen)
    (hin:∀ k (i:Nat) x rest s,i < l.length→l.getD i d = x→x ∈ l→l.drop (i + 1) = rest→(∀ s',k (st (wI (i + 1)) s') = G rest s')→B k (st i s) = G (x :: rest) s) (hout:∀ k s,B k (st l.length s) = G [] s) (s:α):zg B K0 (st 0 s) = G l s:=by
  have:=vB (B:=B) hl st (fun i s=>G (l.drop i) s) (fun _ _=>True) (fun k i s hi _ h=>?_) (fun k s _=>?_) s trivial
  · simpa using this
  · rw [jB d hi]
    exact hin k i _ _ s hi rfl (zV hi) rfl fun s'=>h s' trivial
  · rw [hout,List.drop_of_length_le (Nat.le_refl _)]
def zW (p:Nat→Bool) (i:Nat):Nat→Bool
  | 0=>true
  | n + 1=>p i && zW p (i + 1) n
theorem qL {p:Nat→Bool}:∀ {n i:Nat},zW p i n = true ↔ ∀ j,i ≤ j→j < i + n→p j = true
  | 0,i=>by simp only [zW,true_iff]; intro j h1 h2; omega
  | n + 1,i=>by
    simp only [zW,Bool.and_eq_true,qL (n:=n)]
    constructor
    · rintro ⟨h1,h2⟩ j h3 h4
      by_cases e:j = i
      · subst e; exact h1
      · exact h2 j (by omega) (by omega)
    · intro h
      exact ⟨h i (Nat.le_refl i) (by omega),fun j h1 h2=>h j (by omega) (by omega)⟩
theorem z8 {σ ρ:Type} {B:(σ→Option ρ)→σ→Option ρ} {i0 n:Nat} (hn:n ≤ Go.maxLen) (h0:i0 ≤ n) {p:Nat→Bool} {fin bad:Option ρ} (st:Int→σ)
    (hin:∀ k (i:Nat),i0 ≤ i→i < n→B k (st i) = bif p i then k (st (wI (i + 1))) else bad) (hout:∀ k,B k (st n) = fin):zg B K0 (st i0) = bif zW p i0 (n - i0) then fin else bad:=by
  have key:∀ (m i fuel:Nat),i0 ≤ i→i + m = n→m < fuel→zg B fuel (st i) = bif zW p i m then fin else bad:=by
    intro m
    induction m with
    | zero =>
      intro i fuel _ h1 h2
      obtain ⟨f,rfl⟩:∃ f,fuel = f + 1:=⟨fuel - 1,by omega⟩
      obtain rfl:i = n:=by omega
      exact hout _
    | succ m ih =>
      intro i fuel h1 h2 h3
      obtain ⟨f,rfl⟩:∃ f,fuel = f + 1:=⟨fuel - 1,by omega⟩
      show B (zg B f) (st i) = _
      rw [hin _ i h1 (by omega),wI,zBs (len:=n) (by omega) hn,show ((i:Int) + 1) = ((i + 1:Nat):Int) by omega,ih (i + 1) f (by omega) (by omega) (by omega)]
      simp only [zW]
      cases p i <;> rfl
  exact key (n - i0) i0 K0 (Nat.le_refl _) (by omega) (by have:=zHB hn; omega)
theorem zjN {i:Nat} (h:1 ≤ i) (hi:i ≤ Go.maxLen):wI ((i:Int) - 1) = ((i - 1:Nat):Int):=by
  rw [show ((i:Int) - 1) = ((i - 1:Nat):Int) by omega]
  exact zIr (by omega)
section
variable {τ:Ty} {l:List τ.I} {g:τ.I × Unit→Option (Bool × Unit)} {p:τ.I→Bool}
theorem zk {ρ:Type} {i n:Nat} {x:Option ρ} (h:i < n):inR (i:Int) (n:Int) x = x:=zOO (by omega) (by omega)
theorem ltT {i n:Nat} (h:i < n):decide ((i:Int) < (n:Int)) = true:=decide_eq_true (by omega)
theorem ltF (n:Nat):decide ((n:Int) < (n:Int)) = false:=decide_eq_false (by omega)
theorem zG {α:Type} {d:α} {l:List α} {i:Nat}:ix d l (i:Int) = l.getD i d:=by rw [ix,Int.toNat_natCast]
theorem qR {B:((List τ.I × Option (τ.I × Unit→Option (Bool × Unit)) × Int × Int)→Option (Int × Unit))→(List τ.I × Option (τ.I × Unit→Option (Bool × Unit)) × Int × Int)→Option (Int × Unit)}
    (hB:∀ k l g n i,B k (l,g,n,i) = bif decide (i < n) then inR i (List.length l:Int) (Option.bind g fun q0=>Option.bind (q0 (ix (zd τ) l i,())) fun q1=>bif q1.1 then some (i,()) else k (l,g,n,wI (i + 1))) else some (-1,()))
    (hl:l.length ≤ Go.maxLen) (hp:∀ x ∈ l,g (x,()) = some (p x,())):zg B K0 (l,some g,(l.length:Int),0) = some (je p l 0,()):=by
  have:=vB (α:=Unit) (B:=B) hl (fun i _=>(l,some g,(l.length:Int),i)) (fun i _=>some (je p (l.drop i) i,())) (fun _ _=>True) (fun k i s hi _ h=>?_) (fun k s _=>?_) () trivial
  · simpa using this
  · rw [hB,ltT hi,zk hi,zG,Option.bind_some,hp _ (zV hi),Option.bind_some,h () trivial,jB (zd τ) hi]
    simp only [je,cond_true]
    cases p (l.getD i (zd τ)) <;> rfl
  · rw [hB,ltF,List.drop_of_length_le (Nat.le_refl _)]; rfl
theorem qv {f:Fnc (.pair (.sl τ) (.pair (.fn (.pair τ .unit) (.pair .bool .unit)) .unit)) (.pair (.int .i64) .unit)} (hf:f (l,some g,()) = some (je p l 0,())) :
    (Option.bind (f (l,some g,())) fun q0=>bif decide ((q0.1:Int) ≥ 0) then some (true,()) else some (false,())) = some (l.any p,()):=by
  rw [hf,Option.bind_some,zzE (p:=p) l 0 (Int.le_refl 0)]
  cases l.any p <;> rfl
theorem ve {α:Type} {l:List α} {p:α→Bool}:(!(l.any fun x=>!p x)) = l.all p:=by
  rw [List.not_any_eq_all_not]
  congr 1
  funext x
  simp
def eqL (τ:Ty) (a b:List τ.I):Bool:=decide (a.length = b.length) && (List.zip a b).all fun q=>eqI τ q.1 q.2
theorem ziP (a b:Nat):((a:Int) != (b:Int)) = !decide (a = b):=by
  by_cases h:a = b
  · subst h; simp
  · have:(a:Int) ≠ (b:Int):=by omega
    simp [h,this]
theorem zzF {α β:Type} {d:α} {e:β}:∀ (a:List α) (b:List β) (i:Nat),i < a.length→i < b.length→(List.zip a b).getD i (d,e) = (a.getD i d,b.getD i e)
  | x :: a,y :: b,0,_,_=>rfl
  | x :: a,y :: b,i + 1,h1,h2=>zzF a b i (by simpa using h1) (by simpa using h2)
  | [],_,_,h,_=>by simp at h
  | _ :: _,[],_,_,h=>by simp at h
theorem ym {x:Option (List τ.I × Unit)} (h:l.length * τ.bts ≤ zHJ) (hx:x = bif vi true τ (List.length (List.replicate 0 (zd τ)) + List.length l) then some (List.replicate 0 (zd τ) ++ l,()) else none) :
    (bif List.isEmpty l then zgp (some ([],())) x else x) = some (l,()):=by
  have e0:vi true τ (List.length (List.replicate 0 (zd τ)) + List.length l) = true:=by
    show decide ((0 + List.length l) * τ.bts ≤ zHJ) = true
    rw [Nat.zero_add]
    exact decide_eq_true h
  have e:x = some (l,()):=by rw [hx,e0]; rfl
  rw [e]
  cases l with
  | nil=>exact zOy _
  | cons y l=>rfl
end
end Go.Ev
end
section
namespace Go.Proofs.YtejbgeokcpillaaGreatDoor
open Go.Ev
abbrev tMe:Ty:=.st (.pair (.int .i64) (.pair (.int .i64) (.pair (.int .i64) .unit)))
abbrev pMe:Type:=(Int × (Int × (Int × Unit)))
abbrev jC:Ty:=.st (.pair (.int .i64) (.pair (.int .i64) (.pair (.int .i64) (.pair .str .unit))))
abbrev zd2:Type:=(Int × (Int × (Int × (ByteArray × Unit))))
abbrev zt:Ty:=.st (.pair (.int .i64) (.pair (.int .u64) .unit))
abbrev zC:Type:=(Int × (Int × Unit))
abbrev jh:zC:=zd zt
abbrev zr:Ty:=.st (.pair .bool (.pair (.int .i64) (.pair (.int .i64) (.pair (.int .i64) (.pair (.int .i64) (.pair (.int .i64) (.pair (.int .u64) (.pair (.int .u64) (.pair (.int .u64) (.pair (.int .i64) .unit))))))))))
abbrev zu:Type:=(Bool × (Int × (Int × (Int × (Int × (Int × (Int × (Int × (Int × (Int × Unit))))))))))
abbrev zK:zu:=zd zr
abbrev zA:Ty:=.st (.pair (.int .u64) (.pair (.int .i64) (.pair (.int .i64) (.pair (.int .i64) (.pair (.int .i64) (.pair (.int .i64) (.pair (.int .i64) (.pair (.int .u64) (.pair (.int .u64) (.pair (.int .i64) .unit))))))))))
abbrev zJ:Type:=(Int × (Int × (Int × (Int × (Int × (Int × (Int × (Int × (Int × (Int × Unit))))))))))
abbrev vU:zJ:=zd zA
abbrev qk:Ty:=.st (.pair .bool (.pair .str .unit))
abbrev qV:Type:=(Bool × (ByteArray × Unit))
abbrev zhs:qV:=zd qk
abbrev zv:Ty:=.st (.pair (.int .i64) (.pair (.int .i64) .unit))
abbrev qy:Type:=(Int × (Int × Unit))
abbrev zzG:qy:=zd zv
abbrev zU:Ty:=.st (.pair .bool (.pair zv (.pair zv (.pair (.int .i64) .unit))))
abbrev qe:Type:=(Bool × (qy × (qy × (Int × Unit))))
abbrev qh:qe:=zd zU
abbrev zi:Ty:=.st (.pair .bool (.pair .str (.pair (.int .i64) (.pair (.int .i64) (.pair zv .unit)))))
abbrev zh:Type:=(Bool × (ByteArray × (Int × (Int × (qy × Unit)))))
abbrev zj:zh:=zd zi
abbrev zY:Ty:=.st (.pair .bool (.pair (.int .i64) (.pair (.int .i64) (.pair (.int .i64) (.pair .str .unit)))))
abbrev qr:Type:=(Bool × (Int × (Int × (Int × (ByteArray × Unit)))))
abbrev zaS:qr:=zd zY
abbrev zd3:Ty:=.st (.pair (.int .i64) (.pair (.int .u64) (.pair (.int .i64) .unit)))
abbrev zj7:Type:=(Int × (Int × (Int × Unit)))
abbrev zz:Ty:=.st (.pair .bool (.pair (.int .i64) (.pair (.int .i64) (.pair zd3 (.pair zd3 .unit)))))
abbrev zx:Type:=(Bool × (Int × (Int × (zj7 × (zj7 × Unit)))))
abbrev zR:zx:=zd zz
abbrev qm:Ty:=.st (.pair (.int .i64) (.pair (.int .i64) (.pair zv .unit)))
abbrev qS:Type:=(Int × (Int × (qy × Unit)))
abbrev zcp:Ty:=.st (.pair (.int .i64) (.pair (.int .i64) (.pair (.int .i64) (.pair (.int .i64) (.pair (.int .i64) (.pair (.int .u64) .unit))))))
abbrev zbn:Type:=(Int × (Int × (Int × (Int × (Int × (Int × Unit))))))
abbrev qt:zbn:=zd zcp
abbrev qD:Ty:=.st (.pair .str (.pair .str (.pair (.int .i64) (.pair .bool .unit))))
abbrev qA:Type:=(ByteArray × (ByteArray × (Int × (Bool × Unit))))
abbrev qQ:qA:=zd qD
abbrev jq:Ty:=.st (.pair (.int .i64) (.pair (.int .i64) .unit))
abbrev zE:Type:=(Int × (Int × Unit))
abbrev qB:zE:=zd jq
abbrev vV:Ty:=.st (.pair (.sl zz) (.pair (.fn (.pair zz .unit) (.pair .bool .unit)) .unit))
abbrev zcq:Type:=((List zx) × ((Option ((zx × Unit)→Option (Bool × Unit))) × Unit))
abbrev yn:Ty:=.st (.pair (.sl zi) (.pair (.fn (.pair zi .unit) (.pair .bool .unit)) .unit))
abbrev zcr:Type:=((List zh) × ((Option ((zh × Unit)→Option (Bool × Unit))) × Unit))
abbrev y8:Ty:=.st (.pair (.sl zr) (.pair (.fn (.pair zr .unit) (.pair .bool .unit)) .unit))
abbrev zfq:Type:=((List zu) × ((Option ((zu × Unit)→Option (Bool × Unit))) × Unit))
abbrev znM:Ty:=.st (.pair (.int .u8) (.pair (.int .u8) .unit))
abbrev zw:Ty:=.st (.pair (.sl zt) (.pair (.sl (.int .i64)) (.pair (.sl qD) (.pair (.sl jq) (.pair (.sl zcp) (.pair (.int .i64) (.pair (.int .i64) (.pair (.int .i64) (.pair (.int .i64) .unit)))))))))
abbrev zf:Type:=((List zC) × ((List Int) × ((List qA) × ((List zE) × ((List zbn) × (Int × (Int × (Int × (Int × Unit)))))))))
abbrev zy:Ty:=.st (.pair (.sl qk) (.pair (.sl zU) (.pair (.sl zi) (.pair (.sl zY) (.pair (.sl zz) (.pair (.sl (.arr 4 (.int .u64))) (.pair (.sl zv) (.pair (.arr 4 (.int .u64)) (.pair (.arr 4 (.int .u64)) .unit)))))))))
abbrev zp:Type:=((List qV) × ((List qe) × ((List zh) × ((List qr) × ((List zx) × ((List (List Int)) × ((List qy) × ((List Int) × ((List Int) × Unit)))))))))
abbrev ze:zp:=zd zy
abbrev zo:Ty:=.st (.pair (.int .u64) (.pair (.sl zy) (.pair (.sl (.sl (.int .i64))) (.pair (.sl zr) (.pair (.sl zA) (.pair (.sl (.int .i64)) .unit))))))
abbrev zb:Type:=(Int × ((List zp) × ((List (List Int)) × ((List zu) × ((List zJ) × ((List Int) × Unit))))))
abbrev qp:Ty:=.st (.pair zw (.pair zo .unit))
abbrev qW:Type:=(zf × (zb × Unit))
def types:TT:=(.node (.node (.node (.node (.node (.node (.node (.node (.node .nil 1 (.fn .unit .unit) .nil) 2 (.int .i64) .nil) 3 (.int .i64) (.node .nil 4 .bool .nil)) 5 (.int .u8) (.node (.node (.node .nil 6 (.int .u8) .nil) 7 (.st (.pair (.int .i64) (.pair (.int .i64) (.pair .bool (.pair (.int .u8) .unit))))) .nil) 8 (.st (.pair (.int .i64) (.pair (.int .i64) (.pair .bool (.pair (.int .u8) .unit))))) (.node .nil 9 .str .nil))) 10 .str (.node (.node (.node (.node .nil 11 .str .nil) 12 (.int .u64) .nil) 21 (.int .i32) (.node .nil 22 (.sl zt) .nil)) 23 (.sl (.int .i64)) (.node (.node .nil 24 (.sl qD) .nil) 25 (.sl jq) (.node .nil 26 (.sl zcp) .nil)))) 27 (.st (.pair (.sl zt) (.pair (.sl (.int .i64)) (.pair (.sl qD) (.pair (.sl jq) (.pair (.sl zcp) (.pair (.int .i64) (.pair (.int .i64) (.pair (.int .i64) (.pair (.int .i64) .unit)))))))))) (.node (.node (.node (.node (.node .nil 28 zw .nil) 29 (.int .u64) .nil) 30 (.sl zy) (.node .nil 31 (.sl (.sl (.int .i64))) .nil)) 32 (.sl zr) (.node (.node (.node .nil 33 (.sl zA) .nil) 34 (.st (.pair (.int .u64) (.pair (.sl zy) (.pair (.sl (.sl (.int .i64))) (.pair (.sl zr) (.pair (.sl zA) (.pair (.sl (.int .i64)) .unit))))))) .nil) 35 zo (.node .nil 36 (.st (.pair (.int .i64) (.pair (.int .i64) (.pair (.int .i64) .unit)))) .nil))) 37 tMe (.node (.node (.node (.node .nil 38 (.st (.pair (.int .i64) (.pair (.int .i64) (.pair (.int .i64) (.pair .str .unit))))) .nil) 39 jC .nil) 40 (.fn (.pair zo .unit) (.pair zo .unit)) (.node .nil 41 (.int .i64) .nil)) 43 (.fn (.pair zw (.pair zo (.pair tMe (.pair jC .unit)))) (.pair zo (.pair (.int .i64) (.pair (.int .i64) .unit)))) (.node (.node .nil 44 (.fn (.pair zw (.pair zo (.pair tMe (.pair (.int .i64) (.pair (.int .i64) (.pair (.int .i64) (.pair .str .unit))))))) (.pair zo (.pair (.int .i64) (.pair (.int .i64) .unit)))) .nil) 46 (.fn (.pair zw (.pair zo (.pair tMe .unit))) (.pair (.sl (.int .i64)) (.pair (.int .i64) .unit))) (.node .nil 47 (.sl zv) .nil))))) 49 (.fn (.pair zw (.pair zo (.pair tMe .unit))) (.pair (.sl zv) (.pair (.int .i64) .unit))) (.node (.node (.node (.node (.node (.node .nil 50 (.fn .unit (.pair .bool .unit)) .nil) 51 (.fn (.pair zo (.pair zo .unit)) (.pair .bool .unit)) .nil) 52 (.fn (.pair (.sl (.int .i64)) (.pair (.sl (.int .i64)) .unit)) (.pair .bool .unit)) (.node .nil 53 (.fn (.pair (.sl zv) (.pair (.sl zv) .unit)) (.pair .bool .unit)) .nil)) 54 (.fn (.pair zw (.pair zo (.pair tMe (.pair jC .unit)))) (.pair .bool .unit)) (.node (.node (.node .nil 55 (.st (.pair (.int .i64) (.pair (.int .u64) .unit))) .nil) 56 zt .nil) 57 (.fn (.pair zw (.pair zo (.pair tMe .unit))) (.pair .bool .unit)) (.node .nil 58 (.fn (.pair zw (.pair zo .unit)) (.pair .bool .unit)) .nil))) 59 (.fn (.pair zo .unit) (.pair (.int .i64) .unit)) (.node (.node (.node (.node .nil 60 (.fn (.pair zt (.pair zt .unit)) (.pair .bool .unit)) .nil) 61 (.fn (.pair zt .unit) (.pair .bool .unit)) .nil) 62 (.fn (.pair zw (.pair zo (.pair zo (.pair zt .unit)))) (.pair .bool .unit)) (.node .nil 63 (.fn (.pair zw (.pair zo (.pair tMe (.pair jC (.pair zt .unit))))) (.pair .bool .unit)) .nil)) 64 (.fn (.pair zw (.pair zo (.pair zo (.pair tMe (.pair jC (.pair zt .unit)))))) (.pair .bool .unit)) (.node (.node .nil 65 (.fn (.pair (.sl zr) .unit) (.pair (.sl zr) .unit)) .nil) 66 (.st (.pair .bool (.pair (.int .i64) (.pair (.int .i64) (.pair (.int .i64) (.pair (.int .i64) (.pair (.int .i64) (.pair (.int .u64) (.pair (.int .u64) (.pair (.int .u64) (.pair (.int .i64) .unit))))))))))) (.node .nil 67 zr .nil)))) 68 (.fn (.pair (.sl zA) .unit) (.pair (.sl zA) .unit)) (.node (.node (.node (.node (.node .nil 69 (.st (.pair (.int .u64) (.pair (.int .i64) (.pair (.int .i64) (.pair (.int .i64) (.pair (.int .i64) (.pair (.int .i64) (.pair (.int .i64) (.pair (.int .u64) (.pair (.int .u64) (.pair (.int .i64) .unit))))))))))) .nil) 70 zA .nil) 71 (.fn (.pair (.sl (.int .i64)) .unit) (.pair (.sl (.int .i64)) .unit)) (.node .nil 72 (.fn (.pair (.sl (.sl (.int .i64))) .unit) (.pair (.sl (.sl (.int .i64))) .unit)) .nil)) 73 (.fn (.pair (.sl zy) .unit) (.pair (.sl zy) .unit)) (.node (.node .nil 74 (.sl qk) .nil) 75 (.sl zU) (.node .nil 76 (.sl zi) .nil))) 77 (.sl zY) (.node (.node (.node (.node .nil 78 (.sl zz) .nil) 79 (.sl (.arr 4 (.int .u64))) .nil) 80 (.arr 4 (.int .u64)) (.node .nil 81 (.st (.pair (.sl qk) (.pair (.sl zU) (.pair (.sl zi) (.pair (.sl zY) (.pair (.sl zz) (.pair (.sl (.arr 4 (.int .u64))) (.pair (.sl zv) (.pair (.arr 4 (.int .u64)) (.pair (.arr 4 (.int .u64)) .unit)))))))))) .nil)) 82 zy (.node (.node .nil 83 (.fn (.pair (.sl qk) .unit) (.pair (.sl qk) .unit)) .nil) 84 (.st (.pair .bool (.pair .str .unit))) (.node .nil 85 qk .nil)))))) 86 (.fn (.pair (.sl zU) .unit) (.pair (.sl zU) .unit)) (.node (.node (.node (.node (.node (.node (.node .nil 87 (.st (.pair (.int .i64) (.pair (.int .i64) .unit))) .nil) 88 zv .nil) 89 (.st (.pair .bool (.pair zv (.pair zv (.pair (.int .i64) .unit))))) (.node .nil 90 zU .nil)) 91 (.fn (.pair (.sl zi) .unit) (.pair (.sl zi) .unit)) (.node (.node (.node .nil 92 (.st (.pair .bool (.pair .str (.pair (.int .i64) (.pair (.int .i64) (.pair zv .unit)))))) .nil) 93 zi .nil) 94 (.fn (.pair (.sl zY) .unit) (.pair (.sl zY) .unit)) (.node .nil 95 (.st (.pair .bool (.pair (.int .i64) (.pair (.int .i64) (.pair (.int .i64) (.pair .str .unit)))))) .nil))) 96 zY (.node (.node (.node (.node .nil 97 (.fn (.pair (.sl zz) .unit) (.pair (.sl zz) .unit)) .nil) 98 (.st (.pair (.int .i64) (.pair (.int .u64) (.pair (.int .i64) .unit)))) .nil) 99 zd3 (.node .nil 100 (.st (.pair .bool (.pair (.int .i64) (.pair (.int .i64) (.pair zd3 (.pair zd3 .unit)))))) .nil)) 101 zz (.node (.node .nil 102 (.fn (.pair (.sl (.arr 4 (.int .u64))) .unit) (.pair (.sl (.arr 4 (.int .u64))) .unit)) .nil) 103 (.fn (.pair (.sl zv) .unit) (.pair (.sl zv) .unit)) (.node .nil 104 (.fn (.pair zw (.pair zo (.pair tMe (.pair .str .unit)))) (.pair zo (.pair (.int .i64) (.pair (.int .i64) .unit)))) .nil)))) 106 (.fn (.pair zw (.pair zo (.pair tMe (.pair (.int .i64) .unit)))) (.pair zo (.pair (.int .i64) .unit))) (.node (.node (.node (.node (.node .nil 107 (.fn (.pair zw (.pair zo (.pair tMe (.pair (.int .i64) (.pair (.int .i64) .unit))))) (.pair zo (.pair (.int .i64) .unit))) .nil) 109 (.fn (.pair (.sl zi) (.pair .str (.pair (.int .i64) .unit))) (.pair (.sl zi) (.pair (.int .i64) (.pair (.int .i64) .unit)))) .nil) 111 (.fn (.pair (.sl zi) (.pair (.int .i64) (.pair (.int .i64) .unit))) (.pair (.sl zi) (.pair (.int .i64) .unit))) (.node .nil 112 (.fn (.pair (.sl zi) (.pair (.int .i64) (.pair (.int .i64) (.pair zv .unit)))) (.pair (.sl zi) (.pair (.int .i64) .unit))) .nil)) 113 (.fn (.pair zo (.pair tMe .unit)) (.pair zv .unit)) (.node (.node (.node .nil 114 (.fn (.pair (.sl zi) (.pair (.int .i64) (.pair (.int .i64) .unit))) (.pair .bool .unit)) .nil) 115 (.fn (.pair (.sl zi) (.pair (.int .i64) (.pair (.int .i64) (.pair (.int .i64) (.pair (.int .i64) .unit))))) (.pair (.sl zi) (.pair (.int .i64) .unit))) .nil) 116 (.fn (.pair zo (.pair (.int .i64) (.pair zy .unit))) (.pair zo .unit)) (.node .nil 117 (.fn (.pair (.sl zi) (.pair (.int .i64) .unit)) (.pair (.sl (.int .i64)) .unit)) .nil))) 118 (.fn (.pair zo (.pair tMe .unit)) (.pair (.sl zi) .unit)) (.node (.node (.node (.node .nil 119 (.fn (.pair zw (.pair (.int .i64) (.pair (.int .i64) .unit))) (.pair .bool .unit)) .nil) 120 (.fn (.pair (.sl zi) (.pair zv .unit)) (.pair (.sl (.int .i64)) .unit)) .nil) 121 (.fn .unit (.pair zw .unit)) (.node .nil 122 (.fn (.pair zw .unit) (.pair zo (.pair (.int .i64) .unit))) .nil)) 123 (.fn (.pair (.sl (.sl (.int .i64))) (.pair (.sl (.sl (.int .i64))) .unit)) (.pair .bool .unit)) (.node (.node .nil 124 (.fn (.pair (.sl zr) (.pair (.sl zr) .unit)) (.pair .bool .unit)) .nil) 125 (.fn (.pair (.sl zA) (.pair (.sl zA) .unit)) (.pair .bool .unit)) (.node .nil 126 (.fn (.pair zy (.pair zy .unit)) (.pair .bool .unit)) .nil))))) 127 (.st (.pair zw (.pair zo .unit))) (.node (.node (.node (.node (.node (.node .nil 128 qp .nil) 129 (.sl (.fn .unit (.pair .bool .unit))) .nil) 130 (.fn (.pair zw (.pair zo (.pair zt .unit))) (.pair zo (.pair (.int .i64) .unit))) (.node .nil 131 (.fn (.pair zw (.pair zo (.pair tMe (.pair (.fn (.pair (.sl zi) .unit) (.pair (.sl zi) (.pair (.int .i64) .unit))) .unit)))) (.pair zo (.pair (.int .i64) .unit))) .nil)) 132 (.fn (.pair (.sl zi) .unit) (.pair (.sl zi) (.pair (.int .i64) .unit))) (.node (.node (.node .nil 133 (.fn (.pair (.sl zi) (.pair (.int .i64) (.pair (.int .i64) (.pair (.int .i64) .unit)))) (.pair (.sl zi) (.pair (.int .i64) .unit))) .nil) 134 (.fn (.pair zw (.pair tMe .unit)) (.pair .bool .unit)) .nil) 135 (.fn (.pair (.sl zi) .unit) (.pair .bool .unit)) (.node .nil 136 (.fn (.pair (.int .i64) .unit) (.pair .bool .unit)) .nil))) 137 (.fn (.pair .str .unit) (.pair .bool .unit)) (.node (.node (.node (.node .nil 138 (.fn (.pair (.sl zi) (.pair (.int .i64) (.pair zi .unit))) (.pair (.sl zi) .unit)) .nil) 139 (.fn (.pair zv .unit) (.pair .bool .unit)) .nil) 140 (.fn (.pair (.sl zi) (.pair qm .unit)) (.pair (.sl (.int .i64)) .unit)) (.node .nil 141 (.st (.pair (.int .i64) (.pair (.int .i64) (.pair zv .unit)))) .nil)) 142 qm (.node (.node .nil 143 (.fn (.pair (.int .i64) .unit) (.pair qm .unit)) .nil) 144 (.fn (.pair zw (.pair (.int .i64) .unit)) (.pair .bool .unit)) (.node .nil 145 (.fn (.pair zv .unit) (.pair qm .unit)) .nil)))) 146 (.st (.pair (.int .i64) (.pair (.int .i64) (.pair (.int .i64) (.pair (.int .i64) (.pair (.int .i64) (.pair (.int .u64) .unit))))))) (.node (.node (.node (.node (.node .nil 147 zcp .nil) 148 (.st (.pair .str (.pair .str (.pair (.int .i64) (.pair .bool .unit))))) .nil) 149 qD (.node .nil 150 (.st (.pair (.int .i64) (.pair (.int .i64) .unit))) .nil)) 151 jq (.node (.node .nil 152 (.fn (.pair zw .unit) (.pair .bool .unit)) .nil) 153 (.fn (.pair zw .unit) (.pair (.sl (.sl (.int .i64))) .unit)) (.node .nil 154 (.fn (.pair zw (.pair zcp .unit)) (.pair zy .unit)) .nil))) 155 (.fn (.pair (.sl qk) (.pair (.sl qk) .unit)) (.pair .bool .unit)) (.node (.node (.node (.node .nil 156 (.fn (.pair (.sl zU) (.pair (.sl zU) .unit)) (.pair .bool .unit)) .nil) 157 (.fn (.pair (.sl zi) (.pair (.sl zi) .unit)) (.pair .bool .unit)) .nil) 158 (.fn (.pair (.sl zY) (.pair (.sl zY) .unit)) (.pair .bool .unit)) (.node .nil 159 (.fn (.pair (.sl zz) (.pair (.sl zz) .unit)) (.pair .bool .unit)) .nil)) 160 (.fn (.pair (.sl zy) (.pair (.fn (.pair zy .unit) (.pair .bool .unit)) .unit)) (.pair .bool .unit)) (.node (.node .nil 161 (.fn (.pair (.sl qk) .unit) (.pair .bool .unit)) .nil) 162 (.fn (.pair (.sl zU) .unit) (.pair .bool .unit)) (.node .nil 163 (.fn (.pair (.sl zY) .unit) (.pair .bool .unit)) .nil))))))) 164 (.fn (.pair (.sl zz) .unit) (.pair .bool .unit)) (.node (.node (.node (.node (.node (.node (.node (.node .nil 165 (.fn (.pair zy .unit) (.pair .bool .unit)) .nil) 166 (.fn (.pair zw (.pair (.sl (.sl (.int .i64))) .unit)) (.pair .bool .unit)) .nil) 167 (.fn (.pair (.sl zr) .unit) (.pair .bool .unit)) (.node .nil 168 (.fn (.pair (.sl zA) .unit) (.pair .bool .unit)) .nil)) 169 (.fn (.pair zo (.pair zv .unit)) (.pair .bool .unit)) (.node (.node (.node .nil 170 (.fn (.pair (.sl zr) (.pair (.fn (.pair zr .unit) (.pair .bool .unit)) .unit)) (.pair .bool .unit)) .nil) 171 (.fn (.pair zr .unit) (.pair .bool .unit)) .nil) 172 (.fn (.pair (.sl zA) (.pair (.fn (.pair zA .unit) (.pair .bool .unit)) .unit)) (.pair .bool .unit)) (.node .nil 173 (.fn (.pair zA .unit) (.pair .bool .unit)) .nil))) 174 (.fn (.pair (.sl (.int .i64)) (.pair (.fn (.pair (.int .i64) .unit) (.pair .bool .unit)) .unit)) (.pair .bool .unit)) (.node (.node (.node (.node .nil 175 (.fn (.pair (.int .i64) .unit) (.pair (.fn (.pair zv .unit) (.pair .bool .unit)) .unit)) .nil) 176 (.fn (.pair (.sl zU) (.pair (.fn (.pair zU .unit) (.pair .bool .unit)) .unit)) (.pair .bool .unit)) .nil) 177 (.fn (.pair zU .unit) (.pair .bool .unit)) (.node .nil 178 (.fn (.pair (.sl zi) (.pair (.fn (.pair zi .unit) (.pair .bool .unit)) .unit)) (.pair .bool .unit)) .nil)) 179 (.fn (.pair zi .unit) (.pair .bool .unit)) (.node (.node .nil 180 (.fn (.pair (.sl zv) (.pair (.fn (.pair zv .unit) (.pair .bool .unit)) .unit)) (.pair .bool .unit)) .nil) 181 (.fn (.pair (.sl zY) (.pair (.fn (.pair zY .unit) (.pair .bool .unit)) .unit)) (.pair .bool .unit)) (.node .nil 182 (.fn (.pair (.int .i64) (.pair (.int .i64) .unit)) (.pair .bool .unit)) .nil)))) 183 (.fn (.pair zY .unit) (.pair .bool .unit)) (.node (.node (.node (.node (.node .nil 184 (.fn (.pair (.sl zz) (.pair (.fn (.pair zz .unit) (.pair .bool .unit)) .unit)) (.pair .bool .unit)) .nil) 185 (.fn (.pair zz .unit) (.pair .bool .unit)) .nil) 186 (.ptr vV) (.node .nil 187 (.fn (.pair (.sl zz) (.pair (.fn (.pair zz .unit) (.pair .bool .unit)) .unit)) (.pair (.ptr vV) .unit)) .nil)) 188 (.fn .unit (.pair (.sl (.int .i64)) .unit)) (.node (.node (.node .nil 190 (.fn (.pair zo (.pair (.int .i64) .unit)) (.pair (.int .u64) (.pair (.int .i64) .unit))) .nil) 192 (.fn (.pair (.int .i64) .unit) (.pair zt (.pair (.int .i64) .unit))) .nil) 193 (.fn (.pair (.sl zy) (.pair (.sl zy) (.pair (.fn (.pair (.int .i64) .unit) (.pair .bool .unit)) .unit))) (.pair (.sl zy) .unit)) (.node .nil 194 (.fn (.pair (.sl (.sl (.int .i64))) (.pair (.sl (.sl (.int .i64))) (.pair (.fn (.pair (.int .i64) .unit) (.pair .bool .unit)) .unit))) (.pair (.sl (.sl (.int .i64))) .unit)) .nil))) 195 (.fn (.pair (.sl (.int .i64)) (.pair (.sl (.int .i64)) (.pair (.fn (.pair (.int .i64) .unit) (.pair .bool .unit)) .unit))) (.pair (.sl (.int .i64)) .unit)) (.node (.node (.node (.node .nil 196 (.fn (.pair (.sl zy) (.pair (.sl zy) (.pair (.fn (.pair zy (.pair zy .unit)) (.pair .bool .unit)) .unit))) (.pair .bool .unit)) .nil) 197 (.fn (.pair (.sl (.sl (.int .i64))) (.pair (.sl (.sl (.int .i64))) (.pair (.fn (.pair (.sl (.int .i64)) (.pair (.sl (.int .i64)) .unit)) (.pair .bool .unit)) .unit))) (.pair .bool .unit)) .nil) 198 (.ptr yn) (.node .nil 199 (.fn (.pair (.sl zi) .unit) (.pair (.ptr yn) .unit)) .nil)) 200 (.fn (.pair zi .unit) (.pair (.sl zi) (.pair (.int .i64) (.pair (.int .i64) .unit)))) (.node (.node .nil 201 (.fn (.pair zi (.pair qm .unit)) (.pair zi .unit)) .nil) 202 (.fn (.pair (.sl zi) (.pair (.int .i64) (.pair qm (.pair qm .unit)))) (.pair (.sl zi) (.pair (.int .i64) .unit))) (.node .nil 203 (.fn (.pair (.int .i64) (.pair zi .unit)) (.pair (.sl zi) (.pair (.int .i64) .unit))) .nil))))) 204 (.fn (.pair zw (.pair zo (.pair (.int .i64) .unit))) (.pair .bool .unit)) (.node (.node (.node (.node (.node (.node .nil 205 (.fn (.pair zi .unit) (.pair qm .unit)) .nil) 206 (.fn (.pair (.int .i64) (.pair (.int .i64) (.pair (.int .i64) .unit))) (.pair .bool .unit)) .nil) 207 (.fn (.pair zt (.pair (.int .i64) .unit)) (.pair .bool .unit)) (.node .nil 208 (.sl (.fn (.pair zw .unit) (.pair .bool .unit))) .nil)) 209 (.fn (.pair (.sl qk) (.pair (.fn (.pair qk .unit) (.pair .bool .unit)) .unit)) (.pair .bool .unit)) (.node (.node (.node .nil 210 (.fn (.pair qk .unit) (.pair .bool .unit)) .nil) 211 (.fn (.pair (.sl zU) (.pair zv (.pair (.int .i64) .unit))) (.pair (.int .i64) .unit)) .nil) 212 (.pair (.int .i64) (.int .i64)) (.node .nil 213 (.fn (.pair zA (.pair zA .unit)) (.pair (.int .i64) .unit)) .nil))) 214 (.st (.pair (.sl zz) (.pair (.fn (.pair zz .unit) (.pair .bool .unit)) .unit))) (.node (.node (.node (.node .nil 215 vV .nil) 216 (.fn (.pair (.sl zr) (.pair (.int .i64) .unit)) (.pair (.int .u64) (.pair (.int .i64) .unit))) .nil) 217 (.sl (.int .u64)) (.node .nil 218 (.fn (.pair (.sl zz) (.pair (.int .i64) .unit)) (.pair (.int .u64) (.pair (.int .i64) .unit))) .nil)) 219 (.fn (.pair (.sl (.int .u64)) .unit) (.pair (.int .u64) (.pair (.int .i64) .unit))) (.node (.node .nil 220 (.fn (.pair zo (.pair (.int .i64) (.pair (.fn (.pair zy .unit) (.pair (.arr 4 (.int .u64)) .unit)) .unit))) (.pair (.int .u64) (.pair (.int .i64) .unit))) .nil) 221 (.fn (.pair zy .unit) (.pair (.arr 4 (.int .u64)) .unit)) (.node .nil 222 (.fn (.pair (.int .u64) (.pair (.int .u64) .unit)) (.pair (.int .u64) (.pair (.int .i64) .unit))) .nil)))) 223 (.fn (.pair (.sl (.arr 4 (.int .u64))) (.pair (.sl (.arr 4 (.int .u64))) .unit)) (.pair .bool .unit)) (.node (.node (.node (.node (.node .nil 224 (.fn (.pair (.int .u8) .unit) (.pair .bool .unit)) .nil) 225 (.fn (.pair .str (.pair (.fn (.pair (.int .u8) .unit) (.pair .bool .unit)) .unit)) (.pair .bool .unit)) .nil) 226 (.fn (.pair (.sl zi) (.pair (.fn (.pair zi .unit) (.pair .bool .unit)) .unit)) (.pair (.ptr yn) .unit)) (.node .nil 228 (.fn .unit (.pair (.int .i64) (.pair (.int .i64) .unit))) .nil)) 229 (.st (.pair (.sl zi) (.pair (.fn (.pair zi .unit) (.pair .bool .unit)) .unit))) (.node (.node .nil 230 yn .nil) 231 (.fn (.pair (.sl zt) .unit) (.pair .bool .unit)) (.node .nil 232 (.fn (.pair (.sl qD) .unit) (.pair .bool .unit)) .nil))) 233 (.fn (.pair (.sl jq) (.pair (.sl zt) (.pair (.int .i64) .unit))) (.pair .bool .unit)) (.node (.node (.node (.node .nil 234 (.fn (.pair (.sl zcp) .unit) (.pair .bool .unit)) .nil) 235 (.fn (.pair zw (.pair zo (.pair zv (.pair (.int .i64) .unit)))) (.pair .bool .unit)) .nil) 236 (.fn (.pair zw (.pair zo (.pair (.int .i64) (.pair (.int .i64) .unit)))) (.pair .bool .unit)) (.node .nil 237 (.fn (.pair zw (.pair zy (.pair (.int .i64) .unit))) (.pair .bool .unit)) .nil)) 238 (.int .u64) (.node (.node .nil 239 (.fn (.pair (.sl zt) (.pair (.fn (.pair zt .unit) (.pair .bool .unit)) .unit)) (.pair .bool .unit)) .nil) 240 (.fn (.pair zt (.pair zt .unit)) (.pair (.int .i64) .unit)) (.node .nil 241 (.fn (.pair qD .unit) (.pair .bool .unit)) .nil)))))) 242 (.fn (.pair (.sl qD) (.pair (.fn (.pair qD .unit) (.pair .bool .unit)) .unit)) (.pair .bool .unit)) (.node (.node (.node (.node (.node (.node (.node .nil 243 (.fn (.pair (.sl .str) .unit) (.pair .bool .unit)) .nil) 244 (.sl .str) .nil) 245 (.fn (.pair zw .unit) (.pair (.sl .str) .unit)) (.node .nil 246 (.fn (.pair (.sl zt) (.pair zt .unit)) (.pair .bool .unit)) .nil)) 247 (.fn (.pair zcp .unit) (.pair (.sl (.int .i64)) .unit)) (.node (.node (.node .nil 248 (.fn (.pair (.sl zy) (.pair (.fn (.pair zy .unit) (.pair .bool .unit)) .unit)) (.pair (.int .i64) .unit)) .nil) 249 (.fn (.pair (.sl qk) (.pair (.fn (.pair qk .unit) (.pair .bool .unit)) .unit)) (.pair (.int .i64) .unit)) .nil) 250 (.fn (.pair (.sl zU) (.pair (.fn (.pair zU .unit) (.pair .bool .unit)) .unit)) (.pair (.int .i64) .unit)) (.node .nil 251 (.fn (.pair (.sl zi) (.pair (.fn (.pair zi .unit) (.pair .bool .unit)) .unit)) (.pair (.int .i64) .unit)) .nil))) 252 (.fn (.pair (.sl zY) (.pair (.fn (.pair zY .unit) (.pair .bool .unit)) .unit)) (.pair (.int .i64) .unit)) (.node (.node (.node (.node .nil 253 (.fn (.pair (.sl zz) (.pair (.fn (.pair zz .unit) (.pair .bool .unit)) .unit)) (.pair (.int .i64) .unit)) .nil) 254 (.fn (.pair zd3 .unit) (.pair .bool .unit)) .nil) 255 (.fn (.pair (.sl (.int .i64)) (.pair (.fn (.pair (.int .i64) .unit) (.pair .bool .unit)) .unit)) (.pair (.int .i64) .unit)) (.node .nil 256 (.fn (.pair (.int .i64) (.pair (.int .u64) (.pair (.int .u64) .unit))) (.pair (.int .u64) (.pair (.int .i64) .unit))) .nil)) 257 (.fn (.pair (.sl (.int .i64)) .unit) (.pair (.int .i64) .unit)) (.node (.node .nil 258 (.fn (.pair (.int .u64) (.pair (.int .u64) .unit)) (.pair (.int .i64) .unit)) .nil) 259 (.fn (.pair (.int .i64) (.pair (.int .i64) .unit)) (.pair (.int .i64) .unit)) (.node .nil 260 (.fn (.pair (.sl zr) (.pair (.fn (.pair zr .unit) (.pair .bool .unit)) .unit)) (.pair (.int .i64) .unit)) .nil)))) 261 (.fn (.pair (.sl zA) (.pair (.fn (.pair zA .unit) (.pair .bool .unit)) .unit)) (.pair (.int .i64) .unit)) (.node (.node (.node (.node (.node .nil 262 (.fn (.pair (.sl zv) (.pair (.fn (.pair zv .unit) (.pair .bool .unit)) .unit)) (.pair (.int .i64) .unit)) .nil) 263 (.fn (.pair (.sl zr) .unit) (.pair (.sl (.int .i64)) .unit)) .nil) 264 (.fn (.pair zr .unit) (.pair (.int .i64) .unit)) (.node .nil 265 (.fn (.pair (.sl zz) .unit) (.pair (.ptr vV) .unit)) .nil)) 267 (.fn (.pair (.int .u64) (.pair (.int .u64) (.pair (.int .u64) .unit))) (.pair (.int .u64) (.pair (.int .u64) .unit))) (.node (.node .nil 268 (.fn (.pair (.sl (.int .u8)) (.pair (.fn (.pair (.int .u8) .unit) (.pair .bool .unit)) .unit)) (.pair .bool .unit)) .nil) 269 (.sl (.int .u8)) (.node .nil 270 (.fn (.pair (.sl zt) (.pair zt .unit)) (.pair (.int .i64) .unit)) .nil))) 271 (.fn (.pair (.int .i64) .unit) (.pair zt .unit)) (.node (.node (.node (.node .nil 272 (.fn (.pair (.sl jq) (.pair (.int .i64) .unit)) (.pair .bool .unit)) .nil) 273 (.fn (.pair (.sl zr) (.pair (.int .i64) (.pair (.int .i64) .unit))) (.pair .bool .unit)) .nil) 274 (.fn (.pair zA (.pair zA .unit)) (.pair .bool .unit)) (.node .nil 275 (.fn (.pair zr (.pair (.int .i64) .unit)) (.pair (.int .u64) .unit)) .nil)) 276 (.fn (.pair (.sl zt) (.pair (.fn (.pair zt .unit) (.pair .bool .unit)) .unit)) (.pair (.int .i64) .unit)) (.node (.node .nil 277 (.fn (.pair (.sl qD) (.pair (.fn (.pair qD .unit) (.pair .bool .unit)) .unit)) (.pair (.int .i64) .unit)) .nil) 278 (.pair .str (.int .i64)) (.node .nil 279 (.fn (.pair .str (.pair .str .unit)) (.pair .str .unit)) .nil))))) 280 (.fn (.pair (.int .u64) .unit) (.pair .bool .unit)) (.node (.node (.node (.node (.node (.node .nil 281 (.ptr y8) .nil) 282 (.fn (.pair (.sl zr) .unit) (.pair (.ptr y8) .unit)) .nil) 283 (.fn (.pair (.sl (.int .u8)) (.pair (.fn (.pair (.int .u8) .unit) (.pair .bool .unit)) .unit)) (.pair (.int .i64) .unit)) (.node .nil 284 (.fn (.pair .str (.pair (.int .u8) .unit)) (.pair .str .unit)) .nil)) 285 (.arr 256 .bool) (.node (.node (.node .nil 286 (.arr 256 .bool) .nil) 288 (.fn (.pair .str .unit) (.pair (.arr 256 .bool) (.pair .bool .unit))) .nil) 289 (.fn (.pair .str (.pair (.ptr (.arr 256 .bool)) .unit)) (.pair .str .unit)) (.node .nil 290 (.ptr (.arr 256 .bool)) .nil))) 291 (.fn (.pair (.int .u64) (.pair (.int .u64) .unit)) (.pair (.int .u64) (.pair (.int .u64) .unit))) (.node (.node (.node (.node .nil 292 (.fn (.pair (.sl zr) (.pair (.fn (.pair zr .unit) (.pair .bool .unit)) .unit)) (.pair (.ptr y8) .unit)) .nil) 293 (.st (.pair (.sl zr) (.pair (.fn (.pair zr .unit) (.pair .bool .unit)) .unit))) .nil) 294 y8 (.node .nil 296 (.fn (.pair .str .unit) (.pair (.int .i32) (.pair (.int .i64) .unit))) .nil)) 297 (.fn (.pair .str (.pair (.int .i32) .unit)) (.pair .bool .unit)) (.node (.node .nil 298 (.fn (.pair .str (.pair (.int .i32) .unit)) (.pair (.int .i64) .unit)) .nil) 299 (.arr 256 (.int .u8)) (.node .nil 300 (.st (.pair (.int .u8) (.pair (.int .u8) .unit))) .nil)))) 301 znM (.node (.node (.node (.node (.node .nil 302 (.arr 16 znM) .nil) 303 (.fn (.pair .str (.pair (.int .u8) .unit)) (.pair (.int .i64) .unit)) .nil) 304 (.fn (.pair (.int .i32) .unit) (.pair .bool .unit)) (.node .nil 305 (.fn (.pair (.int .i64) .unit) (.pair (.int .i64) .unit)) .nil)) 306 (.fn (.pair .str (.pair .str .unit)) (.pair (.int .i64) .unit)) (.node (.node .nil 307 (.fn .unit (.pair .str .unit)) .nil) 313 (.fn .unit (.pair (.int .i64) .unit)) (.node .nil 314 (.int .u32) .nil))) 315 (.int .u8) (.node (.node (.node (.node .nil 316 (.int .u8) .nil) 318 (.ptr (.int .u8)) .nil) 319 (.int .i32) (.node .nil 320 (.int .i32) .nil)) 323 (.fn (.pair zz .unit) (.pair (.sl zz) (.pair (.int .i64) (.pair (.int .i64) .unit)))) (.node (.node .nil 324 (.fn (.pair (.int .i64) (.pair zz .unit)) (.pair (.sl zz) (.pair (.int .i64) .unit))) .nil) 325 (.fn (.pair zr .unit) (.pair (.sl zr) (.pair (.int .i64) (.pair (.int .i64) .unit)))) (.node .nil 326 (.fn (.pair (.int .i64) (.pair zr .unit)) (.pair (.sl zr) (.pair (.int .i64) .unit))) .nil))))))))
def glob:List (Nat × AV):=[]
abbrev zwd:Ty:=(.pair zw (.pair zo (.pair tMe (.pair jC .unit))))
def ext:List (Nat × Bool):=[(292,false),(322,true)]
def E0:Env:=⟨types,[],glob,0,false,ext,[],fun _=>none,false,false⟩
theorem zNk:Tryz.prog.follows .mixedOrders = true:=by kernel_rfl
theorem mkS {l:List Fun} {d:Bool} {F:Fun} {f:Go.Func} {K:Nat} (hl:Sds Tryz.prog E0 l) (hf:Tryz.prog.funcs[F.id]? = some f) (ho:jm f = true) (h:evF (En E0 d l) K f F.md F.a F.r = F.spec):Sd Tryz.prog E0 F:=Sd.mk zNk hl hf ho h
theorem zQL {l:List Fun} {d:Bool} {js:List Nat} {F:Fun} {f:Go.Func} {K:Nat} (hl:Sds Tryz.prog E0 l) (hf:Tryz.prog.funcs[F.id]? = some f) (ho:jm f = true) (h:evF (Ej E0 d js l) K f F.md F.a F.r = F.spec):Sd Tryz.prog E0 F:=Sd.mkJ zNk hl hf ho h
end Go.Proofs.YtejbgeokcpillaaGreatDoor
end
section
namespace Go.Proofs.YtejbgeokcpillaaGreatDoor
open Go.Ev
noncomputable section
abbrev Sq (F:Fun):Prop:=Sd Tryz.prog E0 F
def L0:List Fun:=[]
theorem h0:Sds Tryz.prog E0 L0:=trivial
theorem ms0 {d:Bool} {F:Fun} {f:Go.Func} {K:Nat} (hf:Tryz.prog.funcs[F.id]? = some f) (ho:jm f = true) (h:evF (En E0 d L0) K f F.md F.a F.r = F.spec):Sd Tryz.prog E0 F:=mkS h0 hf ho h
theorem mj0 {d:Bool} {js:List Nat} {F:Fun} {f:Go.Func} {K:Nat} (hf:Tryz.prog.funcs[F.id]? = some f) (ho:jm f = true) (h:evF (Ej E0 d js L0) K f F.md F.a F.r = F.spec):Sd Tryz.prog E0 F:=zQL h0 hf ho h
theorem ml0 {d:Bool} {F:Fun} {f:Go.Func} {S:Nat→F.a.I→Option F.r.I} (hf:Tryz.prog.funcs[F.id]? = some f) (ho:jm f = true) (h:∀ K,evF (En E0 d L0) K f F.md F.a F.r = S K) (e:S K0 = F.spec):Sd Tryz.prog E0 F:=mkS h0 hf ho ((h K0).trans e)
abbrev Es0:Env:=En E0 false L0
def zbo:((List zu) × Unit)→Option ((List zu) × Unit):=fun (x0,()) =>
  bif List.isEmpty x0 then zgp (some ([],())) (bif vi true zr (List.length (List.replicate 0 (zd zr)) + List.length x0) then some (List.replicate 0 (zd zr) ++ x0,()) else none) else bif vi true zr (List.length (List.replicate 0 (zd zr)) + List.length x0) then some (List.replicate 0 (zd zr) ++ x0,()) else none
abbrev zox:Fun:=⟨23,(ch [(.sl zr)]),(ch [(.sl zr)]),1,zbo⟩
theorem zzH:Sq zox:=mj0 (d:=false) (js:=[999998]) (K:=0) Tryz.func23 (by kernel_rfl) (funext fun (x0,())=>by kernel_rfl)
def zjo:((List zJ) × Unit)→Option ((List zJ) × Unit):=fun (x0,()) =>
  bif List.isEmpty x0 then zgp (some ([],())) (bif vi true zA (List.length (List.replicate 0 (zd zA)) + List.length x0) then some (List.replicate 0 (zd zA) ++ x0,()) else none) else bif vi true zA (List.length (List.replicate 0 (zd zA)) + List.length x0) then some (List.replicate 0 (zd zA) ++ x0,()) else none
abbrev zoy:Fun:=⟨24,(ch [(.sl zA)]),(ch [(.sl zA)]),1,zjo⟩
theorem zzI:Sq zoy:=mj0 (d:=false) (js:=[999998]) (K:=0) Tryz.func24 (by kernel_rfl) (funext fun (x0,())=>by kernel_rfl)
def zht:((List Int) × Unit)→Option ((List Int) × Unit):=fun (x0,()) =>
  bif List.isEmpty x0 then zgp (some ([],())) (bif vi true tI (List.length (List.replicate 0 (0:Int)) + List.length x0) then some (List.replicate 0 (0:Int) ++ x0,()) else none) else bif vi true tI (List.length (List.replicate 0 (0:Int)) + List.length x0) then some (List.replicate 0 (0:Int) ++ x0,()) else none
abbrev zrZ:Fun:=⟨25,(ch [(.sl tI)]),(ch [(.sl tI)]),1,zht⟩
theorem zDx:Sq zrZ:=mj0 (d:=false) (js:=[999998]) (K:=0) Tryz.func25 (by kernel_rfl) (funext fun (x0,())=>by kernel_rfl)
def zj8:((List (List Int)) × Unit)→Option ((List (List Int)) × Unit):=fun (x0,()) =>
  bif List.isEmpty x0 then zgp (some ([],())) (bif vi true (.sl tI) (List.length (List.replicate 0 ([]:List Int)) + List.length x0) then some (List.replicate 0 ([]:List Int) ++ x0,()) else none) else bif vi true (.sl tI) (List.length (List.replicate 0 ([]:List Int)) + List.length x0) then some (List.replicate 0 ([]:List Int) ++ x0,()) else none
abbrev zqf:Fun:=⟨26,(ch [(.sl (.sl tI))]),(ch [(.sl (.sl tI))]),1,zj8⟩
theorem zBu:Sq zqf:=mj0 (d:=false) (js:=[999998]) (K:=0) Tryz.func26 (by kernel_rfl) (funext fun (x0,())=>by kernel_rfl)
def zjp:((List zp) × Unit)→Option ((List zp) × Unit):=fun (x0,()) =>
  bif List.isEmpty x0 then zgp (some ([],())) (bif vi true zy (List.length (List.replicate 0 (zd zy)) + List.length x0) then some (List.replicate 0 (zd zy) ++ x0,()) else none) else bif vi true zy (List.length (List.replicate 0 (zd zy)) + List.length x0) then some (List.replicate 0 (zd zy) ++ x0,()) else none
abbrev zoz:Fun:=⟨27,(ch [(.sl zy)]),(ch [(.sl zy)]),1,zjp⟩
theorem zzJ:Sq zoz:=mj0 (d:=false) (js:=[999998]) (K:=0) Tryz.func27 (by kernel_rfl) (funext fun (x0,())=>by kernel_rfl)
def zj9:((List qV) × Unit)→Option ((List qV) × Unit):=fun (x0,()) =>
  bif List.isEmpty x0 then zgp (some ([],())) (bif vi true qk (List.length (List.replicate 0 (zd qk)) + List.length x0) then some (List.replicate 0 (zd qk) ++ x0,()) else none) else bif vi true qk (List.length (List.replicate 0 (zd qk)) + List.length x0) then some (List.replicate 0 (zd qk) ++ x0,()) else none
abbrev zqg:Fun:=⟨28,(ch [(.sl qk)]),(ch [(.sl qk)]),1,zj9⟩
theorem zBv:Sq zqg:=mj0 (d:=false) (js:=[999998]) (K:=0) Tryz.func28 (by kernel_rfl) (funext fun (x0,())=>by kernel_rfl)
def zka:((List qe) × Unit)→Option ((List qe) × Unit):=fun (x0,()) =>
  bif List.isEmpty x0 then zgp (some ([],())) (bif vi true zU (List.length (List.replicate 0 (zd zU)) + List.length x0) then some (List.replicate 0 (zd zU) ++ x0,()) else none) else bif vi true zU (List.length (List.replicate 0 (zd zU)) + List.length x0) then some (List.replicate 0 (zd zU) ++ x0,()) else none
abbrev zqh:Fun:=⟨29,(ch [(.sl zU)]),(ch [(.sl zU)]),1,zka⟩
theorem zBw:Sq zqh:=mj0 (d:=false) (js:=[999998]) (K:=0) Tryz.func29 (by kernel_rfl) (funext fun (x0,())=>by kernel_rfl)
def zar:((List zh) × Unit)→Option ((List zh) × Unit):=fun (x0,()) =>
  bif List.isEmpty x0 then zgp (some ([],())) (bif vi true zi (List.length (List.replicate 0 (zd zi)) + List.length x0) then some (List.replicate 0 (zd zi) ++ x0,()) else none) else bif vi true zi (List.length (List.replicate 0 (zd zi)) + List.length x0) then some (List.replicate 0 (zd zi) ++ x0,()) else none
abbrev zqi:Fun:=⟨30,(ch [(.sl zi)]),(ch [(.sl zi)]),1,zar⟩
theorem zBx:Sq zqi:=mj0 (d:=false) (js:=[999998]) (K:=0) Tryz.func30 (by kernel_rfl) (funext fun (x0,())=>by kernel_rfl)
def zkb:((List qr) × Unit)→Option ((List qr) × Unit):=fun (x0,()) =>
  bif List.isEmpty x0 then zgp (some ([],())) (bif vi true zY (List.length (List.replicate 0 (zd zY)) + List.length x0) then some (List.replicate 0 (zd zY) ++ x0,()) else none) else bif vi true zY (List.length (List.replicate 0 (zd zY)) + List.length x0) then some (List.replicate 0 (zd zY) ++ x0,()) else none
abbrev zqj:Fun:=⟨31,(ch [(.sl zY)]),(ch [(.sl zY)]),1,zkb⟩
theorem zBy:Sq zqj:=mj0 (d:=false) (js:=[999998]) (K:=0) Tryz.func31 (by kernel_rfl) (funext fun (x0,())=>by kernel_rfl)
def zbp:((List zx) × Unit)→Option ((List zx) × Unit):=fun (x0,()) =>
  bif List.isEmpty x0 then zgp (some ([],())) (bif vi true zz (List.length (List.replicate 0 (zd zz)) + List.length x0) then some (List.replicate 0 (zd zz) ++ x0,()) else none) else bif vi true zz (List.length (List.replicate 0 (zd zz)) + List.length x0) then some (List.replicate 0 (zd zz) ++ x0,()) else none
abbrev zoA:Fun:=⟨32,(ch [(.sl zz)]),(ch [(.sl zz)]),1,zbp⟩
theorem zzK:Sq zoA:=mj0 (d:=false) (js:=[999998]) (K:=0) Tryz.func32 (by kernel_rfl) (funext fun (x0,())=>by kernel_rfl)
def znf:((List (List Int)) × Unit)→Option ((List (List Int)) × Unit):=fun (x0,()) =>
  bif List.isEmpty x0 then zgp (some ([],())) (bif vi true (.arr 4 tU) (List.length (List.replicate 0 (zd (.arr 4 tU))) + List.length x0) then some (List.replicate 0 (zd (.arr 4 tU)) ++ x0,()) else none) else bif vi true (.arr 4 tU) (List.length (List.replicate 0 (zd (.arr 4 tU))) + List.length x0) then some (List.replicate 0 (zd (.arr 4 tU)) ++ x0,()) else none
abbrev zuf:Fun:=⟨33,(ch [(.sl (.arr 4 tU))]),(ch [(.sl (.arr 4 tU))]),1,znf⟩
theorem zFR:Sq zuf:=mj0 (d:=false) (js:=[999998]) (K:=0) Tryz.func33 (by kernel_rfl) (funext fun (x0,())=>by kernel_rfl)
def zlV:((List zE) × Unit)→Option ((List zE) × Unit):=fun (x0,()) =>
  bif List.isEmpty x0 then zgp (some ([],())) (bif vi true zv (List.length (List.replicate 0 (zd zv)) + List.length x0) then some (List.replicate 0 (zd zv) ++ x0,()) else none) else bif vi true zv (List.length (List.replicate 0 (zd zv)) + List.length x0) then some (List.replicate 0 (zd zv) ++ x0,()) else none
abbrev zr0:Fun:=⟨34,(ch [(.sl zv)]),(ch [(.sl zv)]),1,zlV⟩
theorem zDy:Sq zr0:=mj0 (d:=false) (js:=[999998]) (K:=0) Tryz.func34 (by kernel_rfl) (funext fun (x0,())=>by kernel_rfl)
def ziQ:(zC × Unit)→Option (Bool × Unit):=fun (x0,()) =>
  bif decide (x0.1 ≥ 0) then bif decide (x0.1 < 4) then some (true,()) else some (false,()) else some (false,())
abbrev zug:Fun:=⟨21,(ch [zt]),(ch [.bool]),0,ziQ⟩
theorem zFS:Sq zug:=ms0 (d:=false) (K:=0) Tryz.func21 (by kernel_rfl) (funext fun (x0,())=>by kernel_rfl)
def qw:(Int × (Int × (Int × Unit)))→Option (Bool × Unit):=fun (x0,x1,x2,()) =>
  bif decide (x0 ≥ x1) then bif decide (x0 ≤ x2) then some (true,()) else some (false,()) else some (false,())
abbrev zr1:Fun:=⟨168,(ch [tI,tI,tI]),(ch [.bool]),0,qw⟩
theorem zDz:Sq zr1:=ms0 (d:=false) (K:=0) Tryz.func168 (by kernel_rfl) (funext fun (x0,x1,x2,())=>by kernel_rfl)
abbrev vj:Type:=(List zC) × (Option ((zC × Unit)→Option (Bool × Unit))) × Int × Int
abbrev zrm:vj→St:=fun (v0,v1,v7,v8)=>St.mk [(0,.dat (.sl zt) v0),(1,.dat (.fn (.pair zt .unit) (.pair .bool .unit)) v1),(7,.dat tI v7),(8,.dat tI v8)] []
def zdL (k0:vj→Option (Int × Unit)):vj→Option (Int × Unit):=fun (v0,v1,v7,v8) =>
  bif decide (v8 < v7) then inR v8 ((List.length v0):Int) (Option.bind v1 fun q0=>Option.bind (q0 (ix jh v0 v8,())) fun q1=>bif q1.1 then some (v8,()) else k0 (v0,v1,v7,wI (v8 + 1))) else some ((-1),())
abbrev zin (K:Nat):vj→Option (Int × Unit):=zg zdL K
theorem zrn (K:Nat):∀ n,evV Es0 K Tryz.f310 0 (ch [tI]) [1,0,1,0] [] zrm n = zg zdL n:=zq fun n0 (v0,v1,v7,v8)=>by kernel_rfl
def zfr (L0:vj→Option (Int × Unit)):((List zC) × ((Option ((zC × Unit)→Option (Bool × Unit))) × Unit))→Option (Int × Unit):=fun (x0,x1,()) =>
  L0 (x0,x1,((List.length x0):Int),0)
def zaT:((List zC) × ((Option ((zC × Unit)→Option (Bool × Unit))) × Unit))→Option (Int × Unit):=zfr (zin K0)
abbrev zkc:Fun:=⟨310,(ch [(.sl zt),(.fn (ch [zt]) (ch [.bool]))]),(ch [tI]),0,zaT⟩
theorem ztK:Sq zkc:=ml0 (d:=false) (S:=fun K=>zfr (zin K)) Tryz.func310 (by kernel_rfl) (fun K=>tr1 (T:=zfr) (zrn K K) fun (x0,x1,())=>by kernel_rfl) rfl
def zas:(Int × Unit)→Option (Bool × Unit):=fun (x0,()) =>
  bif x0 != x0 then some (true,()) else some (false,())
abbrev zqk:Fun:=⟨318,(ch [tI]),(ch [.bool]),0,zas⟩
theorem zBz:Sq zqk:=ms0 (d:=false) (K:=0) Tryz.func318 (by kernel_rfl) (funext fun (x0,())=>by kernel_rfl)
def vC:(Int × Unit)→Option (Bool × Unit):=fun (x0,()) =>
  bif x0 != x0 then some (true,()) else some (false,())
abbrev zmP:Fun:=⟨317,(ch [tU]),(ch [.bool]),0,vC⟩
theorem zwe:Sq zmP:=ms0 (d:=false) (K:=0) Tryz.func317 (by kernel_rfl) (funext fun (x0,())=>by kernel_rfl)
abbrev zei:Type:=Int × (List Int) × Int × Int
abbrev zDA:zei→St:=fun (v3,v6,v7,v8)=>St.mk [(3,.dat tI v3),(6,.dat (.sl tI) v6),(7,.dat tI v7),(8,.dat tI v8)] []
def jf (k0:zei→Option (Int × Unit)):zei→Option (Int × Unit):=fun (v3,v6,v7,v8) =>
  bif decide (v8 < v7) then inR v8 ((List.length v6):Int) (bif ix (0:Int) v6 v8 != v3 then some (ix (0:Int) v6 v8,()) else k0 (v3,v6,v7,wI (v8 + 1))) else some (v3,())
abbrev zr2 (K:Nat):zei→Option (Int × Unit):=zg jf K
theorem zDB (K:Nat):∀ n,evV Es0 K Tryz.f282 0 (ch [tI]) [1,1,0,1,0] [] zDA n = zg jf n:=zq fun n0 (v3,v6,v7,v8)=>by kernel_rfl
def zoB (L0:zei→Option (Int × Unit)):((List Int) × Unit)→Option (Int × Unit):=fun (x0,()) =>
  L0 (0,x0,((List.length x0):Int),0)
def zej:((List Int) × Unit)→Option (Int × Unit):=zoB (zr2 K0)
abbrev zwf:Fun:=⟨282,(ch [(.sl tI)]),(ch [tI]),0,zej⟩
theorem zIt:Sq zwf:=ml0 (d:=false) (S:=fun K=>zoB (zr2 K)) Tryz.func282 (by kernel_rfl) (fun K=>tr1 (T:=zoB) (zDB K K) fun (x0,())=>by kernel_rfl) rfl
abbrev vW:Type:=(List Int) × (Option ((Int × Unit)→Option (Bool × Unit))) × Int × Int
abbrev ztL:vW→St:=fun (v0,v1,v7,v8)=>St.mk [(0,.dat (.sl tI) v0),(1,.dat (.fn (.pair tI .unit) (.pair .bool .unit)) v1),(7,.dat tI v7),(8,.dat tI v8)] []
def zfs (k0:vW→Option (Int × Unit)):vW→Option (Int × Unit):=fun (v0,v1,v7,v8) =>
  bif decide (v8 < v7) then inR v8 ((List.length v0):Int) (Option.bind v1 fun q0=>Option.bind (q0 (ix (0:Int) v0 v8,())) fun q1=>bif q1.1 then some (v8,()) else k0 (v0,v1,v7,wI (v8 + 1))) else some ((-1),())
abbrev zkd (K:Nat):vW→Option (Int × Unit):=zg zfs K
theorem ztM (K:Nat):∀ n,evV Es0 K Tryz.f278 0 (ch [tI]) [1,0,1,0] [] ztL n = zg zfs n:=zq fun n0 (v0,v1,v7,v8)=>by kernel_rfl
def zgV (L0:vW→Option (Int × Unit)):((List Int) × ((Option ((Int × Unit)→Option (Bool × Unit))) × Unit))→Option (Int × Unit):=fun (x0,x1,()) =>
  L0 (x0,x1,((List.length x0):Int),0)
def zcs:((List Int) × ((Option ((Int × Unit)→Option (Bool × Unit))) × Unit))→Option (Int × Unit):=zgV (zkd K0)
abbrev zmQ:Fun:=⟨278,(ch [(.sl tI),(.fn (ch [tI]) (ch [.bool]))]),(ch [tI]),0,zcs⟩
theorem zwg:Sq zmQ:=ml0 (d:=false) (S:=fun K=>zgV (zkd K)) Tryz.func278 (by kernel_rfl) (fun K=>tr1 (T:=zgV) (ztM K K) fun (x0,x1,())=>by kernel_rfl) rfl
def zgW:(Int × Unit)→Option (Bool × Unit):=fun (x0,()) =>
  bif decide (x0 ≥ 97) then bif decide (x0 ≤ 122) then some (true,()) else some (false,()) else some (false,())
abbrev zwh:Fun:=⟨224,(ch [(.int .u8)]),(ch [.bool]),0,zgW⟩
theorem zIu:Sq zwh:=ms0 (d:=false) (K:=0) Tryz.func224 (by kernel_rfl) (funext fun (x0,())=>by kernel_rfl)
def zke:(Int × ((Option (Option ((Int × Unit)→Option (Bool × Unit)))) × Unit))→Option (Bool × Unit):=fun (x0,x1,()) =>
  Option.bind x1 fun q0=>Option.bind q0 fun q1=>Option.bind (q1 (x0,())) fun q2=>bif q2.1 then some (false,()) else some (true,())
abbrev zwi:Fun:=⟨293,(ch [(.int .u8),(.ptr (.fn (ch [(.int .u8)]) (ch [.bool])))]),(ch [.bool]),0,zke⟩
theorem zIv:Sq zwi:=ms0 (d:=false) (K:=0) Tryz.func293 (by kernel_rfl) (funext fun (x0,x1,())=>by kernel_rfl)
abbrev vD:Type:=(List Int) × (Option ((Int × Unit)→Option (Bool × Unit))) × Int × Int
abbrev zr3:vD→St:=fun (v0,v1,v7,v8)=>St.mk [(0,.dat (.sl (.int IntKind.u8)) v0),(1,.dat (.fn (.pair (.int IntKind.u8) .unit) (.pair .bool .unit)) v1),(7,.dat tI v7),(8,.dat tI v8)] []
def zek (k0:vD→Option (Int × Unit)):vD→Option (Int × Unit):=fun (v0,v1,v7,v8) =>
  bif decide (v8 < v7) then inR v8 ((List.length v0):Int) (Option.bind v1 fun q0=>Option.bind (q0 (ix (zd (.int IntKind.u8)) v0 v8,())) fun q1=>bif q1.1 then some (v8,()) else k0 (v0,v1,v7,wI (v8 + 1))) else some ((-1),())
abbrev zjO (K:Nat):vD→Option (Int × Unit):=zg zek K
theorem zr4 (K:Nat):∀ n,evV Es0 K Tryz.f323 0 (ch [tI]) [1,0,1,0] [] zr3 n = zg zek n:=zq fun n0 (v0,v1,v7,v8)=>by kernel_rfl
def zgr (L0:vD→Option (Int × Unit)):((List Int) × ((Option ((Int × Unit)→Option (Bool × Unit))) × Unit))→Option (Int × Unit):=fun (x0,x1,()) =>
  L0 (x0,x1,((List.length x0):Int),0)
def zbW:((List Int) × ((Option ((Int × Unit)→Option (Bool × Unit))) × Unit))→Option (Int × Unit):=zgr (zjO K0)
abbrev zlv:Fun:=⟨323,(ch [(.sl (.int .u8)),(.fn (ch [(.int .u8)]) (ch [.bool]))]),(ch [tI]),0,zbW⟩
theorem zvq:Sq zlv:=ml0 (d:=false) (S:=fun K=>zgr (zjO K)) Tryz.func323 (by kernel_rfl) (fun K=>tr1 (T:=zgr) (zr4 K K) fun (x0,x1,())=>by kernel_rfl) rfl
def zkf:(Int × Unit)→Option (Bool × Unit):=fun (x0,()) =>
  bif decide (x0 ≥ 48) then bif decide (x0 ≤ 57) then some (true,()) else some (false,()) else some (false,())
abbrev zwj:Fun:=⟨227,(ch [(.int .u8)]),(ch [.bool]),0,zkf⟩
theorem zIw:Sq zwj:=ms0 (d:=false) (K:=0) Tryz.func227 (by kernel_rfl) (funext fun (x0,())=>by kernel_rfl)
abbrev jS:Type:=(List qA) × (Option ((qA × Unit)→Option (Bool × Unit))) × Int × Int
abbrev zoC:jS→St:=fun (v0,v1,v7,v8)=>St.mk [(0,.dat (.sl qD) v0),(1,.dat (.fn (.pair qD .unit) (.pair .bool .unit)) v1),(7,.dat tI v7),(8,.dat tI v8)] []
def zbq (k0:jS→Option (Int × Unit)):jS→Option (Int × Unit):=fun (v0,v1,v7,v8) =>
  bif decide (v8 < v7) then inR v8 ((List.length v0):Int) (Option.bind v1 fun q0=>Option.bind (q0 (ix qQ v0 v8,())) fun q1=>bif q1.1 then some (v8,()) else k0 (v0,v1,v7,wI (v8 + 1))) else some ((-1),())
abbrev zgX (K:Nat):jS→Option (Int × Unit):=zg zbq K
theorem zoD (K:Nat):∀ n,evV Es0 K Tryz.f311 0 (ch [tI]) [1,0,1,0] [] zoC n = zg zbq n:=zq fun n0 (v0,v1,v7,v8)=>by kernel_rfl
def zdM (L0:jS→Option (Int × Unit)):((List qA) × ((Option ((qA × Unit)→Option (Bool × Unit))) × Unit))→Option (Int × Unit):=fun (x0,x1,()) =>
  L0 (x0,x1,((List.length x0):Int),0)
def y9:((List qA) × ((Option ((qA × Unit)→Option (Bool × Unit))) × Unit))→Option (Int × Unit):=zdM (zgX K0)
abbrev zio:Fun:=⟨311,(ch [(.sl qD),(.fn (ch [qD]) (ch [.bool]))]),(ch [tI]),0,y9⟩
theorem zro:Sq zio:=ml0 (d:=false) (S:=fun K=>zdM (zgX K)) Tryz.func311 (by kernel_rfl) (fun K=>tr1 (T:=zdM) (zoD K K) fun (x0,x1,())=>by kernel_rfl) rfl
abbrev yA:Type:=(List qA) × Int × Int × List ByteArray
abbrev zvr:yA→St:=fun (v7,v8,v9,o0)=>St.mk [(3,.ow 0),(7,.dat (.sl qD) v7),(8,.dat tI v8),(9,.dat tI v9)] [.row .str o0 false]
def yB (k0:yA→Option ((List ByteArray) × Unit)):yA→Option ((List ByteArray) × Unit):=fun (v7,v8,v9,o0) =>
  bif decide (v9 < v8) then inR v9 ((List.length v7):Int) (bif decide (List.length o0 + List.length (zm (List.replicate 1 (zd .str)) 0 (ix qQ v7 v9).1) ≤ lim) then k0 (v7,v8,wI (v9 + 1),o0 ++ zm (List.replicate 1 (zd .str)) 0 (ix qQ v7 v9).1) else none) else some (o0,())
abbrev zlw (K:Nat):yA→Option ((List ByteArray) × Unit):=zg yB K
theorem zvs (K:Nat):∀ n,evV Es0 K Tryz.f259 0 (ch [(.sl .str)]) [1,1,0,1,0] [] zvr n = zg yB n:=zq fun n0 (v7,v8,v9,o0)=>by kernel_rfl
def zh8 (L0:yA→Option ((List ByteArray) × Unit)):(zf × Unit)→Option ((List ByteArray) × Unit):=fun (x0,()) =>
  L0 (x0.2.2.1,((List.length x0.2.2.1):Int),0,[])
def zh9:(zf × Unit)→Option ((List ByteArray) × Unit):=zh8 (zlw K0)
abbrev znN:Fun:=⟨259,(ch [zw]),(ch [(.sl .str)]),0,zh9⟩
theorem zyc:Sq znN:=ml0 (d:=false) (S:=fun K=>zh8 (zlw K)) Tryz.func259 (by kernel_rfl) (fun K=>tr1 (T:=zh8) (zvs K K) fun (x0,())=>by kernel_rfl) rfl
abbrev zel:Type:=(List ByteArray) × (List ByteArray) × Int × Int × List (ByteArray × Int)
abbrev zDC:zel→St:=fun (v0,v7,v8,v9,o0)=>St.mk [(0,.dat (.sl .str) v0),(3,.om 0),(7,.dat (.sl .str) v7),(8,.dat tI v8),(9,.dat tI v9)] [.mp .str tI o0]
def zem (k0:zel→Option (Bool × Unit)):zel→Option (Bool × Unit):=fun (v0,v7,v8,v9,o0) =>
  bif decide (v9 < v8) then inR v9 ((List.length v7):Int) (k0 (v0,v7,v8,wI (v9 + 1),jP .str o0 (List.getD v7 (Int.toNat v9) (zd .str)) (wI (zaQ .str (0:Int) o0 (List.getD v7 (Int.toNat v9) (zd .str)) + 1)))) else bif ((List.length o0):Int) == ((List.length v0):Int) then some (true,()) else some (false,())
abbrev zr5 (K:Nat):zel→Option (Bool × Unit):=zg zem K
theorem zDD (K:Nat):∀ n,evV Es0 K Tryz.f258 0 (ch [.bool]) [1,1,0,1,0] [] zDC n = zg zem n:=zq fun n0 (v0,v7,v8,v9,o0)=>by kernel_rfl
def zoE (L0:zel→Option (Bool × Unit)):((List ByteArray) × Unit)→Option (Bool × Unit):=fun (x0,()) =>
  L0 (x0,x0,((List.length x0):Int),0,[])
def zoF:((List ByteArray) × Unit)→Option (Bool × Unit):=zoE (zr5 K0)
abbrev zwk:Fun:=⟨258,(ch [(.sl .str)]),(ch [.bool]),0,zoF⟩
theorem zIx:Sq zwk:=ml0 (d:=false) (S:=fun K=>zoE (zr5 K)) Tryz.func258 (by kernel_rfl) (fun K=>tr1 (T:=zoE) (zDD K K) fun (x0,())=>by kernel_rfl) rfl
def zkg:(Int × Unit)→Option (zC × (Int × Unit)):=fun (x0,()) =>
  bif decide (x0 < 0) then some ((0,0,()),1,()) else bif decide (x0 ≥ 64) then some ((0,0,()),1,()) else bif decide (x0 < 0) then none else some ((0,wU (1 * 2 ^ min (Int.toNat x0) (IntKind.bits IntKind.u64)),()),0,())
abbrev zwl:Fun:=⟨142,(ch [tI]),(ch [zt,tI]),0,zkg⟩
theorem zIy:Sq zwl:=ms0 (d:=false) (K:=0) Tryz.func142 (by kernel_rfl) (funext fun (x0,())=>by kernel_rfl)
abbrev zae:Type:=(List zC) × Int × Int × zC
abbrev zwm:zae→St:=fun (v0,v7,v8,o0)=>St.mk [(0,.dat (.sl zt) v0),(3,.bp 0 []),(7,.dat tI v7),(8,.dat tI v8)] [.bx (.dat zt o0) false]
def zaf (k0:zae→Option (Int × Unit)):zae→Option (Int × Unit):=fun (v0,v7,v8,o0) =>
  bif decide (v8 < v7) then inR v8 ((List.length v0):Int) (bif eqI zt o0 (ix jh v0 v8) then some (v8,()) else k0 (v0,v7,wI (v8 + 1),o0)) else some ((-1),())
abbrev zmR (K:Nat):zae→Option (Int × Unit):=zg zaf K
theorem zwn (K:Nat):∀ n,evV Es0 K Tryz.f312 0 (ch [tI]) [1,0,1,0] [] zwm n = zg zaf n:=zq fun n0 (v0,v7,v8,o0)=>by kernel_rfl
def zjq (L0:zae→Option (Int × Unit)):((List zC) × (zC × Unit))→Option (Int × Unit):=fun (x0,x1,()) =>
  L0 (x0,((List.length x0):Int),0,x1)
def zjr:((List zC) × zC × Unit)→Option (Int × Unit):=zjq (zmR K0)
abbrev zoG:Fun:=⟨312,(ch [(.sl zt),zt]),(ch [tI]),0,zjr⟩
theorem zzL:Sq zoG:=ml0 (d:=false) (S:=fun K=>zjq (zmR K)) Tryz.func312 (by kernel_rfl) (fun K=>tr1 (T:=zjq) (zwn K K) fun (x0,x1,())=>by kernel_rfl) rfl
def zjs:(zC × ((Option Int) × Unit))→Option (Bool × Unit):=fun (x0,x1,()) =>
  Option.bind x1 fun q0=>bif wU (↑(BitVec.toNat (BitVec.ofInt (IntKind.bits IntKind.u64) x0.2.1 &&& ~~~BitVec.ofInt (IntKind.bits IntKind.u64) q0)):Int) != 0 then some (true,()) else some (false,())
abbrev zoH:Fun:=⟨261,(ch [zt,(.ptr tU)]),(ch [.bool]),0,zjs⟩
theorem zzM:Sq zoH:=ms0 (d:=false) (K:=0) Tryz.func261 (by kernel_rfl) (funext fun (x0,x1,())=>by kernel_rfl)
def zkh:(zbn × Unit)→Option ((List Int) × Unit):=fun (x0,()) =>
  some ([x0.1,x0.2.1,x0.2.2.1,x0.2.2.2.1,x0.2.2.2.2.1],())
abbrev zql:Fun:=⟨263,(ch [zcp]),(ch [(.sl tI)]),0,zkh⟩
theorem zBA:Sq zql:=ms0 (d:=false) (K:=0) Tryz.func263 (by kernel_rfl) (funext fun (x0,())=>by kernel_rfl)
def zbX:(zp × ((Option (Option ((zp × Unit)→Option (Bool × Unit)))) × Unit))→Option (Bool × Unit):=fun (x0,x1,()) =>
  Option.bind x1 fun q0=>Option.bind q0 fun q1=>Option.bind (q1 (x0,())) fun q2=>bif q2.1 then some (false,()) else some (true,())
abbrev zlx:Fun:=⟨177,(ch [zy,(.ptr (.fn (ch [zy]) (ch [.bool])))]),(ch [.bool]),0,zbX⟩
theorem zvt:Sq zlx:=ms0 (d:=false) (K:=0) Tryz.func177 (by kernel_rfl) (funext fun (x0,x1,())=>by kernel_rfl)
abbrev vk:Type:=(List zp) × (Option ((zp × Unit)→Option (Bool × Unit))) × Int × Int
abbrev zrp:vk→St:=fun (v0,v1,v7,v8)=>St.mk [(0,.dat (.sl zy) v0),(1,.dat (.fn (.pair zy .unit) (.pair .bool .unit)) v1),(7,.dat tI v7),(8,.dat tI v8)] []
def zdN (k0:vk→Option (Int × Unit)):vk→Option (Int × Unit):=fun (v0,v1,v7,v8) =>
  bif decide (v8 < v7) then inR v8 ((List.length v0):Int) (Option.bind v1 fun q0=>Option.bind (q0 (ix ze v0 v8,())) fun q1=>bif q1.1 then some (v8,()) else k0 (v0,v1,v7,wI (v8 + 1))) else some ((-1),())
abbrev ziq (K:Nat):vk→Option (Int × Unit):=zg zdN K
theorem zrq (K:Nat):∀ n,evV Es0 K Tryz.f264 0 (ch [tI]) [1,0,1,0] [] zrp n = zg zdN n:=zq fun n0 (v0,v1,v7,v8)=>by kernel_rfl
def zft (L0:vk→Option (Int × Unit)):((List zp) × ((Option ((zp × Unit)→Option (Bool × Unit))) × Unit))→Option (Int × Unit):=fun (x0,x1,()) =>
  L0 (x0,x1,((List.length x0):Int),0)
def zaU:((List zp) × ((Option ((zp × Unit)→Option (Bool × Unit))) × Unit))→Option (Int × Unit):=zft (ziq K0)
abbrev zki:Fun:=⟨264,(ch [(.sl zy),(.fn (ch [zy]) (ch [.bool]))]),(ch [tI]),0,zaU⟩
theorem ztN:Sq zki:=ml0 (d:=false) (S:=fun K=>zft (ziq K)) Tryz.func264 (by kernel_rfl) (fun K=>tr1 (T:=zft) (zrq K K) fun (x0,x1,())=>by kernel_rfl) rfl
abbrev vE:Type:=(List qV) × (Option ((qV × Unit)→Option (Bool × Unit))) × Int × Int
abbrev zr6:vE→St:=fun (v0,v1,v7,v8)=>St.mk [(0,.dat (.sl qk) v0),(1,.dat (.fn (.pair qk .unit) (.pair .bool .unit)) v1),(7,.dat tI v7),(8,.dat tI v8)] []
def zen (k0:vE→Option (Int × Unit)):vE→Option (Int × Unit):=fun (v0,v1,v7,v8) =>
  bif decide (v8 < v7) then inR v8 ((List.length v0):Int) (Option.bind v1 fun q0=>Option.bind (q0 (ix zhs v0 v8,())) fun q1=>bif q1.1 then some (v8,()) else k0 (v0,v1,v7,wI (v8 + 1))) else some ((-1),())
abbrev zjP (K:Nat):vE→Option (Int × Unit):=zg zen K
theorem zr7 (K:Nat):∀ n,evV Es0 K Tryz.f265 0 (ch [tI]) [1,0,1,0] [] zr6 n = zg zen n:=zq fun n0 (v0,v1,v7,v8)=>by kernel_rfl
def zgs (L0:vE→Option (Int × Unit)):((List qV) × ((Option ((qV × Unit)→Option (Bool × Unit))) × Unit))→Option (Int × Unit):=fun (x0,x1,()) =>
  L0 (x0,x1,((List.length x0):Int),0)
def zbY:((List qV) × ((Option ((qV × Unit)→Option (Bool × Unit))) × Unit))→Option (Int × Unit):=zgs (zjP K0)
abbrev zly:Fun:=⟨265,(ch [(.sl qk),(.fn (ch [qk]) (ch [.bool]))]),(ch [tI]),0,zbY⟩
theorem zvu:Sq zly:=ml0 (d:=false) (S:=fun K=>zgs (zjP K)) Tryz.func265 (by kernel_rfl) (fun K=>tr1 (T:=zgs) (zr7 K K) fun (x0,x1,())=>by kernel_rfl) rfl
def zgY:(zE × Unit)→Option (Bool × Unit):=fun (x0,()) =>
  bif decide (x0.1 ≥ 0) then bif decide (x0.1 ≤ 127) then bif decide (x0.2.1 ≥ 0) then bif decide (x0.2.1 ≤ 127) then some (true,()) else some (false,()) else some (false,()) else some (false,()) else some (false,())
abbrev zwo:Fun:=⟨266,(ch [zv]),(ch [.bool]),0,zgY⟩
theorem zIz:Sq zwo:=ms0 (d:=false) (K:=0) Tryz.func266 (by kernel_rfl) (funext fun (x0,())=>by kernel_rfl)
def zkj:(Int × Unit)→Option (Bool × Unit):=fun (x0,()) =>
  bif decide (x0 ≥ 0) then bif decide (x0 < 6) then some (true,()) else some (false,()) else some (false,())
abbrev zwp:Fun:=⟨267,(ch [tI]),(ch [.bool]),0,zkj⟩
theorem zIA:Sq zwp:=ms0 (d:=false) (K:=0) Tryz.func267 (by kernel_rfl) (funext fun (x0,())=>by kernel_rfl)
def zhu:(qe × ((Option zE) × ((Option Int) × Unit)))→Option (Bool × Unit):=fun (x0,x1,x2,()) =>
  bif x0.1 then Option.bind x1 fun q0=>bif eqI zv x0.2.1 q0 then Option.bind x2 fun q1=>bif x0.2.2.2.1 == q1 then some (true,()) else some (false,()) else some (false,()) else some (false,())
abbrev zr8:Fun:=⟨269,(ch [zU,(.ptr zv),(.ptr tI)]),(ch [.bool]),0,zhu⟩
theorem zDE:Sq zr8:=ms0 (d:=false) (K:=0) Tryz.func269 (by kernel_rfl) (funext fun (x0,x1,x2,())=>by kernel_rfl)
abbrev vF:Type:=(List qe) × (Option ((qe × Unit)→Option (Bool × Unit))) × Int × Int
abbrev zr9:vF→St:=fun (v0,v1,v7,v8)=>St.mk [(0,.dat (.sl zU) v0),(1,.dat (.fn (.pair zU .unit) (.pair .bool .unit)) v1),(7,.dat tI v7),(8,.dat tI v8)] []
def zeo (k0:vF→Option (Int × Unit)):vF→Option (Int × Unit):=fun (v0,v1,v7,v8) =>
  bif decide (v8 < v7) then inR v8 ((List.length v0):Int) (Option.bind v1 fun q0=>Option.bind (q0 (ix qh v0 v8,())) fun q1=>bif q1.1 then some (v8,()) else k0 (v0,v1,v7,wI (v8 + 1))) else some ((-1),())
abbrev zjQ (K:Nat):vF→Option (Int × Unit):=zg zeo K
theorem zsa (K:Nat):∀ n,evV Es0 K Tryz.f268 0 (ch [tI]) [1,0,1,0] [] zr9 n = zg zeo n:=zq fun n0 (v0,v1,v7,v8)=>by kernel_rfl
def zgt (L0:vF→Option (Int × Unit)):((List qe) × ((Option ((qe × Unit)→Option (Bool × Unit))) × Unit))→Option (Int × Unit):=fun (x0,x1,()) =>
  L0 (x0,x1,((List.length x0):Int),0)
def yC:((List qe) × ((Option ((qe × Unit)→Option (Bool × Unit))) × Unit))→Option (Int × Unit):=zgt (zjQ K0)
abbrev zlz:Fun:=⟨268,(ch [(.sl zU),(.fn (ch [zU]) (ch [.bool]))]),(ch [tI]),0,yC⟩
theorem zvv:Sq zlz:=ml0 (d:=false) (S:=fun K=>zgt (zjQ K)) Tryz.func268 (by kernel_rfl) (fun K=>tr1 (T:=zgt) (zsa K K) fun (x0,x1,())=>by kernel_rfl) rfl
abbrev vG:Type:=(List zh) × (Option ((zh × Unit)→Option (Bool × Unit))) × Int × Int
abbrev zsb:vG→St:=fun (v0,v1,v7,v8)=>St.mk [(0,.dat (.sl zi) v0),(1,.dat (.fn (.pair zi .unit) (.pair .bool .unit)) v1),(7,.dat tI v7),(8,.dat tI v8)] []
def zep (k0:vG→Option (Int × Unit)):vG→Option (Int × Unit):=fun (v0,v1,v7,v8) =>
  bif decide (v8 < v7) then inR v8 ((List.length v0):Int) (Option.bind v1 fun q0=>Option.bind (q0 (ix zj v0 v8,())) fun q1=>bif q1.1 then some (v8,()) else k0 (v0,v1,v7,wI (v8 + 1))) else some ((-1),())
abbrev zjR (K:Nat):vG→Option (Int × Unit):=zg zep K
theorem zsc (K:Nat):∀ n,evV Es0 K Tryz.f270 0 (ch [tI]) [1,0,1,0] [] zsb n = zg zep n:=zq fun n0 (v0,v1,v7,v8)=>by kernel_rfl
def zgu (L0:vG→Option (Int × Unit)):((List zh) × ((Option ((zh × Unit)→Option (Bool × Unit))) × Unit))→Option (Int × Unit):=fun (x0,x1,()) =>
  L0 (x0,x1,((List.length x0):Int),0)
def yD:((List zh) × ((Option ((zh × Unit)→Option (Bool × Unit))) × Unit))→Option (Int × Unit):=zgu (zjR K0)
abbrev zlA:Fun:=⟨270,(ch [(.sl zi),(.fn (ch [zi]) (ch [.bool]))]),(ch [tI]),0,yD⟩
theorem zvw:Sq zlA:=ml0 (d:=false) (S:=fun K=>zgu (zjR K)) Tryz.func270 (by kernel_rfl) (fun K=>tr1 (T:=zgu) (zsc K K) fun (x0,x1,())=>by kernel_rfl) rfl
def zhv:(zh × Unit)→Option (qS × Unit):=fun (x0,()) =>
  some (x0.2.2,())
abbrev zBB:Fun:=⟨167,(ch [zi]),(ch [qm]),0,zhv⟩
theorem zNl:Sq zBB:=ms0 (d:=false) (K:=0) Tryz.func167 (by kernel_rfl) (funext fun (x0,())=>by kernel_rfl)
def zfu:(Int × Unit)→Option (Bool × Unit):=fun (x0,()) =>
  bif decide (x0 ≥ 0) then bif decide (x0 ≤ 127) then some (true,()) else some (false,()) else some (false,())
abbrev zBC:Fun:=⟨223,(ch [tI]),(ch [.bool]),0,zfu⟩
theorem zNm:Sq zBC:=ms0 (d:=false) (K:=0) Tryz.func223 (by kernel_rfl) (funext fun (x0,())=>by kernel_rfl)
abbrev vH:Type:=(List qr) × (Option ((qr × Unit)→Option (Bool × Unit))) × Int × Int
abbrev zsd:vH→St:=fun (v0,v1,v7,v8)=>St.mk [(0,.dat (.sl zY) v0),(1,.dat (.fn (.pair zY .unit) (.pair .bool .unit)) v1),(7,.dat tI v7),(8,.dat tI v8)] []
def zeq (k0:vH→Option (Int × Unit)):vH→Option (Int × Unit):=fun (v0,v1,v7,v8) =>
  bif decide (v8 < v7) then inR v8 ((List.length v0):Int) (Option.bind v1 fun q0=>Option.bind (q0 (ix zaS v0 v8,())) fun q1=>bif q1.1 then some (v8,()) else k0 (v0,v1,v7,wI (v8 + 1))) else some ((-1),())
abbrev zjS (K:Nat):vH→Option (Int × Unit):=zg zeq K
theorem zse (K:Nat):∀ n,evV Es0 K Tryz.f271 0 (ch [tI]) [1,0,1,0] [] zsd n = zg zeq n:=zq fun n0 (v0,v1,v7,v8)=>by kernel_rfl
def zgv (L0:vH→Option (Int × Unit)):((List qr) × ((Option ((qr × Unit)→Option (Bool × Unit))) × Unit))→Option (Int × Unit):=fun (x0,x1,()) =>
  L0 (x0,x1,((List.length x0):Int),0)
def zbZ:((List qr) × ((Option ((qr × Unit)→Option (Bool × Unit))) × Unit))→Option (Int × Unit):=zgv (zjS K0)
abbrev zlB:Fun:=⟨271,(ch [(.sl zY),(.fn (ch [zY]) (ch [.bool]))]),(ch [tI]),0,zbZ⟩
theorem zvx:Sq zlB:=ml0 (d:=false) (S:=fun K=>zgv (zjS K)) Tryz.func271 (by kernel_rfl) (fun K=>tr1 (T:=zgv) (zse K K) fun (x0,x1,())=>by kernel_rfl) rfl
def zjT:(Int × Unit)→Option (Bool × Unit):=fun (x0,()) =>
  bif decide (x0 ≥ 0) then bif decide (x0 ≤ 127) then some (true,()) else some (false,()) else some (false,())
abbrev zFy:Fun:=⟨313,(ch [tI]),(ch [.bool]),0,zjT⟩
theorem zOP:Sq zFy:=ms0 (d:=false) (K:=0) Tryz.func313 (by kernel_rfl) (funext fun (x0,())=>by kernel_rfl)
def zkk:(Int × Unit)→Option (Bool × Unit):=fun (x0,()) =>
  bif decide (x0 ≥ 32) then bif decide (x0 ≤ 126) then some (true,()) else some (false,()) else some (false,())
abbrev zwq:Fun:=⟨314,(ch [(.int .u8)]),(ch [.bool]),0,zkk⟩
theorem zIB:Sq zwq:=ms0 (d:=false) (K:=0) Tryz.func314 (by kernel_rfl) (funext fun (x0,())=>by kernel_rfl)
abbrev jI:Type:=ByteArray × Int
abbrev zn5:jI→St:=fun (v0,v1)=>St.mk [(0,.dat .str v0),(1,.dat (.int IntKind.u8) v1)] []
def zP (k0:jI→Option (ByteArray × Unit)):jI→Option (ByteArray × Unit):=fun (v0,v1) =>
  bif decide ((↑(ByteArray.size v0):Int) > 0) then inR (wI ((↑(ByteArray.size v0):Int) - 1)) (↑(ByteArray.size v0):Int) (bif (↑(UInt8.toNat (List.getD (Array.toList (ByteArray.data v0)) (Int.toNat (wI ((↑(ByteArray.size v0):Int) - 1))) 0)):Int) == v1 then bif decide (0 ≤ wI ((↑(ByteArray.size v0):Int) - 1)) then bif decide (wI ((↑(ByteArray.size v0):Int) - 1) ≤ (↑(ByteArray.size v0):Int)) then k0 (ByteArray.extract v0 0 (Int.toNat (wI ((↑(ByteArray.size v0):Int) - 1))),v1) else none else none else some (v0,())) else some (v0,())
abbrev zgy (K:Nat):jI→Option (ByteArray × Unit):=zg zP K
theorem zn6 (K:Nat):∀ n,evV Es0 K Tryz.f331 0 (ch [.str]) [1,0,0] [] zn5 n = zg zP n:=zq fun n0 (v0,v1)=>by kernel_rfl
def zb6 (L0:jI→Option (ByteArray × Unit)):(ByteArray × (Int × Unit))→Option (ByteArray × Unit):=fun (x0,x1,()) =>
  L0 (x0,x1)
def zb7:(ByteArray × Int × Unit)→Option (ByteArray × Unit):=zb6 (zgy K0)
abbrev zh2:Fun:=⟨331,(ch [.str,(.int .u8)]),(ch [.str]),0,zb7⟩
theorem zpQ:Sq zh2:=ml0 (d:=false) (S:=fun K=>zb6 (zgy K)) Tryz.func331 (by kernel_rfl) (fun K=>tr1 (T:=zb6) (zn6 K K) fun (x0,x1,())=>by kernel_rfl) rfl
abbrev jT:Type:=ByteArray × Int
abbrev zoI:jT→St:=fun (v0,v1)=>St.mk [(0,.dat .str v0),(1,.dat (.int IntKind.u8) v1)] []
def zS (k0:jT→Option (ByteArray × Unit)):jT→Option (ByteArray × Unit):=fun (v0,v1) =>
  bif decide ((↑(ByteArray.size v0):Int) > 0) then bif decide (0 < (↑(ByteArray.size v0):Int)) then bif (↑(UInt8.toNat (List.getD (Array.toList (ByteArray.data v0)) (Int.toNat 0) 0)):Int) == v1 then bif decide (1 ≤ (↑(ByteArray.size v0):Int)) then k0 (ByteArray.extract v0 (Int.toNat 1) (ByteArray.size v0),v1) else none else some (v0,()) else none else some (v0,())
abbrev zgZ (K:Nat):jT→Option (ByteArray × Unit):=zg zS K
theorem zoJ (K:Nat):∀ n,evV Es0 K Tryz.f330 0 (ch [.str]) [1,0,0] [] zoI n = zg zS n:=zq fun n0 (v0,v1)=>by kernel_rfl
def zdO (L0:jT→Option (ByteArray × Unit)):(ByteArray × (Int × Unit))→Option (ByteArray × Unit):=fun (x0,x1,()) =>
  L0 (x0,x1)
def zdP:(ByteArray × Int × Unit)→Option (ByteArray × Unit):=zdO (zgZ K0)
abbrev zir:Fun:=⟨330,(ch [.str,(.int .u8)]),(ch [.str]),0,zdP⟩
theorem zrr:Sq zir:=ml0 (d:=false) (S:=fun K=>zdO (zgZ K)) Tryz.func330 (by kernel_rfl) (fun K=>tr1 (T:=zdO) (zoJ K K) fun (x0,x1,())=>by kernel_rfl) rfl
abbrev vl:Type:=(List zx) × (Option ((zx × Unit)→Option (Bool × Unit))) × Int × Int
abbrev zrs:vl→St:=fun (v0,v1,v7,v8)=>St.mk [(0,.dat (.sl zz) v0),(1,.dat (.fn (.pair zz .unit) (.pair .bool .unit)) v1),(7,.dat tI v7),(8,.dat tI v8)] []
def zdQ (k0:vl→Option (Int × Unit)):vl→Option (Int × Unit):=fun (v0,v1,v7,v8) =>
  bif decide (v8 < v7) then inR v8 ((List.length v0):Int) (Option.bind v1 fun q0=>Option.bind (q0 (ix zR v0 v8,())) fun q1=>bif q1.1 then some (v8,()) else k0 (v0,v1,v7,wI (v8 + 1))) else some ((-1),())
abbrev zis (K:Nat):vl→Option (Int × Unit):=zg zdQ K
theorem zrt (K:Nat):∀ n,evV Es0 K Tryz.f274 0 (ch [tI]) [1,0,1,0] [] zrs n = zg zdQ n:=zq fun n0 (v0,v1,v7,v8)=>by kernel_rfl
def zfv (L0:vl→Option (Int × Unit)):((List zx) × ((Option ((zx × Unit)→Option (Bool × Unit))) × Unit))→Option (Int × Unit):=fun (x0,x1,()) =>
  L0 (x0,x1,((List.length x0):Int),0)
def zaV:((List zx) × ((Option ((zx × Unit)→Option (Bool × Unit))) × Unit))→Option (Int × Unit):=zfv (zis K0)
abbrev zkl:Fun:=⟨274,(ch [(.sl zz),(.fn (ch [zz]) (ch [.bool]))]),(ch [tI]),0,zaV⟩
theorem ztO:Sq zkl:=ml0 (d:=false) (S:=fun K=>zfv (zis K)) Tryz.func274 (by kernel_rfl) (fun K=>tr1 (T:=zfv) (zrt K K) fun (x0,x1,())=>by kernel_rfl) rfl
def zhw:(Int × Unit)→Option (Bool × Unit):=fun (x0,()) =>
  bif decide (x0 ≥ 0) then bif decide (x0 ≤ 127) then some (true,()) else some (false,()) else some (false,())
abbrev zBD:Fun:=⟨275,(ch [tI]),(ch [.bool]),0,zhw⟩
theorem zNn:Sq zBD:=ms0 (d:=false) (K:=0) Tryz.func275 (by kernel_rfl) (funext fun (x0,())=>by kernel_rfl)
def jt:(Int × Unit)→Option (Bool × Unit):=fun (x0,()) =>
  bif decide (x0 ≥ 0) then bif decide (x0 < 4) then some (true,()) else some (false,()) else some (false,())
abbrev zwr:Fun:=⟨208,(ch [tI]),(ch [.bool]),0,jt⟩
theorem zIC:Sq zwr:=ms0 (d:=false) (K:=0) Tryz.func208 (by kernel_rfl) (funext fun (x0,())=>by kernel_rfl)
def zg0:(zj7 × Unit)→Option (Bool × Unit):=fun (x0,()) =>
  bif eqI zd3 x0 (x0.1,(zd zd3).2.1,-1,(zd zd3).2.2.2) then some (true,()) else some (false,())
abbrev zws:Fun:=⟨277,(ch [zd3]),(ch [.bool]),0,zg0⟩
theorem zID:Sq zws:=ms0 (d:=false) (K:=0) Tryz.func277 (by kernel_rfl) (funext fun (x0,())=>by kernel_rfl)
def za8:(Int × Unit)→Option (Bool × Unit):=fun (x0,()) =>
  bif decide (x0 < 0) then some (true,()) else bif decide (x0 > 2) then some (true,()) else some (false,())
abbrev zsf:Fun:=⟨189,(ch [tI]),(ch [.bool]),0,za8⟩
theorem zDF:Sq zsf:=ms0 (d:=false) (K:=0) Tryz.func189 (by kernel_rfl) (funext fun (x0,())=>by kernel_rfl)
def zd4:(Int × (Int × Unit))→Option (Int × (Int × Unit)):=fun (x0,x1,()) =>
  some (wU (wU (wU (Int.fdiv x0 (2 ^ min (Int.toNat 32) (IntKind.bits IntKind.u64)) * Int.fdiv x1 (2 ^ min (Int.toNat 32) (IntKind.bits IntKind.u64))) + Int.fdiv (wU (wU (Int.fdiv x0 (2 ^ min (Int.toNat 32) (IntKind.bits IntKind.u64)) * wU (↑(BitVec.toNat (BitVec.ofInt (IntKind.bits IntKind.u64) x1 &&& BitVec.ofInt (IntKind.bits IntKind.u64) 4294967295)):Int)) + Int.fdiv (wU (wU (↑(BitVec.toNat (BitVec.ofInt (IntKind.bits IntKind.u64) x0 &&& BitVec.ofInt (IntKind.bits IntKind.u64) 4294967295)):Int) * wU (↑(BitVec.toNat (BitVec.ofInt (IntKind.bits IntKind.u64) x1 &&& BitVec.ofInt (IntKind.bits IntKind.u64) 4294967295)):Int))) (2 ^ min (Int.toNat 32) (IntKind.bits IntKind.u64)))) (2 ^ min (Int.toNat 32) (IntKind.bits IntKind.u64))) + Int.fdiv (wU (wU (↑(BitVec.toNat (BitVec.ofInt (IntKind.bits IntKind.u64) (wU (wU (Int.fdiv x0 (2 ^ min (Int.toNat 32) (IntKind.bits IntKind.u64)) * wU (↑(BitVec.toNat (BitVec.ofInt (IntKind.bits IntKind.u64) x1 &&& BitVec.ofInt (IntKind.bits IntKind.u64) 4294967295)):Int)) + Int.fdiv (wU (wU (↑(BitVec.toNat (BitVec.ofInt (IntKind.bits IntKind.u64) x0 &&& BitVec.ofInt (IntKind.bits IntKind.u64) 4294967295)):Int) * wU (↑(BitVec.toNat (BitVec.ofInt (IntKind.bits IntKind.u64) x1 &&& BitVec.ofInt (IntKind.bits IntKind.u64) 4294967295)):Int))) (2 ^ min (Int.toNat 32) (IntKind.bits IntKind.u64)))) &&& BitVec.ofInt (IntKind.bits IntKind.u64) 4294967295)):Int) + wU (wU (↑(BitVec.toNat (BitVec.ofInt (IntKind.bits IntKind.u64) x0 &&& BitVec.ofInt (IntKind.bits IntKind.u64) 4294967295)):Int) * Int.fdiv x1 (2 ^ min (Int.toNat 32) (IntKind.bits IntKind.u64))))) (2 ^ min (Int.toNat 32) (IntKind.bits IntKind.u64))),wU (x0 * x1),())
abbrev znO:Fun:=⟨337,(ch [tU,tU]),(ch [tU,tU]),0,zd4⟩
theorem zyd:Sq znO:=ms0 (d:=false) (K:=0) Tryz.func337 (by kernel_rfl) (funext fun (x0,x1,())=>by kernel_rfl)
def zmS:(Int × Unit)→Option (Bool × Unit):=fun (x0,()) =>
  bif decide (x0 ≥ 0) then bif decide (x0 ≤ 127) then some (true,()) else some (false,()) else some (false,())
abbrev zFz:Fun:=⟨280,(ch [tI]),(ch [.bool]),0,zmS⟩
theorem zOQ:Sq zFz:=ms0 (d:=false) (K:=0) Tryz.func280 (by kernel_rfl) (funext fun (x0,())=>by kernel_rfl)
def zfw:(Int × Unit)→Option (Bool × Unit):=fun (x0,()) =>
  bif decide (x0 ≥ 0) then bif decide (x0 ≤ 127) then some (true,()) else some (false,()) else some (false,())
abbrev zBE:Fun:=⟨281,(ch [tI]),(ch [.bool]),0,zfw⟩
theorem zNo:Sq zBE:=ms0 (d:=false) (K:=0) Tryz.func281 (by kernel_rfl) (funext fun (x0,())=>by kernel_rfl)
def zfW:(zb × (zE × Unit))→Option (Bool × Unit):=fun (x0,x1,()) =>
  bif decide (x1.1 ≥ 0) then bif decide (x1.1 < ((List.length x0.2.1):Int)) then bif decide (x1.2.1 ≥ 0) then inR x1.1 ((List.length x0.2.1):Int) (bif decide (x1.2.1 < ((List.length (ix ze x0.2.1 x1.1).1):Int)) then inR x1.1 ((List.length x0.2.1):Int) (inR x1.2.1 ((List.length (ix ze x0.2.1 x1.1).1):Int) (bif (List.getD (ix ze x0.2.1 x1.1).1 (Int.toNat x1.2.1) (zd qk)).1 then some (true,()) else some (false,()))) else some (false,())) else some (false,()) else some (false,()) else some (false,())
abbrev zuh:Fun:=⟨112,(ch [zo,zv]),(ch [.bool]),0,zfW⟩
theorem zFT:Sq zuh:=ms0 (d:=false) (K:=0) Tryz.func112 (by kernel_rfl) (funext fun (x0,x1,())=>by kernel_rfl)
def zb9:(qW × (Int × Unit))→Option (Bool × Unit):=fun (x0,x1,()) =>
  bif decide (x1 ≥ 0) then bif decide (x1 < ((List.length x0.1.1):Int)) then some (true,()) else some (false,()) else some (false,())
abbrev zui:Fun:=⟨115,(ch [qp,tI]),(ch [.bool]),0,zb9⟩
theorem zFU:Sq zui:=ms0 (d:=false) (K:=0) Tryz.func115 (by kernel_rfl) (funext fun (x0,x1,())=>by kernel_rfl)
def qX:(qW × (Int × Unit))→Option (Bool × Unit):=fun (x0,x1,()) =>
  bif decide (x1 ≥ 0) then bif decide (x1 < ((List.length x0.1.2.2.1):Int)) then some (true,()) else some (false,()) else some (false,())
abbrev zqm:Fun:=⟨116,(ch [qp,tI]),(ch [.bool]),0,qX⟩
theorem zBF:Sq zqm:=ms0 (d:=false) (K:=0) Tryz.func116 (by kernel_rfl) (funext fun (x0,x1,())=>by kernel_rfl)
def zb0:(zu × ((Option (Option ((zu × Unit)→Option (Bool × Unit)))) × Unit))→Option (Bool × Unit):=fun (x0,x1,()) =>
  Option.bind x1 fun q0=>Option.bind q0 fun q1=>Option.bind (q1 (x0,())) fun q2=>bif q2.1 then some (false,()) else some (true,())
abbrev zlC:Fun:=⟨195,(ch [zr,(.ptr (.fn (ch [zr]) (ch [.bool])))]),(ch [.bool]),0,zb0⟩
theorem zvy:Sq zlC:=ms0 (d:=false) (K:=0) Tryz.func195 (by kernel_rfl) (funext fun (x0,x1,())=>by kernel_rfl)
abbrev vm:Type:=(List zu) × (Option ((zu × Unit)→Option (Bool × Unit))) × Int × Int
abbrev zru:vm→St:=fun (v0,v1,v7,v8)=>St.mk [(0,.dat (.sl zr) v0),(1,.dat (.fn (.pair zr .unit) (.pair .bool .unit)) v1),(7,.dat tI v7),(8,.dat tI v8)] []
def zdR (k0:vm→Option (Int × Unit)):vm→Option (Int × Unit):=fun (v0,v1,v7,v8) =>
  bif decide (v8 < v7) then inR v8 ((List.length v0):Int) (Option.bind v1 fun q0=>Option.bind (q0 (ix zK v0 v8,())) fun q1=>bif q1.1 then some (v8,()) else k0 (v0,v1,v7,wI (v8 + 1))) else some ((-1),())
abbrev zit (K:Nat):vm→Option (Int × Unit):=zg zdR K
theorem zrv (K:Nat):∀ n,evV Es0 K Tryz.f285 0 (ch [tI]) [1,0,1,0] [] zru n = zg zdR n:=zq fun n0 (v0,v1,v7,v8)=>by kernel_rfl
def zfx (L0:vm→Option (Int × Unit)):((List zu) × ((Option ((zu × Unit)→Option (Bool × Unit))) × Unit))→Option (Int × Unit):=fun (x0,x1,()) =>
  L0 (x0,x1,((List.length x0):Int),0)
def zaW:((List zu) × ((Option ((zu × Unit)→Option (Bool × Unit))) × Unit))→Option (Int × Unit):=zfx (zit K0)
abbrev zkm:Fun:=⟨285,(ch [(.sl zr),(.fn (ch [zr]) (ch [.bool]))]),(ch [tI]),0,zaW⟩
theorem ztP:Sq zkm:=ml0 (d:=false) (S:=fun K=>zfx (zit K)) Tryz.func285 (by kernel_rfl) (fun K=>tr1 (T:=zfx) (zrv K K) fun (x0,x1,())=>by kernel_rfl) rfl
def zb1:(zJ × ((Option (Option ((zJ × Unit)→Option (Bool × Unit)))) × Unit))→Option (Bool × Unit):=fun (x0,x1,()) =>
  Option.bind x1 fun q0=>Option.bind q0 fun q1=>Option.bind (q1 (x0,())) fun q2=>bif q2.1 then some (false,()) else some (true,())
abbrev zlD:Fun:=⟨197,(ch [zA,(.ptr (.fn (ch [zA]) (ch [.bool])))]),(ch [.bool]),0,zb1⟩
theorem zvz:Sq zlD:=ms0 (d:=false) (K:=0) Tryz.func197 (by kernel_rfl) (funext fun (x0,x1,())=>by kernel_rfl)
abbrev vn:Type:=(List zJ) × (Option ((zJ × Unit)→Option (Bool × Unit))) × Int × Int
abbrev zrw:vn→St:=fun (v0,v1,v7,v8)=>St.mk [(0,.dat (.sl zA) v0),(1,.dat (.fn (.pair zA .unit) (.pair .bool .unit)) v1),(7,.dat tI v7),(8,.dat tI v8)] []
def zdS (k0:vn→Option (Int × Unit)):vn→Option (Int × Unit):=fun (v0,v1,v7,v8) =>
  bif decide (v8 < v7) then inR v8 ((List.length v0):Int) (Option.bind v1 fun q0=>Option.bind (q0 (ix vU v0 v8,())) fun q1=>bif q1.1 then some (v8,()) else k0 (v0,v1,v7,wI (v8 + 1))) else some ((-1),())
abbrev ziu (K:Nat):vn→Option (Int × Unit):=zg zdS K
theorem zrx (K:Nat):∀ n,evV Es0 K Tryz.f286 0 (ch [tI]) [1,0,1,0] [] zrw n = zg zdS n:=zq fun n0 (v0,v1,v7,v8)=>by kernel_rfl
def zfy (L0:vn→Option (Int × Unit)):((List zJ) × ((Option ((zJ × Unit)→Option (Bool × Unit))) × Unit))→Option (Int × Unit):=fun (x0,x1,()) =>
  L0 (x0,x1,((List.length x0):Int),0)
def zaX:((List zJ) × ((Option ((zJ × Unit)→Option (Bool × Unit))) × Unit))→Option (Int × Unit):=zfy (ziu K0)
abbrev zkn:Fun:=⟨286,(ch [(.sl zA),(.fn (ch [zA]) (ch [.bool]))]),(ch [tI]),0,zaX⟩
theorem ztQ:Sq zkn:=ml0 (d:=false) (S:=fun K=>zfy (ziu K)) Tryz.func286 (by kernel_rfl) (fun K=>tr1 (T:=zfy) (zrx K K) fun (x0,x1,())=>by kernel_rfl) rfl
def zd5:(Int × ((Option (Option ((Int × Unit)→Option (Bool × Unit)))) × Unit))→Option (Bool × Unit):=fun (x0,x1,()) =>
  Option.bind x1 fun q0=>Option.bind q0 fun q1=>Option.bind (q1 (x0,())) fun q2=>bif q2.1 then some (false,()) else some (true,())
abbrev znP:Fun:=⟨198,(ch [tI,(.ptr (.fn (ch [tI]) (ch [.bool])))]),(ch [.bool]),0,zd5⟩
theorem zye:Sq znP:=ms0 (d:=false) (K:=0) Tryz.func198 (by kernel_rfl) (funext fun (x0,x1,())=>by kernel_rfl)
def ziv:(zC × (zC × Unit))→Option (Bool × Unit):=fun (x0,x1,()) =>
  bif decide (x0.1 ≤ x1.1) then bif wU (↑(BitVec.toNat (BitVec.ofInt (IntKind.bits IntKind.u64) x0.2.1 &&& ~~~BitVec.ofInt (IntKind.bits IntKind.u64) x1.2.1)):Int) == 0 then some (true,()) else some (false,()) else some (false,())
abbrev zyG:Fun:=⟨20,(ch [zt,zt]),(ch [.bool]),0,ziv⟩
theorem zK2:Sq zyG:=ms0 (d:=false) (K:=0) Tryz.func20 (by kernel_rfl) (funext fun (x0,x1,())=>by kernel_rfl)
def zgz:(qe × ((Option (Option ((zE × Unit)→Option (Bool × Unit)))) × Unit))→Option (Bool × Unit):=fun (x0,x1,()) =>
  bif x0.1 then Option.bind x1 fun q0=>Option.bind q0 fun q1=>Option.bind (q1 (x0.2.1,())) fun q2=>bif q2.1 then Option.bind x1 fun q3=>Option.bind q3 fun q4=>Option.bind (q4 (x0.2.2.1,())) fun q5=>bif q5.1 then some (true,()) else some (false,()) else some (false,()) else some (true,())
abbrev zqn:Fun:=⟨123,(ch [zU,(.ptr (.fn (ch [zv]) (ch [.bool])))]),(ch [.bool]),0,zgz⟩
theorem zBG:Sq zqn:=ms0 (d:=false) (K:=0) Tryz.func123 (by kernel_rfl) (funext fun (x0,x1,())=>by kernel_rfl)
end
end Go.Proofs.YtejbgeokcpillaaGreatDoor
end
section
namespace Go.Proofs.YtejbgeokcpillaaGreatDoor
open Go.Ev
noncomputable section
def zct:(qe × ((Option (Option ((qe × Unit)→Option (Bool × Unit)))) × Unit))→Option (Bool × Unit):=fun (x0,x1,()) =>
  Option.bind x1 fun q0=>Option.bind q0 fun q1=>Option.bind (q1 (x0,())) fun q2=>bif q2.1 then some (false,()) else some (true,())
abbrev zmT:Fun:=⟨201,(ch [zU,(.ptr (.fn (ch [zU]) (ch [.bool])))]),(ch [.bool]),0,zct⟩
theorem zwt:Sq zmT:=ms0 (d:=false) (K:=0) Tryz.func201 (by kernel_rfl) (funext fun (x0,x1,())=>by kernel_rfl)
def zcu:(zh × ((Option (Option ((zE × Unit)→Option (Bool × Unit)))) × Unit))→Option (Bool × Unit):=fun (x0,x1,()) =>
  bif x0.2.2.1 != 2 then some (true,()) else Option.bind x1 fun q0=>Option.bind q0 fun q1=>Option.bind (q1 (x0.2.2.2.2.1,())) fun q2=>bif q2.1 then some (true,()) else some (false,())
abbrev zqo:Fun:=⟨125,(ch [zi,(.ptr (.fn (ch [zv]) (ch [.bool])))]),(ch [.bool]),0,zcu⟩
theorem zBH:Sq zqo:=ms0 (d:=false) (K:=0) Tryz.func125 (by kernel_rfl) (funext fun (x0,x1,())=>by kernel_rfl)
def zcv:(zh × ((Option (Option ((zh × Unit)→Option (Bool × Unit)))) × Unit))→Option (Bool × Unit):=fun (x0,x1,()) =>
  Option.bind x1 fun q0=>Option.bind q0 fun q1=>Option.bind (q1 (x0,())) fun q2=>bif q2.1 then some (false,()) else some (true,())
abbrev zmU:Fun:=⟨202,(ch [zi,(.ptr (.fn (ch [zi]) (ch [.bool])))]),(ch [.bool]),0,zcv⟩
theorem zwu:Sq zmU:=ms0 (d:=false) (K:=0) Tryz.func202 (by kernel_rfl) (funext fun (x0,x1,())=>by kernel_rfl)
def zd6:(zE × ((Option (Option ((zE × Unit)→Option (Bool × Unit)))) × Unit))→Option (Bool × Unit):=fun (x0,x1,()) =>
  Option.bind x1 fun q0=>Option.bind q0 fun q1=>Option.bind (q1 (x0,())) fun q2=>bif q2.1 then some (false,()) else some (true,())
abbrev znQ:Fun:=⟨204,(ch [zv,(.ptr (.fn (ch [zv]) (ch [.bool])))]),(ch [.bool]),0,zd6⟩
theorem zyf:Sq znQ:=ms0 (d:=false) (K:=0) Tryz.func204 (by kernel_rfl) (funext fun (x0,x1,())=>by kernel_rfl)
abbrev vX:Type:=(List zE) × (Option ((zE × Unit)→Option (Bool × Unit))) × Int × Int
abbrev ztR:vX→St:=fun (v0,v1,v7,v8)=>St.mk [(0,.dat (.sl jq) v0),(1,.dat (.fn (.pair jq .unit) (.pair .bool .unit)) v1),(7,.dat tI v7),(8,.dat tI v8)] []
def zfz (k0:vX→Option (Int × Unit)):vX→Option (Int × Unit):=fun (v0,v1,v7,v8) =>
  bif decide (v8 < v7) then inR v8 ((List.length v0):Int) (Option.bind v1 fun q0=>Option.bind (q0 (ix qB v0 v8,())) fun q1=>bif q1.1 then some (v8,()) else k0 (v0,v1,v7,wI (v8 + 1))) else some ((-1),())
abbrev zko (K:Nat):vX→Option (Int × Unit):=zg zfz K
theorem ztS (K:Nat):∀ n,evV Es0 K Tryz.f287 0 (ch [tI]) [1,0,1,0] [] ztR n = zg zfz n:=zq fun n0 (v0,v1,v7,v8)=>by kernel_rfl
def zg1 (L0:vX→Option (Int × Unit)):((List zE) × ((Option ((zE × Unit)→Option (Bool × Unit))) × Unit))→Option (Int × Unit):=fun (x0,x1,()) =>
  L0 (x0,x1,((List.length x0):Int),0)
def zcw:((List qy) × ((Option ((qy × Unit)→Option (Bool × Unit))) × Unit))→Option (Int × Unit):=zg1 (zko K0)
abbrev zmV:Fun:=⟨287,(ch [(.sl zv),(.fn (ch [zv]) (ch [.bool]))]),(ch [tI]),0,zcw⟩
theorem zwv:Sq zmV:=ml0 (d:=false) (S:=fun K=>zg1 (zko K)) Tryz.func287 (by kernel_rfl) (fun K=>tr1 (T:=zg1) (ztS K K) fun (x0,x1,())=>by kernel_rfl) rfl
def zcx:(qr × ((Option (Option ((qr × Unit)→Option (Bool × Unit)))) × Unit))→Option (Bool × Unit):=fun (x0,x1,()) =>
  Option.bind x1 fun q0=>Option.bind q0 fun q1=>Option.bind (q1 (x0,())) fun q2=>bif q2.1 then some (false,()) else some (true,())
abbrev zmW:Fun:=⟨205,(ch [zY,(.ptr (.fn (ch [zY]) (ch [.bool])))]),(ch [.bool]),0,zcx⟩
theorem zww:Sq zmW:=ms0 (d:=false) (K:=0) Tryz.func205 (by kernel_rfl) (funext fun (x0,x1,())=>by kernel_rfl)
def zb2:(zx × ((Option (Option ((zx × Unit)→Option (Bool × Unit)))) × Unit))→Option (Bool × Unit):=fun (x0,x1,()) =>
  Option.bind x1 fun q0=>Option.bind q0 fun q1=>Option.bind (q1 (x0,())) fun q2=>bif q2.1 then some (false,()) else some (true,())
abbrev zlE:Fun:=⟨206,(ch [zz,(.ptr (.fn (ch [zz]) (ch [.bool])))]),(ch [.bool]),0,zb2⟩
theorem zvA:Sq zlE:=ms0 (d:=false) (K:=0) Tryz.func206 (by kernel_rfl) (funext fun (x0,x1,())=>by kernel_rfl)
def vY:(zx × Unit)→Option (Bool × Unit):=fun (x0,()) =>
  bif x0.1 then some (true,()) else some (false,())
abbrev zqp:Fun:=⟨134,(ch [zz]),(ch [.bool]),0,vY⟩
theorem zBI:Sq zqp:=ms0 (d:=false) (K:=0) Tryz.func134 (by kernel_rfl) (funext fun (x0,())=>by kernel_rfl)
def zfA:((Option zcq) × Unit)→Option (Bool × Unit):=fun (x0,()) =>
  bif Option.isSome x0 then Option.bind x0 fun q0=>bif Option.isSome q0.2.1 then some (true,()) else some (false,()) else some (false,())
abbrev zoK:Fun:=⟨207,(ch [(.ptr vV)]),(ch [.bool]),0,zfA⟩
theorem zzN:Sq zoK:=ms0 (d:=false) (K:=0) Tryz.func207 (by kernel_rfl) (funext fun (x0,())=>by kernel_rfl)
def zkp:(zu × Unit)→Option (Bool × Unit):=fun (x0,()) =>
  bif x0.1 then some (true,()) else some (false,())
abbrev zwx:Fun:=⟨339,(ch [zr]),(ch [.bool]),0,zkp⟩
theorem zIE:Sq zwx:=ms0 (d:=false) (K:=0) Tryz.func339 (by kernel_rfl) (funext fun (x0,())=>by kernel_rfl)
def zfB:((Option zfq) × Unit)→Option (Bool × Unit):=fun (x0,()) =>
  bif Option.isSome x0 then Option.bind x0 fun q0=>bif Option.isSome q0.2.1 then some (true,()) else some (false,()) else some (false,())
abbrev zoL:Fun:=⟨340,(ch [(.ptr y8)]),(ch [.bool]),0,zfB⟩
theorem zzO:Sq zoL:=ms0 (d:=false) (K:=0) Tryz.func340 (by kernel_rfl) (funext fun (x0,())=>by kernel_rfl)
def ziR:(zu × Unit)→Option (Int × Unit):=fun (x0,()) =>
  bif x0.2.2.2.1 == 2 then some (x0.2.2.2.2.1,()) else some (x0.2.2.2.2.2.1,())
abbrev zuj:Fun:=⟨289,(ch [zr]),(ch [tI]),0,ziR⟩
theorem zFV:Sq zuj:=ms0 (d:=false) (K:=0) Tryz.func289 (by kernel_rfl) (funext fun (x0,())=>by kernel_rfl)
def zmq:(Int × (Int × Unit))→Option (Int × (Int × Unit)):=fun (x0,x1,()) =>
  bif decide (0 ≤ x0) then bif decide (0 ≤ x1) then bif decide (x1 < 18446744073709551616) then bif extB true x0 x1 != 0 then some (0,7,()) else bif decide (extA true x0 x1 > 4611686018427387904) then some (0,7,()) else some (extA true x0 x1,0,()) else none else none else none
abbrev zyH:Fun:=⟨291,(ch [tU,tU]),(ch [tU,tI]),0,zmq⟩
theorem zK3:Sq zyH:=ms0 (d:=false) (K:=0) Tryz.func291 (by kernel_rfl) (funext fun (x0,x1,())=>by kernel_rfl)
def ziS:(zx × Unit)→Option (Bool × Unit):=fun (x0,()) =>
  bif x0.1 then some (true,()) else some (false,())
abbrev zuk:Fun:=⟨321,(ch [zz]),(ch [.bool]),0,ziS⟩
theorem zFW:Sq zuk:=ms0 (d:=false) (K:=0) Tryz.func321 (by kernel_rfl) (funext fun (x0,())=>by kernel_rfl)
def zlW:(zp × Unit)→Option ((List Int) × Unit):=fun (x0,()) =>
  some (x0.2.2.2.2.2.2.2.1,())
abbrev zsg:Fun:=⟨213,(ch [zy]),(ch [(.arr 4 tU)]),0,zlW⟩
theorem zDG:Sq zsg:=ms0 (d:=false) (K:=0) Tryz.func213 (by kernel_rfl) (funext fun (x0,())=>by kernel_rfl)
def zlX:(zp × Unit)→Option ((List Int) × Unit):=fun (x0,()) =>
  some (x0.2.2.2.2.2.2.2.2.1,())
abbrev zsh:Fun:=⟨214,(ch [zy]),(ch [(.arr 4 tU)]),0,zlX⟩
theorem zDH:Sq zsh:=ms0 (d:=false) (K:=0) Tryz.func214 (by kernel_rfl) (funext fun (x0,())=>by kernel_rfl)
def zkq:(Int × (Int × Unit))→Option (Int × (Int × Unit)):=fun (x0,x1,()) =>
  bif decide (0 ≤ x0) then bif decide (0 ≤ x1) then bif decide (x1 < 18446744073709551616) then bif extB false x0 x1 != 0 then some (0,6,()) else some (extA false x0 x1,0,()) else none else none else none
abbrev zwy:Fun:=⟨215,(ch [tU,tU]),(ch [tU,tI]),0,zkq⟩
theorem zIF:Sq zwy:=ms0 (d:=false) (K:=0) Tryz.func215 (by kernel_rfl) (funext fun (x0,x1,())=>by kernel_rfl)
def zca:(zb × (pMe × Unit))→Option ((List zh) × Unit):=fun (x0,x1,()) =>
  inR x1.2.1 ((List.length x0.2.1):Int) (some ((ix ze x0.2.1 x1.2.1).2.2.1,()))
abbrev zul:Fun:=⟨50,(ch [zo,tMe]),(ch [(.sl zi)]),0,zca⟩
theorem zFX:Sq zul:=ms0 (d:=false) (K:=0) Tryz.func50 (by kernel_rfl) (funext fun (x0,x1,())=>by kernel_rfl)
def qT:(zh × Unit)→Option (Bool × Unit):=fun (x0,()) =>
  bif x0.1 then some (true,()) else some (false,())
abbrev zum:Fun:=⟨229,(ch [zi]),(ch [.bool]),0,qT⟩
theorem zFY:Sq zum:=ms0 (d:=false) (K:=0) Tryz.func229 (by kernel_rfl) (funext fun (x0,())=>by kernel_rfl)
def zn7:(zh × (qS × Unit))→Option (zh × Unit):=fun (x0,x1,()) =>
  some ((x0.1,x0.2.1,x1.1,x1.2.1,x1.2.2.1,x0.2.2.2.2.2),())
abbrev zBJ:Fun:=⟨157,(ch [zi,qm]),(ch [zi]),0,zn7⟩
theorem zNp:Sq zBJ:=ms0 (d:=false) (K:=0) Tryz.func157 (by kernel_rfl) (funext fun (x0,x1,())=>by kernel_rfl)
def zcy:((Option zcr) × Unit)→Option (Bool × Unit):=fun (x0,()) =>
  bif Option.isSome x0 then Option.bind x0 fun q0=>bif Option.isSome q0.2.1 then some (true,()) else some (false,()) else some (false,())
abbrev zqq:Fun:=⟨232,(ch [(.ptr yn)]),(ch [.bool]),0,zcy⟩
theorem zBK:Sq zqq:=ms0 (d:=false) (K:=0) Tryz.func232 (by kernel_rfl) (funext fun (x0,())=>by kernel_rfl)
def zmX:(zh × ((Option (Option zcr)) × Unit))→Option (Bool × Unit):=fun (x0,x1,()) =>
  Option.bind x1 fun q0=>Option.bind q0 fun q1=>Option.bind q1.2.1 fun q2=>Option.bind (q2 (x0,())) fun q3=>bif q3.1 then some (false,()) else some (true,())
abbrev zmY:Fun:=⟨295,(ch [zi,(.ptr (.ptr yn))]),(ch [.bool]),0,zmX⟩
theorem zwz:Sq zmY:=ms0 (d:=false) (K:=0) Tryz.func295 (by kernel_rfl) (funext fun (x0,x1,())=>by kernel_rfl)
def j4:(Int × Unit)→Option (qS × Unit):=fun (x0,()) =>
  some ((1,x0,(0,0,()),()),())
abbrev zsi:Fun:=⟨90,(ch [tI]),(ch [qm]),0,j4⟩
theorem zDI:Sq zsi:=ms0 (d:=false) (K:=0) Tryz.func90 (by kernel_rfl) (funext fun (x0,())=>by kernel_rfl)
def yo:(zb × (pMe × Unit))→Option (zE × Unit):=fun (x0,x1,()) =>
  inR x1.2.1 ((List.length x0.2.1):Int) (inR x1.2.2.1 ((List.length (ix ze x0.2.1 x1.2.1).2.2.2.2.2.2.1):Int) (some (List.getD (ix ze x0.2.1 x1.2.1).2.2.2.2.2.2.1 (Int.toNat x1.2.2.1) (zd zv),())))
abbrev zun:Fun:=⟨54,(ch [zo,tMe]),(ch [zv]),0,yo⟩
theorem zFZ:Sq zun:=ms0 (d:=false) (K:=0) Tryz.func54 (by kernel_rfl) (funext fun (x0,x1,())=>by kernel_rfl)
def zer:(zE × Unit)→Option (qS × Unit):=fun (x0,()) =>
  some ((2,0,x0,()),())
abbrev zsj:Fun:=⟨92,(ch [zv]),(ch [qm]),0,zer⟩
theorem zDJ:Sq zsj:=ms0 (d:=false) (K:=0) Tryz.func92 (by kernel_rfl) (funext fun (x0,())=>by kernel_rfl)
def ziT:(zC × Unit)→Option (Bool × Unit):=fun (x0,()) =>
  bif x0.1 == 0 then some (true,()) else bif x0.1 == 1 then some (true,()) else bif x0.1 == 2 then some (true,()) else bif x0.1 == 3 then some (true,()) else some (false,())
abbrev zuo:Fun:=⟨296,(ch [zt]),(ch [.bool]),0,ziT⟩
theorem zF0:Sq zuo:=ms0 (d:=false) (K:=0) Tryz.func296 (by kernel_rfl) (funext fun (x0,())=>by kernel_rfl)
def zmr:(zC × (zC × Unit))→Option (Int × Unit):=fun (x0,x1,()) =>
  bif decide (x0.1 < x1.1) then some ((-1),()) else bif x0.1 == x1.1 then bif decide (x0.2.1 < x1.2.1) then some ((-1),()) else bif eqI zt x0 x1 then some (0,()) else some (1,()) else bif eqI zt x0 x1 then some (0,()) else some (1,())
abbrev zyI:Fun:=⟨297,(ch [zt,zt]),(ch [tI]),0,zmr⟩
theorem zK4:Sq zyI:=ms0 (d:=false) (K:=0) Tryz.func297 (by kernel_rfl) (funext fun (x0,x1,())=>by kernel_rfl)
abbrev zcz:Type:=ByteArray × Int
abbrev zBL:zcz→St:=fun (v0,v3)=>St.mk [(0,.dat .str v0),(3,.dat tI v3)] []
def zgA (k0:zcz→Option (Bool × Unit)):zcz→Option (Bool × Unit):=fun (v0,v3) =>
  bif decide (v3 < (↑(ByteArray.size v0):Int)) then inR v3 (↑(ByteArray.size v0):Int) (bif decide ((↑(UInt8.toNat (List.getD (Array.toList (ByteArray.data v0)) (Int.toNat v3) 0)):Int) ≥ 97) then inR v3 (↑(ByteArray.size v0):Int) (bif decide ((↑(UInt8.toNat (List.getD (Array.toList (ByteArray.data v0)) (Int.toNat v3) 0)):Int) ≤ 122) then k0 (v0,wI (v3 + 1)) else bif v3 == 0 then some (false,()) else inR v3 (↑(ByteArray.size v0):Int) (bif decide ((↑(UInt8.toNat (List.getD (Array.toList (ByteArray.data v0)) (Int.toNat v3) 0)):Int) < 48) then some (false,()) else inR v3 (↑(ByteArray.size v0):Int) (bif decide ((↑(UInt8.toNat (List.getD (Array.toList (ByteArray.data v0)) (Int.toNat v3) 0)):Int) > 57) then some (false,()) else k0 (v0,wI (v3 + 1))))) else bif v3 == 0 then some (false,()) else inR v3 (↑(ByteArray.size v0):Int) (bif decide ((↑(UInt8.toNat (List.getD (Array.toList (ByteArray.data v0)) (Int.toNat v3) 0)):Int) < 48) then some (false,()) else inR v3 (↑(ByteArray.size v0):Int) (bif decide ((↑(UInt8.toNat (List.getD (Array.toList (ByteArray.data v0)) (Int.toNat v3) 0)):Int) > 57) then some (false,()) else k0 (v0,wI (v3 + 1))))) else some (true,())
abbrev zkr (K:Nat):zcz→Option (Bool × Unit):=zg zgA K
theorem zBM (K:Nat):∀ n,evV Es0 K Tryz.f86 0 (ch [.bool]) [1,1,0,1,0] [] zBL n = zg zgA n:=zq fun n0 (v0,v3)=>by kernel_rfl
def ziU (L0:zcz→Option (Bool × Unit)):(ByteArray × Unit)→Option (Bool × Unit):=fun (x0,()) =>
  bif (↑(ByteArray.size x0):Int) == 0 then some (false,()) else bif decide ((↑(ByteArray.size x0):Int) > 12) then some (false,()) else L0 (x0,0)
def zH:(ByteArray × Unit)→Option (Bool × Unit):=ziU (zkr K0)
abbrev zup:Fun:=⟨86,(ch [.str]),(ch [.bool]),0,zH⟩
theorem zF1:Sq zup:=ml0 (d:=false) (S:=fun K=>ziU (zkr K)) Tryz.func86 (by kernel_rfl) (fun K=>tr1 (T:=ziU) (zBM K K) fun (x0,())=>by kernel_rfl) rfl
def zg2:(Int × Unit)→Option (zC × Unit):=fun (x0,()) =>
  bif decide (wU x0 < 0) then none else some ((0,wU (1 * 2 ^ min (Int.toNat (wU x0)) (IntKind.bits IntKind.u64)),()),())
abbrev zwA:Fun:=⟨299,(ch [tI]),(ch [zt]),0,zg2⟩
theorem zIG:Sq zwA:=ms0 (d:=false) (K:=0) Tryz.func299 (by kernel_rfl) (funext fun (x0,())=>by kernel_rfl)
abbrev zcA:Type:=(List zC) × Int × zC
abbrev zBN:zcA→St:=fun (v0,v5,o0)=>St.mk [(0,.dat (.sl zt) v0),(3,.bp 0 []),(5,.dat tI v5)] [.bx (.dat zt o0) false]
def zcC (k0:zcA→Option (Int × Unit)):zcA→Option (Int × Unit):=fun (v0,v5,o0) =>
  bif decide (v5 < ((List.length v0):Int)) then inR v5 ((List.length v0):Int) (bif eqI zt (ix jh v0 v5) o0 then some (v5,()) else k0 (v0,wI (v5 + 1),o0)) else some ((-1),())
abbrev zqr (K:Nat):zcA→Option (Int × Unit):=zg zcC K
theorem zBO (K:Nat):∀ n,evV Es0 K Tryz.f298 0 (ch [tI]) [1,0,1,0] [] zBN n = zg zcC n:=zq fun n0 (v0,v5,o0)=>by kernel_rfl
def zng (L0:zcA→Option (Int × Unit)):((List zC) × (zC × Unit))→Option (Int × Unit):=fun (x0,x1,()) =>
  L0 (x0,0,x1)
def ziV:((List zC) × zC × Unit)→Option (Int × Unit):=zng (zqr K0)
abbrev zuq:Fun:=⟨298,(ch [(.sl zt),zt]),(ch [tI]),0,ziV⟩
theorem zF2:Sq zuq:=ml0 (d:=false) (S:=fun K=>zng (zqr K)) Tryz.func298 (by kernel_rfl) (fun K=>tr1 (T:=zng) (zBO K K) fun (x0,x1,())=>by kernel_rfl) rfl
def zgh:(zC × (Int × Unit))→Option (Bool × Unit):=fun (x0,x1,()) =>
  bif decide (wU x1 < 0) then none else bif Int.tmod (Int.fdiv x0.2.1 (2 ^ min (Int.toNat (wU x1)) (IntKind.bits IntKind.u64))) 2 == 1 then some (true,()) else some (false,())
abbrev zyJ:Fun:=⟨169,(ch [zt,tI]),(ch [.bool]),0,zgh⟩
theorem zK5:Sq zyJ:=ms0 (d:=false) (K:=0) Tryz.func169 (by kernel_rfl) (funext fun (x0,x1,())=>by kernel_rfl)
abbrev zfX:Type:=(List zE) × Int × Int
abbrev zF3:zfX→St:=fun (v0,v1,v5)=>St.mk [(0,.dat (.sl jq) v0),(1,.dat tI v1),(5,.dat tI v5)] []
def zfY (k0:zfX→Option (Bool × Unit)):zfX→Option (Bool × Unit):=fun (v0,v1,v5) =>
  bif decide (v5 < ((List.length v0):Int)) then inR v5 ((List.length v0):Int) (bif (ix qB v0 v5).1 == v1 then some (true,()) else k0 (v0,v1,wI (v5 + 1))) else some (false,())
abbrev zur (K:Nat):zfX→Option (Bool × Unit):=zg zfY K
theorem zF4 (K:Nat):∀ n,evV Es0 K Tryz.f300 0 (ch [.bool]) [1,0,1,0] [] zF3 n = zg zfY n:=zq fun n0 (v0,v1,v5)=>by kernel_rfl
def zry (L0:zfX→Option (Bool × Unit)):((List zE) × (Int × Unit))→Option (Bool × Unit):=fun (x0,x1,()) =>
  L0 (x0,x1,0)
def zrz:((List zE) × Int × Unit)→Option (Bool × Unit):=zry (zur K0)
abbrev zyK:Fun:=⟨300,(ch [(.sl jq),tI]),(ch [.bool]),0,zrz⟩
theorem zK6:Sq zyK:=ml0 (d:=false) (S:=fun K=>zry (zur K)) Tryz.func300 (by kernel_rfl) (fun K=>tr1 (T:=zry) (zF4 K K) fun (x0,x1,())=>by kernel_rfl) rfl
def yp:(Int × Unit)→Option (Bool × Unit):=fun (x0,()) =>
  bif decide (x0 ≥ 0) then bif decide (x0 ≤ 12) then some (true,()) else some (false,()) else some (false,())
abbrev zus:Fun:=⟨301,(ch [tI]),(ch [.bool]),0,yp⟩
theorem zF5:Sq zus:=ms0 (d:=false) (K:=0) Tryz.func301 (by kernel_rfl) (funext fun (x0,())=>by kernel_rfl)
abbrev zcD:Type:=Int × zf × zb
abbrev zBP:zcD→St:=fun (v5,o0,o1)=>St.mk [(2,.bp 0 []),(3,.bp 1 []),(5,.dat tI v5)] [.bx (.dat zw o0) false,.bx (.dat zo o1) false]
def zgB (k0:zcD→Option (Bool × Unit)):zcD→Option (Bool × Unit):=fun (v5,o0,o1) =>
  bif decide (v5 < ((List.length o1.2.1):Int)) then inR v5 ((List.length o1.2.1):Int) (inR v5 ((List.length o0.2.2.2.2.1):Int) (bif ((List.length (ix ze o1.2.1 v5).1):Int) != (ix qt o0.2.2.2.2.1 v5).1 then some (false,()) else bif ((List.length (ix ze o1.2.1 v5).2.1):Int) != (ix qt o0.2.2.2.2.1 v5).2.1 then some (false,()) else bif ((List.length (ix ze o1.2.1 v5).2.2.1):Int) != (ix qt o0.2.2.2.2.1 v5).2.2.1 then some (false,()) else bif ((List.length (ix ze o1.2.1 v5).2.2.2.1):Int) != (ix qt o0.2.2.2.2.1 v5).2.2.2.1 then some (false,()) else bif ((List.length (ix ze o1.2.1 v5).2.2.2.2.1):Int) != (ix qt o0.2.2.2.2.1 v5).2.2.2.2.1 then some (false,()) else bif ((List.length (ix ze o1.2.1 v5).2.2.2.2.2.1):Int) != ((List.length o0.2.2.1):Int) then some (false,()) else bif ((List.length (ix ze o1.2.1 v5).2.2.2.2.2.2.1):Int) != ((List.length o0.2.2.1):Int) then some (false,()) else k0 (wI (v5 + 1),o0,o1))) else some (true,())
abbrev zks (K:Nat):zcD→Option (Bool × Unit):=zg zgB K
theorem zBQ (K:Nat):∀ n,evV Es0 K Tryz.f161 0 (ch [.bool]) [1,1,0,1,0] [] zBP n = zg zgB n:=zq fun n0 (v5,o0,o1)=>by kernel_rfl
def ziW (L0:zcD→Option (Bool × Unit)):(zf × (zb × Unit))→Option (Bool × Unit):=fun (x0,x1,()) =>
  bif ((List.length x1.2.1):Int) != ((List.length x0.1):Int) then some (false,()) else bif ((List.length x1.2.2.2.1):Int) != x0.2.2.2.2.2.1 then some (false,()) else bif decide (((List.length x1.2.2.2.2.1):Int) > x0.2.2.2.2.2.2.1) then some (false,()) else bif ((List.length x1.2.2.2.2.2.1):Int) != ((List.length x0.2.1):Int) then some (false,()) else bif decide (x1.1 > 4611686018427387904) then some (false,()) else L0 (0,x0,x1)
def ziX:(zf × zb × Unit)→Option (Bool × Unit):=ziW (zks K0)
abbrev zut:Fun:=⟨161,(ch [zw,zo]),(ch [.bool]),0,ziX⟩
theorem zF6:Sq zut:=ml0 (d:=false) (S:=fun K=>ziW (zks K)) Tryz.func161 (by kernel_rfl) (fun K=>tr1 (T:=ziW) (zBQ K K) fun (x0,x1,())=>by kernel_rfl) rfl
def ziY:(Int × (Int × Unit))→Option (Int × (Int × Unit)):=fun (x0,x1,()) =>
  bif x0 != 0 then bif x0 == 0 then none else bif decide (x1 > wU (Int.tdiv 4611686018427387904 x0)) then some (0,7,()) else some (wU (x0 * x1),0,()) else some (wU (x0 * x1),0,())
abbrev zuu:Fun:=⟨342,(ch [tU,tU]),(ch [tU,tI]),0,ziY⟩
theorem zF7:Sq zuu:=ms0 (d:=false) (K:=0) Tryz.func342 (by kernel_rfl) (funext fun (x0,x1,())=>by kernel_rfl)
def ziw:(Int × Unit)→Option (Bool × Unit):=fun (x0,()) =>
  bif decide (x0 ≥ 0) then bif decide (x0 < 128) then some (true,()) else some (false,()) else some (false,())
abbrev zyL:Fun:=⟨325,(ch [tI]),(ch [.bool]),0,ziw⟩
theorem zK7:Sq zyL:=ms0 (d:=false) (K:=0) Tryz.func325 (by kernel_rfl) (funext fun (x0,())=>by kernel_rfl)
abbrev zfZ:Type:=(List zu) × Int × Int × Int
abbrev zF8:zfZ→St:=fun (v0,v1,v2,v7)=>St.mk [(0,.dat (.sl zr) v0),(1,.dat tI v1),(2,.dat tI v2),(7,.dat tI v7)] []
def zf0 (k0:zfZ→Option (Bool × Unit)):zfZ→Option (Bool × Unit):=fun (v0,v1,v2,v7) =>
  bif decide (v7 < v1) then inR v7 ((List.length v0):Int) (bif (ix zK v0 v7).1 then inR v7 ((List.length v0):Int) (bif (ix zK v0 v7).2.2.2.2.2.2.2.2.2.1 == v2 then some (true,()) else k0 (v0,v1,v2,wI (v7 + 1))) else k0 (v0,v1,v2,wI (v7 + 1))) else some (false,())
abbrev zuv (K:Nat):zfZ→Option (Bool × Unit):=zg zf0 K
theorem zF9 (K:Nat):∀ n,evV Es0 K Tryz.f303 0 (ch [.bool]) [1,0,1,0] [] zF8 n = zg zf0 n:=zq fun n0 (v0,v1,v2,v7)=>by kernel_rfl
def zrA (L0:zfZ→Option (Bool × Unit)):((List zu) × (Int × (Int × Unit)))→Option (Bool × Unit):=fun (x0,x1,x2,()) =>
  L0 (x0,x1,x2,0)
def zms:((List zu) × Int × Int × Unit)→Option (Bool × Unit):=zrA (zuv K0)
abbrev zyM:Fun:=⟨303,(ch [(.sl zr),tI,tI]),(ch [.bool]),0,zms⟩
theorem zK8:Sq zyM:=ml0 (d:=false) (S:=fun K=>zrA (zuv K)) Tryz.func303 (by kernel_rfl) (fun K=>tr1 (T:=zrA) (zF9 K K) fun (x0,x1,x2,())=>by kernel_rfl) rfl
def zdT:(Int × Unit)→Option (Bool × Unit):=fun (x0,()) =>
  bif decide (x0 ≥ 0) then bif decide (x0 < 128) then some (true,()) else some (false,()) else some (false,())
abbrev zyN:Fun:=⟨326,(ch [tI]),(ch [.bool]),0,zdT⟩
theorem zK9:Sq zyN:=ms0 (d:=false) (K:=0) Tryz.func326 (by kernel_rfl) (funext fun (x0,())=>by kernel_rfl)
def zhx:(zJ × (zJ × Unit))→Option (Bool × Unit):=fun (x0,x1,()) =>
  bif decide (x0.1 > x1.1) then some (true,()) else bif x0.1 == x1.1 then bif decide (x0.2.1 > x1.2.1) then some (true,()) else some (false,()) else some (false,())
abbrev zsk:Fun:=⟨305,(ch [zA,zA]),(ch [.bool]),0,zhx⟩
theorem zDK:Sq zsk:=ms0 (d:=false) (K:=0) Tryz.func305 (by kernel_rfl) (funext fun (x0,x1,())=>by kernel_rfl)
def zf1:(zb × (zE × Unit))→Option (Bool × Unit):=fun (x0,x1,()) =>
  bif decide (x1.1 < 0) then some (false,()) else bif decide (x1.1 ≥ ((List.length x0.2.1):Int)) then some (false,()) else bif decide (x1.2.1 < 0) then some (false,()) else inR x1.1 ((List.length x0.2.1):Int) (bif decide (x1.2.1 ≥ ((List.length (ix ze x0.2.1 x1.1).1):Int)) then some (false,()) else inR x1.1 ((List.length x0.2.1):Int) (inR x1.2.1 ((List.length (ix ze x0.2.1 x1.1).1):Int) (bif (List.getD (ix ze x0.2.1 x1.1).1 (Int.toNat x1.2.1) (zd qk)).1 then some (true,()) else some (false,()))))
abbrev zuw:Fun:=⟨240,(ch [zo,zv]),(ch [.bool]),0,zf1⟩
theorem zGa:Sq zuw:=ms0 (d:=false) (K:=0) Tryz.func240 (by kernel_rfl) (funext fun (x0,x1,())=>by kernel_rfl)
def jY:(zf × (Int × Unit))→Option (Bool × Unit):=fun (x0,x1,()) =>
  bif decide (x1 ≥ 0) then bif decide (x1 < ((List.length x0.2.2.1):Int)) then some (true,()) else some (false,()) else some (false,())
abbrev zyO:Fun:=⟨166,(ch [zw,tI]),(ch [.bool]),0,jY⟩
theorem zLa:Sq zyO:=ms0 (d:=false) (K:=0) Tryz.func166 (by kernel_rfl) (funext fun (x0,x1,())=>by kernel_rfl)
def qx:(zE × Unit)→Option (Bool × Unit):=fun (x0,()) =>
  bif decide (x0.1 ≥ 0) then bif decide (x0.1 < 128) then bif decide (x0.2.1 ≥ 0) then bif decide (x0.2.1 < 128) then some (true,()) else some (false,()) else some (false,()) else some (false,()) else some (false,())
abbrev zux:Fun:=⟨88,(ch [zv]),(ch [.bool]),0,qx⟩
theorem zGb:Sq zux:=ms0 (d:=false) (K:=0) Tryz.func88 (by kernel_rfl) (funext fun (x0,())=>by kernel_rfl)
def vo:(Int × Unit)→Option (Bool × Unit):=fun (x0,()) =>
  bif decide (x0 ≥ 0) then bif decide (x0 < 128) then some (true,()) else some (false,()) else some (false,())
abbrev zyP:Fun:=⟨85,(ch [tI]),(ch [.bool]),0,vo⟩
theorem zLb:Sq zyP:=ms0 (d:=false) (K:=0) Tryz.func85 (by kernel_rfl) (funext fun (x0,())=>by kernel_rfl)
def zgi:(Int × Unit)→Option (Bool × Unit):=fun (x0,()) =>
  bif decide (x0 ≥ 0) then bif decide (x0 < 128) then some (true,()) else some (false,()) else some (false,())
abbrev zyQ:Fun:=⟨306,(ch [tI]),(ch [.bool]),0,zgi⟩
theorem zLc:Sq zyQ:=ms0 (d:=false) (K:=0) Tryz.func306 (by kernel_rfl) (funext fun (x0,())=>by kernel_rfl)
def zmt:(Int × Unit)→Option (Bool × Unit):=fun (x0,()) =>
  bif decide (x0 ≥ 32) then bif decide (x0 ≤ 126) then some (true,()) else some (false,()) else some (false,())
abbrev zyR:Fun:=⟨327,(ch [(.int .u8)]),(ch [.bool]),0,zmt⟩
theorem zLd:Sq zyR:=ms0 (d:=false) (K:=0) Tryz.func327 (by kernel_rfl) (funext fun (x0,())=>by kernel_rfl)
def jw:(Int × Unit)→Option (Bool × Unit):=fun (x0,()) =>
  bif decide (x0 ≥ 0) then bif decide (x0 < 128) then some (true,()) else some (false,()) else some (false,())
abbrev zyS:Fun:=⟨328,(ch [tI]),(ch [.bool]),0,jw⟩
theorem zLe:Sq zyS:=ms0 (d:=false) (K:=0) Tryz.func328 (by kernel_rfl) (funext fun (x0,())=>by kernel_rfl)
def jx:(zj7 × Unit)→Option (Bool × Unit):=fun (x0,()) =>
  bif decide (x0.1 ≥ 0) then bif decide (x0.1 < 4) then bif decide (x0.2.1 ≤ 4611686018427387904) then bif decide (x0.2.2.1 ≥ -1) then bif decide (x0.2.2.1 < 128) then some (true,()) else some (false,()) else some (false,()) else some (false,()) else some (false,()) else some (false,())
abbrev zyT:Fun:=⟨329,(ch [zd3]),(ch [.bool]),0,jx⟩
theorem zLf:Sq zyT:=ms0 (d:=false) (K:=0) Tryz.func329 (by kernel_rfl) (funext fun (x0,())=>by kernel_rfl)
def ziZ:(zu × (Int × Unit))→Option (Int × Unit):=fun (x0,x1,()) =>
  bif x0.1 then bif x0.2.2.2.1 == 2 then bif x0.2.2.2.2.1 == x1 then some (x0.2.2.2.2.2.2.2.2.1,()) else bif x0.2.2.2.1 != 2 then bif x0.2.2.2.2.2.1 == x1 then some (x0.2.2.2.2.2.2.2.2.1,()) else some (0,()) else some (0,()) else bif x0.2.2.2.1 != 2 then bif x0.2.2.2.2.2.1 == x1 then some (x0.2.2.2.2.2.2.2.2.1,()) else some (0,()) else some (0,()) else some (0,())
abbrev zuy:Fun:=⟨309,(ch [zr,tI]),(ch [tU]),0,ziZ⟩
theorem zGc:Sq zuy:=ms0 (d:=false) (K:=0) Tryz.func309 (by kernel_rfl) (funext fun (x0,x1,())=>by kernel_rfl)
def vZ:(Int × (Int × Unit))→Option (Int × (Int × Unit)):=fun (x0,x1,()) =>
  bif decide (x0 > 4611686018427387904) then some (0,7,()) else bif decide (x1 > wU (4611686018427387904 - x0)) then some (0,7,()) else some (wU (x0 + x1),0,())
abbrev zwB:Fun:=⟨250,(ch [tU,tU]),(ch [tU,tI]),0,vZ⟩
theorem zIH:Sq zwB:=ms0 (d:=false) (K:=0) Tryz.func250 (by kernel_rfl) (funext fun (x0,x1,())=>by kernel_rfl)
def zf2:(Int × (Int × Unit))→Option (Int × (Int × Unit)):=fun (x0,x1,()) =>
  bif decide (x1 > x0) then some (0,6,()) else some (wU (x0 - x1),0,())
abbrev zuz:Fun:=⟨251,(ch [tU,tU]),(ch [tU,tI]),0,zf2⟩
theorem zGd:Sq zuz:=ms0 (d:=false) (K:=0) Tryz.func251 (by kernel_rfl) (funext fun (x0,x1,())=>by kernel_rfl)
def za5:((List zh) × (Int × (zh × Unit)))→Option ((List zh) × Unit):=fun (x0,x1,x2,()) =>
  bif decide ((0:Nat) + List.length x0 ≤ lim) then inR x1 ((List.length ([] ++ x0)):Int) (some (List.set ([] ++ x0) (Int.toNat x1) x2,())) else none
abbrev zyU:Fun:=⟨87,(ch [(.sl zi),tI,zi]),(ch [(.sl zi)]),0,za5⟩
theorem zLg:Sq zyU:=ms0 (d:=false) (K:=0) Tryz.func87 (by kernel_rfl) (funext fun (x0,x1,x2,())=>by kernel_rfl)
def vI:((List zh) × (Int × (Int × Unit)))→Option (Bool × Unit):=fun (x0,x1,x2,()) =>
  bif decide (x1 ≥ 0) then bif decide (x1 < ((List.length x0):Int)) then inR x1 ((List.length x0):Int) (bif (ix zj x0 x1).1 then inR x1 ((List.length x0):Int) (bif (ix zj x0 x1).2.2.1 == 1 then inR x1 ((List.length x0):Int) (bif (ix zj x0 x1).2.2.2.1 == x2 then some (true,()) else some (false,())) else some (false,())) else some (false,())) else some (false,()) else some (false,())
abbrev zsl:Fun:=⟨46,(ch [(.sl zi),tI,tI]),(ch [.bool]),0,vI⟩
theorem zDL:Sq zsl:=ms0 (d:=false) (K:=0) Tryz.func46 (by kernel_rfl) (funext fun (x0,x1,x2,())=>by kernel_rfl)
def zes:(zb × (pMe × Unit))→Option (zE × Unit):=fun (x0,x1,()) =>
  inR x1.2.1 ((List.length x0.2.1):Int) (inR x1.2.2.1 ((List.length (ix ze x0.2.1 x1.2.1).2.2.2.2.2.2.1):Int) (some (List.getD (ix ze x0.2.1 x1.2.1).2.2.2.2.2.2.1 (Int.toNat x1.2.2.1) (zd zv),())))
abbrev zwC:Fun:=⟨44,(ch [zo,tMe]),(ch [zv]),0,zes⟩
theorem zII:Sq zwC:=ms0 (d:=false) (K:=0) Tryz.func44 (by kernel_rfl) (funext fun (x0,x1,())=>by kernel_rfl)
def ya:(zb × (Int × (zp × Unit)))→Option (zb × Unit):=fun (x0,x1,x2,()) =>
  bif decide ((0:Nat) + List.length x0.2.1 ≤ lim) then inR x1 ((List.length ([] ++ x0.2.1)):Int) (some ((u1 x0 (List.set ([] ++ x0.2.1) (Int.toNat x1) x2)),())) else none
abbrev zwD:Fun:=⟨48,(ch [zo,tI,zy]),(ch [zo]),0,ya⟩
theorem zIJ:Sq zwD:=ms0 (d:=false) (K:=0) Tryz.func48 (by kernel_rfl) (funext fun (x0,x1,x2,())=>by kernel_rfl)
def zuA:Unit→Option (zf × Unit):=fun () =>
  some (([(0,0,()),(0,1,()),(1,1,())],[0,1,2],[(ByteArray.mk #[97,110,110],ByteArray.mk #[97],1,true,()),(ByteArray.mk #[98,111,98],ByteArray.mk #[98],0,false,())],[(0,0,())],[(2,2,2,2,2,1000,()),(2,2,2,2,2,1000,()),(2,2,2,2,2,1000,())],4,6,2,3,()),())
abbrev zuB:Fun:=⟨56,.unit,(ch [zw]),0,zuA⟩
theorem zGe:Sq zuB:=ms0 (d:=false) (K:=0) Tryz.func56 (by kernel_rfl) (funext fun ()=>by kernel_rfl)
def zuC:(zf × (zbn × Unit))→Option (zp × Unit):=fun (x0,x1,()) =>
  bif decide (0 ≤ x1.1) then bif decide (x1.1 ≤ x1.1) then bif decide (x1.1 ≤ (↑lim:Int)) then bif decide (0 ≤ x1.2.1) then bif decide (x1.2.1 ≤ x1.2.1) then bif decide (x1.2.1 ≤ (↑lim:Int)) then bif decide (0 ≤ x1.2.2.1) then bif decide (x1.2.2.1 ≤ x1.2.2.1) then bif decide (x1.2.2.1 ≤ (↑lim:Int)) then bif decide (0 ≤ x1.2.2.2.1) then bif decide (x1.2.2.2.1 ≤ x1.2.2.2.1) then bif decide (x1.2.2.2.1 ≤ (↑lim:Int)) then bif decide (0 ≤ x1.2.2.2.2.1) then bif decide (x1.2.2.2.2.1 ≤ x1.2.2.2.2.1) then bif decide (x1.2.2.2.2.1 ≤ (↑lim:Int)) then bif decide (((List.length x0.2.2.1):Int) ≤ ((List.length x0.2.2.1):Int)) then bif decide (((List.length x0.2.2.1):Int) ≤ (↑lim:Int)) then bif decide (((List.length x0.2.2.1):Int) ≤ ((List.length x0.2.2.1):Int)) then bif decide (((List.length x0.2.2.1):Int) ≤ (↑lim:Int)) then some ((List.replicate (Int.toNat x1.1) (zd qk),List.replicate (Int.toNat x1.2.1) (zd zU),List.replicate (Int.toNat x1.2.2.1) (zd zi),List.replicate (Int.toNat x1.2.2.2.1) (zd zY),List.replicate (Int.toNat x1.2.2.2.2.1) (zd zz),List.replicate (Int.toNat ((List.length x0.2.2.1):Int)) (zd (.arr 4 tU)),List.replicate (Int.toNat ((List.length x0.2.2.1):Int)) (zd zv),[0,0,0,0],[0,0,0,0],()),()) else none else none else none else none else none else none else none else none else none else none else none else none else none else none else none else none else none else none else none
abbrev zuD:Fun:=⟨96,(ch [zw,zcp]),(ch [zy]),3,zuC⟩
theorem zGf:Sq zuD:=ms0 (d:=true) (K:=0) Tryz.func96 (by kernel_rfl) (funext fun (x0,x1,())=>by kernel_rfl)
abbrev zet:Type:=(List (List Int)) × (List (List Int)) × Int × Int
abbrev zsm:zet→St:=fun (v0,v1,v5,v6)=>St.mk [(0,.dat (.sl (.sl tI)) v0),(1,.dat (.sl (.sl tI)) v1),(5,.dat tI v5),(6,.dat tI v6)] []
abbrev yS:Type:=(List (List Int)) × (List (List Int)) × Int
abbrev zsn:yS→St:=fun (v0,v1,v5)=>St.mk [(0,.dat (.sl (.sl tI)) v0),(1,.dat (.sl (.sl tI)) v1),(5,.dat tI v5)] []
def zeu (k0:yS→Option (Bool × Unit)) (k1:zet→Option (Bool × Unit)):zet→Option (Bool × Unit):=fun (v0,v1,v5,v6) =>
  inR v5 ((List.length v0):Int) (bif decide (v6 < ((List.length (List.getD v0 (Int.toNat v5) ([]:List Int))):Int)) then inR v5 ((List.length v0):Int) (inR v6 ((List.length (List.getD v0 (Int.toNat v5) ([]:List Int))):Int) (inR v5 ((List.length v1):Int) (inR v6 ((List.length (List.getD v1 (Int.toNat v5) ([]:List Int))):Int) (bif List.getD (List.getD v0 (Int.toNat v5) ([]:List Int)) (Int.toNat v6) (0:Int) != List.getD (List.getD v1 (Int.toNat v5) ([]:List Int)) (Int.toNat v6) (0:Int) then some (false,()) else k1 (v0,v1,v5,wI (v6 + 1)))))) else k0 (v0,v1,wI (v5 + 1)))
abbrev zhy (K:Nat) (k0:yS→Option (Bool × Unit)):zet→Option (Bool × Unit):=zg (fun k1=>zeu k0 k1) K
theorem zDM (K:Nat) (n0:Nat):∀ n,evV Es0 K Tryz.f58 0 (ch [.bool]) [1,1,0,1,0,0,1,0,0,1,1,0] [n0] zsm n = zg (fun k1=>zeu (evV Es0 K Tryz.f58 0 (ch [.bool]) [1,1,0,1,0] [] zsn n0) k1) n:=zq fun n1 (v0,v1,v5,v6)=>by kernel_rfl
def za9 (L1:zet→Option (Bool × Unit)) (k0:yS→Option (Bool × Unit)):yS→Option (Bool × Unit):=fun (v0,v1,v5) =>
  bif decide (v5 < ((List.length v0):Int)) then inR v5 ((List.length v0):Int) (inR v5 ((List.length v1):Int) (bif ((List.length (List.getD v0 (Int.toNat v5) ([]:List Int))):Int) != ((List.length (List.getD v1 (Int.toNat v5) ([]:List Int))):Int) then some (false,()) else L1 (v0,v1,v5,0))) else some (true,())
abbrev zso (K:Nat):yS→Option (Bool × Unit):=zg (fun k0=>za9 (zhy K k0) k0) K
theorem zDN (K:Nat):∀ n,evV Es0 K Tryz.f58 0 (ch [.bool]) [1,1,0,1,0] [] zsn n = zg (fun k0=>za9 (zhy K k0) k0) n:=qu (B:=fun L1 k0=>za9 L1 k0) (V1:=fun n0=>evV Es0 K Tryz.f58 0 (ch [.bool]) [1,1,0,1,0,0,1,0,0,1,1,0] [n0] zsm K) (W1:=fun k0=>(zhy K k0)) (fun n0=>zDM K n0 K) fun n0 (v0,v1,v5)=>by kernel_rfl
def zoM (L0:yS→Option (Bool × Unit)):((List (List Int)) × ((List (List Int)) × Unit))→Option (Bool × Unit):=fun (x0,x1,()) =>
  bif ((List.length x0):Int) != ((List.length x1):Int) then some (false,()) else L0 (x0,x1,0)
def zoN:((List (List Int)) × (List (List Int)) × Unit)→Option (Bool × Unit):=zoM (zso K0)
abbrev zwE:Fun:=⟨58,(ch [(.sl (.sl tI)),(.sl (.sl tI))]),(ch [.bool]),0,zoN⟩
theorem zIK:Sq zwE:=ml0 (d:=false) (S:=fun K=>zoM (zso K)) Tryz.func58 (by kernel_rfl) (fun K=>tr1 (T:=zoM) (zDN K K) fun (x0,x1,())=>by kernel_rfl) rfl
abbrev zev:Type:=(List zu) × (List zu) × Int
abbrev zDO:zev→St:=fun (v0,v1,v5)=>St.mk [(0,.dat (.sl zr) v0),(1,.dat (.sl zr) v1),(5,.dat tI v5)] []
def zew (k0:zev→Option (Bool × Unit)):zev→Option (Bool × Unit):=fun (v0,v1,v5) =>
  bif decide (v5 < ((List.length v0):Int)) then inR v5 ((List.length v0):Int) (inR v5 ((List.length v1):Int) (bif !eqI zr (ix zK v0 v5) (ix zK v1 v5) then some (false,()) else k0 (v0,v1,wI (v5 + 1)))) else some (true,())
abbrev zsp (K:Nat):zev→Option (Bool × Unit):=zg zew K
theorem zDP (K:Nat):∀ n,evV Es0 K Tryz.f59 0 (ch [.bool]) [1,1,0,1,0] [] zDO n = zg zew n:=zq fun n0 (v0,v1,v5)=>by kernel_rfl
def zoO (L0:zev→Option (Bool × Unit)):((List zu) × ((List zu) × Unit))→Option (Bool × Unit):=fun (x0,x1,()) =>
  bif ((List.length x0):Int) != ((List.length x1):Int) then some (false,()) else L0 (x0,x1,0)
def zoP:((List zu) × (List zu) × Unit)→Option (Bool × Unit):=zoO (zsp K0)
abbrev zwF:Fun:=⟨59,(ch [(.sl zr),(.sl zr)]),(ch [.bool]),0,zoP⟩
theorem zIL:Sq zwF:=ml0 (d:=false) (S:=fun K=>zoO (zsp K)) Tryz.func59 (by kernel_rfl) (fun K=>tr1 (T:=zoO) (zDP K K) fun (x0,x1,())=>by kernel_rfl) rfl
abbrev zex:Type:=(List zJ) × (List zJ) × Int
abbrev zDQ:zex→St:=fun (v0,v1,v5)=>St.mk [(0,.dat (.sl zA) v0),(1,.dat (.sl zA) v1),(5,.dat tI v5)] []
def zey (k0:zex→Option (Bool × Unit)):zex→Option (Bool × Unit):=fun (v0,v1,v5) =>
  bif decide (v5 < ((List.length v0):Int)) then inR v5 ((List.length v0):Int) (inR v5 ((List.length v1):Int) (bif !eqI zA (ix vU v0 v5) (ix vU v1 v5) then some (false,()) else k0 (v0,v1,wI (v5 + 1)))) else some (true,())
abbrev zsq (K:Nat):zex→Option (Bool × Unit):=zg zey K
theorem zDR (K:Nat):∀ n,evV Es0 K Tryz.f60 0 (ch [.bool]) [1,1,0,1,0] [] zDQ n = zg zey n:=zq fun n0 (v0,v1,v5)=>by kernel_rfl
def zoQ (L0:zex→Option (Bool × Unit)):((List zJ) × ((List zJ) × Unit))→Option (Bool × Unit):=fun (x0,x1,()) =>
  bif ((List.length x0):Int) != ((List.length x1):Int) then some (false,()) else L0 (x0,x1,0)
def zoR:((List zJ) × (List zJ) × Unit)→Option (Bool × Unit):=zoQ (zsq K0)
abbrev zwG:Fun:=⟨60,(ch [(.sl zA),(.sl zA)]),(ch [.bool]),0,zoR⟩
theorem zIM:Sq zwG:=ml0 (d:=false) (S:=fun K=>zoQ (zsq K)) Tryz.func60 (by kernel_rfl) (fun K=>tr1 (T:=zoQ) (zDR K K) fun (x0,x1,())=>by kernel_rfl) rfl
abbrev yE:Type:=(List qV) × (List qV) × Int
abbrev zvB:yE→St:=fun (v0,v1,v5)=>St.mk [(0,.dat (.sl qk) v0),(1,.dat (.sl qk) v1),(5,.dat tI v5)] []
def yF (k0:yE→Option (Bool × Unit)):yE→Option (Bool × Unit):=fun (v0,v1,v5) =>
  bif decide (v5 < ((List.length v0):Int)) then inR v5 ((List.length v0):Int) (inR v5 ((List.length v1):Int) (bif !eqI qk (ix zhs v0 v5) (ix zhs v1 v5) then some (false,()) else k0 (v0,v1,wI (v5 + 1)))) else some (true,())
abbrev zlF (K:Nat):yE→Option (Bool × Unit):=zg yF K
theorem zvC (K:Nat):∀ n,evV Es0 K Tryz.f97 0 (ch [.bool]) [1,1,0,1,0] [] zvB n = zg yF n:=zq fun n0 (v0,v1,v5)=>by kernel_rfl
def zia (L0:yE→Option (Bool × Unit)):((List qV) × ((List qV) × Unit))→Option (Bool × Unit):=fun (x0,x1,()) =>
  bif ((List.length x0):Int) != ((List.length x1):Int) then some (false,()) else L0 (x0,x1,0)
def zib:((List qV) × (List qV) × Unit)→Option (Bool × Unit):=zia (zlF K0)
abbrev znR:Fun:=⟨97,(ch [(.sl qk),(.sl qk)]),(ch [.bool]),0,zib⟩
theorem zyg:Sq znR:=ml0 (d:=false) (S:=fun K=>zia (zlF K)) Tryz.func97 (by kernel_rfl) (fun K=>tr1 (T:=zia) (zvC K K) fun (x0,x1,())=>by kernel_rfl) rfl
abbrev yG:Type:=(List qe) × (List qe) × Int
abbrev zvD:yG→St:=fun (v0,v1,v5)=>St.mk [(0,.dat (.sl zU) v0),(1,.dat (.sl zU) v1),(5,.dat tI v5)] []
def yH (k0:yG→Option (Bool × Unit)):yG→Option (Bool × Unit):=fun (v0,v1,v5) =>
  bif decide (v5 < ((List.length v0):Int)) then inR v5 ((List.length v0):Int) (inR v5 ((List.length v1):Int) (bif !eqI zU (ix qh v0 v5) (ix qh v1 v5) then some (false,()) else k0 (v0,v1,wI (v5 + 1)))) else some (true,())
abbrev zlG (K:Nat):yG→Option (Bool × Unit):=zg yH K
theorem zvE (K:Nat):∀ n,evV Es0 K Tryz.f98 0 (ch [.bool]) [1,1,0,1,0] [] zvD n = zg yH n:=zq fun n0 (v0,v1,v5)=>by kernel_rfl
def zic (L0:yG→Option (Bool × Unit)):((List qe) × ((List qe) × Unit))→Option (Bool × Unit):=fun (x0,x1,()) =>
  bif ((List.length x0):Int) != ((List.length x1):Int) then some (false,()) else L0 (x0,x1,0)
def zid:((List qe) × (List qe) × Unit)→Option (Bool × Unit):=zic (zlG K0)
abbrev znS:Fun:=⟨98,(ch [(.sl zU),(.sl zU)]),(ch [.bool]),0,zid⟩
theorem zyh:Sq znS:=ml0 (d:=false) (S:=fun K=>zic (zlG K)) Tryz.func98 (by kernel_rfl) (fun K=>tr1 (T:=zic) (zvE K K) fun (x0,x1,())=>by kernel_rfl) rfl
abbrev zez:Type:=(List zh) × (List zh) × Int
abbrev zDS:zez→St:=fun (v0,v1,v5)=>St.mk [(0,.dat (.sl zi) v0),(1,.dat (.sl zi) v1),(5,.dat tI v5)] []
def zeA (k0:zez→Option (Bool × Unit)):zez→Option (Bool × Unit):=fun (v0,v1,v5) =>
  bif decide (v5 < ((List.length v0):Int)) then inR v5 ((List.length v0):Int) (inR v5 ((List.length v1):Int) (bif !eqI zi (ix zj v0 v5) (ix zj v1 v5) then some (false,()) else k0 (v0,v1,wI (v5 + 1)))) else some (true,())
abbrev zsr (K:Nat):zez→Option (Bool × Unit):=zg zeA K
theorem zDT (K:Nat):∀ n,evV Es0 K Tryz.f99 0 (ch [.bool]) [1,1,0,1,0] [] zDS n = zg zeA n:=zq fun n0 (v0,v1,v5)=>by kernel_rfl
def zoS (L0:zez→Option (Bool × Unit)):((List zh) × ((List zh) × Unit))→Option (Bool × Unit):=fun (x0,x1,()) =>
  bif ((List.length x0):Int) != ((List.length x1):Int) then some (false,()) else L0 (x0,x1,0)
def zoT:((List zh) × (List zh) × Unit)→Option (Bool × Unit):=zoS (zsr K0)
abbrev zwH:Fun:=⟨99,(ch [(.sl zi),(.sl zi)]),(ch [.bool]),0,zoT⟩
theorem zIN:Sq zwH:=ml0 (d:=false) (S:=fun K=>zoS (zsr K)) Tryz.func99 (by kernel_rfl) (fun K=>tr1 (T:=zoS) (zDT K K) fun (x0,x1,())=>by kernel_rfl) rfl
abbrev zeB:Type:=(List qr) × (List qr) × Int
abbrev zDU:zeB→St:=fun (v0,v1,v5)=>St.mk [(0,.dat (.sl zY) v0),(1,.dat (.sl zY) v1),(5,.dat tI v5)] []
def zeC (k0:zeB→Option (Bool × Unit)):zeB→Option (Bool × Unit):=fun (v0,v1,v5) =>
  bif decide (v5 < ((List.length v0):Int)) then inR v5 ((List.length v0):Int) (inR v5 ((List.length v1):Int) (bif !eqI zY (ix zaS v0 v5) (ix zaS v1 v5) then some (false,()) else k0 (v0,v1,wI (v5 + 1)))) else some (true,())
abbrev zss (K:Nat):zeB→Option (Bool × Unit):=zg zeC K
theorem zDV (K:Nat):∀ n,evV Es0 K Tryz.f100 0 (ch [.bool]) [1,1,0,1,0] [] zDU n = zg zeC n:=zq fun n0 (v0,v1,v5)=>by kernel_rfl
def zoU (L0:zeB→Option (Bool × Unit)):((List qr) × ((List qr) × Unit))→Option (Bool × Unit):=fun (x0,x1,()) =>
  bif ((List.length x0):Int) != ((List.length x1):Int) then some (false,()) else L0 (x0,x1,0)
def zoV:((List qr) × (List qr) × Unit)→Option (Bool × Unit):=zoU (zss K0)
abbrev zwI:Fun:=⟨100,(ch [(.sl zY),(.sl zY)]),(ch [.bool]),0,zoV⟩
theorem zIO:Sq zwI:=ml0 (d:=false) (S:=fun K=>zoU (zss K)) Tryz.func100 (by kernel_rfl) (fun K=>tr1 (T:=zoU) (zDV K K) fun (x0,x1,())=>by kernel_rfl) rfl
abbrev zeD:Type:=(List zx) × (List zx) × Int
abbrev zDW:zeD→St:=fun (v0,v1,v5)=>St.mk [(0,.dat (.sl zz) v0),(1,.dat (.sl zz) v1),(5,.dat tI v5)] []
def zeE (k0:zeD→Option (Bool × Unit)):zeD→Option (Bool × Unit):=fun (v0,v1,v5) =>
  bif decide (v5 < ((List.length v0):Int)) then inR v5 ((List.length v0):Int) (inR v5 ((List.length v1):Int) (bif !eqI zz (ix zR v0 v5) (ix zR v1 v5) then some (false,()) else k0 (v0,v1,wI (v5 + 1)))) else some (true,())
abbrev zst (K:Nat):zeD→Option (Bool × Unit):=zg zeE K
theorem zDX (K:Nat):∀ n,evV Es0 K Tryz.f101 0 (ch [.bool]) [1,1,0,1,0] [] zDW n = zg zeE n:=zq fun n0 (v0,v1,v5)=>by kernel_rfl
def zoW (L0:zeD→Option (Bool × Unit)):((List zx) × ((List zx) × Unit))→Option (Bool × Unit):=fun (x0,x1,()) =>
  bif ((List.length x0):Int) != ((List.length x1):Int) then some (false,()) else L0 (x0,x1,0)
def zoX:((List zx) × (List zx) × Unit)→Option (Bool × Unit):=zoW (zst K0)
abbrev zwJ:Fun:=⟨101,(ch [(.sl zz),(.sl zz)]),(ch [.bool]),0,zoX⟩
theorem zIP:Sq zwJ:=ml0 (d:=false) (S:=fun K=>zoW (zst K)) Tryz.func101 (by kernel_rfl) (fun K=>tr1 (T:=zoW) (zDX K K) fun (x0,x1,())=>by kernel_rfl) rfl
abbrev zeF:Type:=(List Int) × (List Int) × Int
abbrev zDY:zeF→St:=fun (v0,v1,v5)=>St.mk [(0,.dat (.sl tI) v0),(1,.dat (.sl tI) v1),(5,.dat tI v5)] []
def zeG (k0:zeF→Option (Bool × Unit)):zeF→Option (Bool × Unit):=fun (v0,v1,v5) =>
  bif decide (v5 < ((List.length v0):Int)) then inR v5 ((List.length v0):Int) (inR v5 ((List.length v1):Int) (bif ix (0:Int) v0 v5 != ix (0:Int) v1 v5 then some (false,()) else k0 (v0,v1,wI (v5 + 1)))) else some (true,())
abbrev zsu (K:Nat):zeF→Option (Bool × Unit):=zg zeG K
theorem zDZ (K:Nat):∀ n,evV Es0 K Tryz.f15 0 (ch [.bool]) [1,1,0,1,0] [] zDY n = zg zeG n:=zq fun n0 (v0,v1,v5)=>by kernel_rfl
def zoY (L0:zeF→Option (Bool × Unit)):((List Int) × ((List Int) × Unit))→Option (Bool × Unit):=fun (x0,x1,()) =>
  bif ((List.length x0):Int) != ((List.length x1):Int) then some (false,()) else L0 (x0,x1,0)
def zkt:((List Int) × (List Int) × Unit)→Option (Bool × Unit):=zoY (zsu K0)
abbrev zwK:Fun:=⟨15,(ch [(.sl tI),(.sl tI)]),(ch [.bool]),0,zkt⟩
theorem zIQ:Sq zwK:=ml0 (d:=false) (S:=fun K=>zoY (zsu K)) Tryz.func15 (by kernel_rfl) (fun K=>tr1 (T:=zoY) (zDZ K K) fun (x0,x1,())=>by kernel_rfl) rfl
abbrev zag:Type:=(List zE) × (List zE) × Int
abbrev zwL:zag→St:=fun (v0,v1,v5)=>St.mk [(0,.dat (.sl jq) v0),(1,.dat (.sl jq) v1),(5,.dat tI v5)] []
def zah (k0:zag→Option (Bool × Unit)):zag→Option (Bool × Unit):=fun (v0,v1,v5) =>
  bif decide (v5 < ((List.length v0):Int)) then inR v5 ((List.length v0):Int) (inR v5 ((List.length v1):Int) (bif !eqI jq (ix qB v0 v5) (ix qB v1 v5) then some (false,()) else k0 (v0,v1,wI (v5 + 1)))) else some (true,())
abbrev zmZ (K:Nat):zag→Option (Bool × Unit):=zg zah K
theorem zwM (K:Nat):∀ n,evV Es0 K Tryz.f16 0 (ch [.bool]) [1,1,0,1,0] [] zwL n = zg zah n:=zq fun n0 (v0,v1,v5)=>by kernel_rfl
def zjt (L0:zag→Option (Bool × Unit)):((List zE) × ((List zE) × Unit))→Option (Bool × Unit):=fun (x0,x1,()) =>
  bif ((List.length x0):Int) != ((List.length x1):Int) then some (false,()) else L0 (x0,x1,0)
def zfC:((List qy) × (List qy) × Unit)→Option (Bool × Unit):=zjt (zmZ K0)
abbrev zoZ:Fun:=⟨16,(ch [(.sl zv),(.sl zv)]),(ch [.bool]),0,zfC⟩
theorem zzP:Sq zoZ:=ml0 (d:=false) (S:=fun K=>zjt (zmZ K)) Tryz.func16 (by kernel_rfl) (fun K=>tr1 (T:=zjt) (zwM K K) fun (x0,x1,())=>by kernel_rfl) rfl
abbrev L1:List Fun:=zox :: zoy :: zrZ :: zqf :: zoz :: zqg :: zqh :: zqi :: zqj :: zoA :: zuf :: zr0 :: zug :: zr1 :: zkc :: zqk :: zmP :: zwf :: zmQ :: zwh :: zwi :: zlv :: zwj :: zio :: znN :: zwk :: zwl :: zoG :: zoH :: zql :: zlx :: zki :: zly :: zwo :: zwp :: zr8 :: zlz :: zlA :: zBB :: zBC :: zlB :: zFy :: zwq :: zh2 :: zir :: zkl :: zBD :: zwr :: zws :: zsf :: znO :: zFz :: zBE :: zuh :: zui :: zqm :: zlC :: zkm :: zlD :: zkn :: znP :: zyG :: zqn :: zmT :: zqo :: zmU :: znQ :: zmV :: zmW :: zlE :: zqp :: zoK :: zwx :: zoL :: zuj :: zyH :: zuk :: zsg :: zsh :: zwy :: zul :: zum :: zBJ :: zqq :: zmY :: zsi :: zun :: zsj :: zuo :: zyI :: zup :: zwA :: zuq :: zyJ :: zyK :: zus :: zut :: zuu :: zyL :: zyM :: zyN :: zsk :: zuw :: zyO :: zux :: zyP :: zyQ :: zyR :: zyS :: zyT :: zuy :: zwB :: zuz :: zyU :: zsl :: zwC :: zwD :: zuB :: zuD :: zwE :: zwF :: zwG :: znR :: znS :: zwH :: zwI :: zwJ :: zwK :: zoZ :: L0
theorem h1:Sds Tryz.prog E0 L1:=⟨zzH,zzI,zDx,zBu,zzJ,zBv,zBw,zBx,zBy,zzK,zFR,zDy,zFS,zDz,ztK,zBz,zwe,zIt,zwg,zIu,zIv,zvq,zIw,zro,zyc,zIx,zIy,zzL,zzM,zBA,zvt,ztN,zvu,zIz,zIA,zDE,zvv,zvw,zNl,zNm,zvx,zOP,zIB,zpQ,zrr,ztO,zNn,zIC,zID,zDF,zyd,zOQ,zNo,zFT,zFU,zBF,zvy,ztP,zvz,ztQ,zye,zK2,zBG,zwt,zBH,zwu,zyf,zwv,zww,zvA,zBI,zzN,zIE,zzO,zFV,zK3,zFW,zDG,zDH,zIF,zFX,zFY,zNp,zBK,zwz,zDI,zFZ,zDJ,zF0,zK4,zF1,zIG,zF2,zK5,zK6,zF5,zF6,zF7,zK7,zK8,zK9,zDK,zGa,zLa,zGb,zLb,zLc,zLd,zLe,zLf,zGc,zIH,zGd,zLg,zDL,zII,zIJ,zGe,zGf,zIK,zIL,zIM,zyg,zyh,zIN,zIO,zIP,zIQ,zzP,h0⟩
end
end Go.Proofs.YtejbgeokcpillaaGreatDoor
end
section
namespace Go.Proofs.YtejbgeokcpillaaGreatDoor
open Go.Ev
noncomputable section
theorem ms1 {d:Bool} {F:Fun} {f:Go.Func} {K:Nat} (hf:Tryz.prog.funcs[F.id]? = some f) (ho:jm f = true) (h:evF (En E0 d L1) K f F.md F.a F.r = F.spec):Sd Tryz.prog E0 F:=mkS h1 hf ho h
theorem ml1 {d:Bool} {F:Fun} {f:Go.Func} {S:Nat→F.a.I→Option F.r.I} (hf:Tryz.prog.funcs[F.id]? = some f) (ho:jm f = true) (h:∀ K,evF (En E0 d L1) K f F.md F.a F.r = S K) (e:S K0 = F.spec):Sd Tryz.prog E0 F:=mkS h1 hf ho ((h K0).trans e)
abbrev Es1:Env:=En E0 false L1
abbrev Ed1:Env:=En E0 true L1
abbrev zcE:Type:=Int × Int × Int × Int × List zp × Nat × List (List Int) × Nat × List zu × List zJ × List Int × List zp × Nat × List (List Int) × Nat × List zu × List zJ × List Int
abbrev zqs:zcE→St:=fun (v44,v45,o0_0,o1_0,o2,c2,o3,c3,o4,o5,o6,o7,c7,o8,c8,o9,o10,o11)=>St.mk [(1,.bp 0 []),(2,.bp 1 []),(43,.ow 2),(44,.dat tI v44),(45,.dat tI v45)] [.bx (.fld (.pair tU (.pair (.sl zy) (.pair (.sl (.sl tI)) (.pair (.sl zr) (.pair (.sl zA) (.pair (.sl tI) .unit)))))) [.dat tU o0_0,.ow 2,.ow 3,.ow 4,.ow 5,.ow 6]) false,.bx (.fld (.pair tU (.pair (.sl zy) (.pair (.sl (.sl tI)) (.pair (.sl zr) (.pair (.sl zA) (.pair (.sl tI) .unit)))))) [.dat tU o1_0,.ow 7,.ow 8,.ow 9,.ow 10,.ow 11]) false,.drow zy o2 c2,.drow (.sl tI) o3 c3,.row zr o4 false,.row zA o5 false,.row tI o6 false,.drow zy o7 c7,.drow (.sl tI) o8 c8,.row zr o9 false,.row zA o10 false,.row tI o11 false]
abbrev zcF:Type:=Int × Int × Int × (List zp) × Int × List (List Int) × Nat × List zu × List zJ × List Int × List zp × Nat × List (List Int) × Nat × List zu × List zJ × List Int
abbrev zBR:zcF→St:=fun (v25,v26,o0_0,o0_1,o1_0,o2,c2,o3,o4,o5,o6,c6,o7,c7,o8,o9,o10)=>St.mk [(1,.bp 0 []),(2,.bp 1 []),(24,.ow 2),(25,.dat tI v25),(26,.dat tI v26)] [.bx (.fld (.pair tU (.pair (.sl zy) (.pair (.sl (.sl tI)) (.pair (.sl zr) (.pair (.sl zA) (.pair (.sl tI) .unit)))))) [.dat tU o0_0,.dat (.sl zy) o0_1,.ow 2,.ow 3,.ow 4,.ow 5]) false,.bx (.fld (.pair tU (.pair (.sl zy) (.pair (.sl (.sl tI)) (.pair (.sl zr) (.pair (.sl zA) (.pair (.sl tI) .unit)))))) [.dat tU o1_0,.ow 6,.ow 7,.ow 8,.ow 9,.ow 10]) false,.drow (.sl tI) o2 c2,.row zr o3 false,.row zA o4 false,.row tI o5 false,.drow zy o6 c6,.drow (.sl tI) o7 c7,.row zr o8 false,.row zA o9 false,.row tI o10 false]
def zcG (k1:zcE→Option (zb × Unit)):zcE→Option (zb × Unit):=fun (v44,v45,o0_0,o1_0,o2,c2,o3,c3,o4,o5,o6,o7,c7,o8,c8,o9,o10,o11) =>
  bif decide (v45 < v44) then inR v45 ((List.length o2):Int) (bif decide (c2 ≤ Int.toNat v45) then Option.bind (zj9 ((ix ze o2 v45).1,())) fun q6=>Option.bind (zka ((ix ze o2 v45).2.1,())) fun q7=>Option.bind (zar ((ix ze o2 v45).2.2.1,())) fun q8=>Option.bind (zkb ((ix ze o2 v45).2.2.2.1,())) fun q9=>Option.bind (zbp ((ix ze o2 v45).2.2.2.2.1,())) fun q10=>Option.bind (znf ((ix ze o2 v45).2.2.2.2.2.1,())) fun q11=>Option.bind (zlV ((ix ze o2 v45).2.2.2.2.2.2.1,())) fun q12=>inR v45 ((List.length o2):Int) (bif decide (Int.toNat v45 = c2) then k1 (v44,wI (v45 + 1),o0_0,o1_0,List.set o2 (Int.toNat v45) (q6.1,q7.1,q8.1,q9.1,q10.1,q11.1,q12.1,(ix ze o2 v45).2.2.2.2.2.2.2.1,(ix ze o2 v45).2.2.2.2.2.2.2.2.1,()),c2 + 1,o3,c3,o4,o5,o6,o7,c7,o8,c8,o9,o10,o11) else none) else none) else bif decide (c2 = List.length o2) then bif decide (c3 = List.length o3) then some ((o0_0,o2,o3,o4,o5,o6,()),()) else none else none
abbrev zcH (K:Nat):zcE→Option (zb × Unit):=zg zcG K
theorem zBS (K:Nat):∀ n,evV Ed1 K Tryz.f6 3 (ch [zo]) [1,1,1,1,1,0,1,0] [] zqs n = zg zcG n:=zq fun n1 (v44,v45,o0_0,o1_0,o2,c2,o3,c3,o4,o5,o6,o7,c7,o8,c8,o9,o10,o11)=>by kernel_rfl
def zat (L1:zcE→Option (zb × Unit)) (k0:zcF→Option (zb × Unit)):zcF→Option (zb × Unit):=fun (v25,v26,o0_0,o0_1,o1_0,o2,c2,o3,o4,o5,o6,c6,o7,c7,o8,o9,o10) =>
  bif decide (v26 < v25) then inR v26 ((List.length o2):Int) (bif decide (c2 ≤ Int.toNat v26) then Option.bind (zht (List.getD o2 (Int.toNat v26) ([]:List Int),())) fun q4=>inR v26 ((List.length o2):Int) (bif decide (Int.toNat v26 = c2) then k0 (v25,wI (v26 + 1),o0_0,o0_1,o1_0,List.set o2 (Int.toNat v26) q4.1,c2 + 1,o3,o4,o5,o6,c6,o7,c7,o8,o9,o10) else none) else none) else Option.bind (zjp (o0_1,())) fun q5=>L1 (((List.length q5.1):Int),0,o0_0,o1_0,q5.1,0,o2,c2,o3,o4,o5,o6,c6,o7,c7,o8,o9,o10)
abbrev zku (K:Nat):zcF→Option (zb × Unit):=zg (fun k0=>zat (zcH K) k0) K
theorem zBT (K:Nat):∀ n,evV Ed1 K Tryz.f6 3 (ch [zo]) [1,1,1,0,1,0] [] zBR n = zg (fun k0=>zat (zcH K) k0) n:=qu (B:=fun L1 k0=>zat L1 k0) (V1:=fun n0=>evV Ed1 K Tryz.f6 3 (ch [zo]) [1,1,1,1,1,0,1,0] [] zqs K) (W1:=fun k0=>(zcH K)) (fun n0=>zBS K K) fun n0 (v25,v26,o0_0,o0_1,o1_0,o2,c2,o3,o4,o5,o6,c6,o7,c7,o8,o9,o10)=>by kernel_rfl
def zi0 (L0:zcF→Option (zb × Unit)):(zb × Unit)→Option (zb × Unit):=fun (x0,()) =>
  Option.bind (zbo (x0.2.2.2.1,())) fun q0=>Option.bind (zjo (x0.2.2.2.2.1,())) fun q1=>Option.bind (zht (x0.2.2.2.2.2.1,())) fun q2=>Option.bind (zj8 (x0.2.2.1,())) fun q3=>L0 (((List.length q3.1):Int),0,x0.1,x0.2.1,0,q3.1,0,q0.1,q1.1,q2.1,[],0,[],0,[],[],[])
def yq:(zb × Unit)→Option (zb × Unit):=zi0 (zku K0)
abbrev zuE:Fun:=⟨6,(ch [zo]),(ch [zo]),3,yq⟩
theorem zGg:Sq zuE:=ml1 (d:=true) (S:=fun K=>zi0 (zku K)) Tryz.func6 (by kernel_rfl) (fun K=>tr1 (T:=zi0) (zBT K K) fun (x0,())=>by kernel_rfl) rfl
def zfD:(zC × Unit)→Option (Bool × Unit):=fun (x0,()) =>
  Option.bind (ziQ (x0,())) fun q0=>bif q0.1 then some (false,()) else some (true,())
abbrev zo0:Fun:=⟨252,(ch [zt]),(ch [.bool]),0,zfD⟩
theorem zzQ:Sq zo0:=ms1 (d:=false) (K:=0) Tryz.func252 (by kernel_rfl) (funext fun (x0,())=>by kernel_rfl)
def yw:((List zC) × ((Option ((zC × Unit)→Option (Bool × Unit))) × Unit))→Option (Bool × Unit):=fun (x0,x1,()) =>
  Option.bind (zaT (x0,x1,())) fun q0=>bif decide (q0.1 ≥ 0) then some (true,()) else some (false,())
abbrev zh3:Fun:=⟨253,(ch [(.sl zt),(.fn (ch [zt]) (ch [.bool]))]),(ch [.bool]),0,yw⟩
theorem zpR:Sq zh3:=ms1 (d:=false) (K:=0) Tryz.func253 (by kernel_rfl) (funext fun (x0,x1,())=>by kernel_rfl)
def zaN:(Int × (Int × Unit))→Option (Int × Unit):=fun (x0,x1,()) =>
  Option.bind (zas (x0,())) fun q0=>bif q0.1 then Option.bind (zas (x1,())) fun q1=>bif q1.1 then some (0,()) else some ((-1),()) else Option.bind (zas (x1,())) fun q2=>bif q2.1 then some (1,()) else bif decide (x0 < x1) then some ((-1),()) else bif decide (x0 > x1) then some (1,()) else some (0,())
abbrev znT:Fun:=⟨284,(ch [tI,tI]),(ch [tI]),0,zaN⟩
theorem zyi:Sq znT:=ms1 (d:=false) (K:=0) Tryz.func284 (by kernel_rfl) (funext fun (x0,x1,())=>by kernel_rfl)
def yb:(Int × (Int × Unit))→Option (Int × Unit):=fun (x0,x1,()) =>
  Option.bind (vC (x0,())) fun q0=>bif q0.1 then Option.bind (vC (x1,())) fun q1=>bif q1.1 then some (0,()) else some ((-1),()) else Option.bind (vC (x1,())) fun q2=>bif q2.1 then some (1,()) else bif decide (x0 < x1) then some ((-1),()) else bif decide (x0 > x1) then some (1,()) else some (0,())
abbrev zkv:Fun:=⟨283,(ch [tU,tU]),(ch [tI]),0,yb⟩
theorem ztT:Sq zkv:=ms1 (d:=false) (K:=0) Tryz.func283 (by kernel_rfl) (funext fun (x0,x1,())=>by kernel_rfl)
def zcI:(Int × ((Option zf) × Unit))→Option (Bool × Unit):=fun (x0,x1,()) =>
  Option.bind x1 fun q0=>Option.bind (qw (x0,0,wI (((List.length q0.1):Int) - 1),())) fun q1=>bif q1.1 then some (false,()) else some (true,())
abbrev zqt:Fun:=⟨255,(ch [tI,(.ptr zw)]),(ch [.bool]),0,zcI⟩
theorem zBU:Sq zqt:=ms1 (d:=false) (K:=0) Tryz.func255 (by kernel_rfl) (funext fun (x0,x1,())=>by kernel_rfl)
def qN:((List Int) × ((Option ((Int × Unit)→Option (Bool × Unit))) × Unit))→Option (Bool × Unit):=fun (x0,x1,()) =>
  Option.bind (zcs (x0,x1,())) fun q0=>bif decide (q0.1 ≥ 0) then some (true,()) else some (false,())
abbrev zjU:Fun:=⟨190,(ch [(.sl tI),(.fn (ch [tI]) (ch [.bool]))]),(ch [.bool]),0,qN⟩
theorem zsv:Sq zjU:=ms1 (d:=false) (K:=0) Tryz.func190 (by kernel_rfl) (funext fun (x0,x1,())=>by kernel_rfl)
def vp:((List Int) × ((Option ((Int × Unit)→Option (Bool × Unit))) × Unit))→Option (Bool × Unit):=fun (x0,x1,()) =>
  Option.bind (zbW (x0,x1,())) fun q0=>bif decide (q0.1 ≥ 0) then some (true,()) else some (false,())
abbrev zix:Fun:=⟨294,(ch [(.sl (.int .u8)),(.fn (ch [(.int .u8)]) (ch [.bool]))]),(ch [.bool]),0,vp⟩
theorem zrB:Sq zix:=ms1 (d:=false) (K:=0) Tryz.func294 (by kernel_rfl) (funext fun (x0,x1,())=>by kernel_rfl)
def zhz:(Int × Unit)→Option (Bool × Unit):=fun (x0,()) =>
  Option.bind (zgW (x0,())) fun q0=>bif q0.1 then some (true,()) else Option.bind (zkf (x0,())) fun q1=>bif q1.1 then some (true,()) else some (false,())
abbrev zsw:Fun:=⟨226,(ch [(.int .u8)]),(ch [.bool]),0,zhz⟩
theorem zD0:Sq zsw:=ms1 (d:=false) (K:=0) Tryz.func226 (by kernel_rfl) (funext fun (x0,())=>by kernel_rfl)
def zaY:((List qA) × ((Option ((qA × Unit)→Option (Bool × Unit))) × Unit))→Option (Bool × Unit):=fun (x0,x1,()) =>
  Option.bind (y9 (x0,x1,())) fun q0=>bif decide (q0.1 ≥ 0) then some (true,()) else some (false,())
abbrev zgC:Fun:=⟨257,(ch [(.sl qD),(.fn (ch [qD]) (ch [.bool]))]),(ch [.bool]),0,zaY⟩
theorem zn8:Sq zgC:=ms1 (d:=false) (K:=0) Tryz.func257 (by kernel_rfl) (funext fun (x0,x1,())=>by kernel_rfl)
def zb3:((List zC) × (zC × Unit))→Option (Bool × Unit):=fun (x0,x1,()) =>
  Option.bind (zjr (x0,x1,())) fun q0=>bif decide (q0.1 ≥ 0) then some (true,()) else some (false,())
abbrev zlH:Fun:=⟨260,(ch [(.sl zt),zt]),(ch [.bool]),0,zb3⟩
theorem zvF:Sq zlH:=ms1 (d:=false) (K:=0) Tryz.func260 (by kernel_rfl) (funext fun (x0,x1,())=>by kernel_rfl)
def zfE:(Int × Unit)→Option (Bool × Unit):=fun (x0,()) =>
  Option.bind (qw (x0,0,12,())) fun q0=>bif q0.1 then some (false,()) else some (true,())
abbrev zo1:Fun:=⟨262,(ch [tI]),(ch [.bool]),0,zfE⟩
theorem zzR:Sq zo1:=ms1 (d:=false) (K:=0) Tryz.func262 (by kernel_rfl) (funext fun (x0,())=>by kernel_rfl)
def zai:(zf × Unit)→Option (Bool × Unit):=fun (x0,()) =>
  Option.bind (qw (x0.2.2.2.2.2.1,0,24,())) fun q0=>bif q0.1 then Option.bind (qw (x0.2.2.2.2.2.2.1,0,48,())) fun q1=>bif q1.1 then Option.bind (qw (x0.2.2.2.2.2.2.2.1,1,4,())) fun q2=>bif q2.1 then Option.bind (qw (x0.2.2.2.2.2.2.2.2.1,1,16,())) fun q3=>bif q3.1 then some (true,()) else some (false,()) else some (false,()) else some (false,()) else some (false,())
abbrev zwN:Fun:=⟨175,(ch [zw]),(ch [.bool]),0,zai⟩
theorem zIR:Sq zwN:=ms1 (d:=false) (K:=0) Tryz.func175 (by kernel_rfl) (funext fun (x0,())=>by kernel_rfl)
def j8:((List zp) × ((Option ((zp × Unit)→Option (Bool × Unit))) × Unit))→Option (Bool × Unit):=fun (x0,x1,()) =>
  Option.bind (zaU (x0,x1,())) fun q0=>bif decide (q0.1 ≥ 0) then some (true,()) else some (false,())
abbrev zh4:Fun:=⟨176,(ch [(.sl zy),(.fn (ch [zy]) (ch [.bool]))]),(ch [.bool]),0,j8⟩
theorem zpS:Sq zh4:=ms1 (d:=false) (K:=0) Tryz.func176 (by kernel_rfl) (funext fun (x0,x1,())=>by kernel_rfl)
def zdU:((List qV) × ((Option ((qV × Unit)→Option (Bool × Unit))) × Unit))→Option (Bool × Unit):=fun (x0,x1,()) =>
  Option.bind (zbY (x0,x1,())) fun q0=>bif decide (q0.1 ≥ 0) then some (true,()) else some (false,())
abbrev ziy:Fun:=⟨178,(ch [(.sl qk),(.fn (ch [qk]) (ch [.bool]))]),(ch [.bool]),0,zdU⟩
theorem zrC:Sq ziy:=ms1 (d:=false) (K:=0) Tryz.func178 (by kernel_rfl) (funext fun (x0,x1,())=>by kernel_rfl)
def zkw:(qe × Unit)→Option (Bool × Unit):=fun (x0,()) =>
  bif x0.1 then Option.bind (zgY (x0.2.1,())) fun q0=>bif q0.1 then Option.bind (zgY (x0.2.2.1,())) fun q1=>bif q1.1 then Option.bind (zkj (x0.2.2.2.1,())) fun q2=>bif q2.1 then some (false,()) else some (true,()) else some (true,()) else some (true,()) else bif !eqI zU x0 (zd zU) then some (true,()) else some (false,())
abbrev zwO:Fun:=⟨180,(ch [zU]),(ch [.bool]),0,zkw⟩
theorem zIS:Sq zwO:=ms1 (d:=false) (K:=0) Tryz.func180 (by kernel_rfl) (funext fun (x0,())=>by kernel_rfl)
def zkx:((List qe) × (zE × (Int × Unit)))→Option (Int × Unit):=fun (x0,x1,x2,()) =>
  Option.bind (yC (x0,some fun z=>zhu (z.1,some x1,some x2,()),())) fun q0=>some (q0.1,())
abbrev zwP:Fun:=⟨181,(ch [(.sl zU),zv,tI]),(ch [tI]),0,zkx⟩
theorem zIT:Sq zwP:=ms1 (d:=false) (K:=0) Tryz.func181 (by kernel_rfl) (funext fun (x0,x1,x2,())=>by kernel_rfl)
def jy:((List zh) × ((Option ((zh × Unit)→Option (Bool × Unit))) × Unit))→Option (Bool × Unit):=fun (x0,x1,()) =>
  Option.bind (yD (x0,x1,())) fun q0=>bif decide (q0.1 ≥ 0) then some (true,()) else some (false,())
abbrev ziz:Fun:=⟨182,(ch [(.sl zi),(.fn (ch [zi]) (ch [.bool]))]),(ch [.bool]),0,jy⟩
theorem zrD:Sq ziz:=ms1 (d:=false) (K:=0) Tryz.func182 (by kernel_rfl) (funext fun (x0,x1,())=>by kernel_rfl)
def jU:(qS × Unit)→Option (Bool × Unit):=fun (x0,()) =>
  bif x0.1 == 1 then Option.bind (zfu (x0.2.1,())) fun q0=>bif q0.1 then bif eqI zv x0.2.2.1 (zd zv) then some (true,()) else some (false,()) else some (false,()) else bif x0.1 == 3 then Option.bind (zfu (x0.2.1,())) fun q1=>bif q1.1 then bif eqI zv x0.2.2.1 (zd zv) then some (true,()) else some (false,()) else some (false,()) else bif x0.1 == 2 then bif x0.2.1 == 0 then Option.bind (zfu (x0.2.2.1.1,())) fun q2=>bif q2.1 then Option.bind (zfu (x0.2.2.1.2.1,())) fun q3=>bif q3.1 then some (true,()) else some (false,()) else some (false,()) else some (false,()) else some (false,())
abbrev zm0:Fun:=⟨153,(ch [qm]),(ch [.bool]),0,jU⟩
theorem zwQ:Sq zm0:=ms1 (d:=false) (K:=0) Tryz.func153 (by kernel_rfl) (funext fun (x0,())=>by kernel_rfl)
def jz:((List qr) × ((Option ((qr × Unit)→Option (Bool × Unit))) × Unit))→Option (Bool × Unit):=fun (x0,x1,()) =>
  Option.bind (zbZ (x0,x1,())) fun q0=>bif decide (q0.1 ≥ 0) then some (true,()) else some (false,())
abbrev ziA:Fun:=⟨184,(ch [(.sl zY),(.fn (ch [zY]) (ch [.bool]))]),(ch [.bool]),0,jz⟩
theorem zrE:Sq ziA:=ms1 (d:=false) (K:=0) Tryz.func184 (by kernel_rfl) (funext fun (x0,x1,())=>by kernel_rfl)
def zlY:(qr × Unit)→Option (Bool × Unit):=fun (x0,()) =>
  Option.bind (zjT (x0.2.1,())) fun q0=>bif q0.1 then Option.bind (zjT (x0.2.2.1,())) fun q1=>bif q1.1 then Option.bind (zjT (x0.2.2.2.1,())) fun q2=>bif q2.1 then some (true,()) else some (false,()) else some (false,()) else some (false,())
abbrev zsx:Fun:=⟨272,(ch [zY]),(ch [.bool]),0,zlY⟩
theorem zD1:Sq zsx:=ms1 (d:=false) (K:=0) Tryz.func272 (by kernel_rfl) (funext fun (x0,())=>by kernel_rfl)
def zhA:(ByteArray × (ByteArray × Unit))→Option (ByteArray × Unit):=fun (x0,x1,()) =>
  bif ByteArray.toList x0 == ByteArray.toList (ByteArray.mk #[]) then some (x0,()) else bif ByteArray.toList x1 == ByteArray.toList (ByteArray.mk #[]) then some (x0,()) else bif (↑(ByteArray.size x1):Int) == 1 then bif decide (0 < (↑(ByteArray.size x1):Int)) then bif decide ((↑(UInt8.toNat (List.getD (Array.toList (ByteArray.data x1)) (Int.toNat 0) 0)):Int) < 128) then bif decide (0 < (↑(ByteArray.size x1):Int)) then Option.bind (zb7 (x0,(↑(UInt8.toNat (List.getD (Array.toList (ByteArray.data x1)) (Int.toNat 0) 0)):Int),())) fun q0=>bif decide (0 < (↑(ByteArray.size x1):Int)) then Option.bind (zdP (q0.1,(↑(UInt8.toNat (List.getD (Array.toList (ByteArray.data x1)) (Int.toNat 0) 0)):Int),())) fun q1=>some (q1.1,()) else none else none else none else none else none
abbrev zsy:Fun:=⟨315,(ch [.str,.str]),(ch [.str]),0,zhA⟩
theorem zD2:Sq zsy:=ms1 (d:=false) (K:=0) Tryz.func315 (by kernel_rfl) (funext fun (x0,x1,())=>by kernel_rfl)
def jk:((List zx) × ((Option ((zx × Unit)→Option (Bool × Unit))) × Unit))→Option (Bool × Unit):=fun (x0,x1,()) =>
  Option.bind (zaV (x0,x1,())) fun q0=>bif decide (q0.1 ≥ 0) then some (true,()) else some (false,())
abbrev zh5:Fun:=⟨186,(ch [(.sl zz),(.fn (ch [zz]) (ch [.bool]))]),(ch [.bool]),0,jk⟩
theorem zpT:Sq zh5:=ms1 (d:=false) (K:=0) Tryz.func186 (by kernel_rfl) (funext fun (x0,x1,())=>by kernel_rfl)
def ziB:(zj7 × Unit)→Option (Bool × Unit):=fun (x0,()) =>
  Option.bind (jt (x0.1,())) fun q0=>bif q0.1 then bif decide (x0.2.1 ≤ 4611686018427387904) then bif x0.2.2.1 == -1 then some (true,()) else Option.bind (zhw (x0.2.2.1,())) fun q1=>bif q1.1 then some (true,()) else some (false,()) else some (false,()) else some (false,())
abbrev zyV:Fun:=⟨276,(ch [zd3]),(ch [.bool]),0,ziB⟩
theorem zLh:Sq zyV:=ms1 (d:=false) (K:=0) Tryz.func276 (by kernel_rfl) (funext fun (x0,())=>by kernel_rfl)
def zg3:(Int × (Int × Unit))→Option (Int × (Int × Unit)):=fun (x0,x1,()) =>
  Option.bind (zd4 (x0,x1,())) fun q0=>bif q0.1 != 0 then some (0,7,()) else bif decide (q0.2.1 > 4611686018427387904) then some (0,7,()) else some (q0.2.1,0,())
abbrev zwR:Fun:=⟨316,(ch [tU,tU]),(ch [tU,tI]),0,zg3⟩
theorem zIU:Sq zwR:=ms1 (d:=false) (K:=0) Tryz.func316 (by kernel_rfl) (funext fun (x0,x1,())=>by kernel_rfl)
def zfF:(zu × ((Option qW) × Unit))→Option (Bool × Unit):=fun (x0,x1,()) =>
  bif x0.1 then Option.bind x1 fun q0=>Option.bind (zb9 (q0,x0.2.1,())) fun q1=>bif q1.1 then Option.bind x1 fun q2=>Option.bind (qX (q2,x0.2.2.1,())) fun q3=>bif q3.1 then Option.bind x1 fun q4=>bif decide (x0.2.2.2.2.2.2.2.2.2.1 < ((List.length q4.2.1.2.2.2.2.1):Int)) then some (true,()) else some (false,()) else some (false,()) else some (false,()) else some (true,())
abbrev zo2:Fun:=⟨114,(ch [zr,(.ptr qp)]),(ch [.bool]),0,zfF⟩
theorem zzS:Sq zo2:=ms1 (d:=false) (K:=0) Tryz.func114 (by kernel_rfl) (funext fun (x0,x1,())=>by kernel_rfl)
def j9:((List zu) × ((Option ((zu × Unit)→Option (Bool × Unit))) × Unit))→Option (Bool × Unit):=fun (x0,x1,()) =>
  Option.bind (zaW (x0,x1,())) fun q0=>bif decide (q0.1 ≥ 0) then some (true,()) else some (false,())
abbrev zh6:Fun:=⟨194,(ch [(.sl zr),(.fn (ch [zr]) (ch [.bool]))]),(ch [.bool]),0,j9⟩
theorem zpU:Sq zh6:=ms1 (d:=false) (K:=0) Tryz.func194 (by kernel_rfl) (funext fun (x0,x1,())=>by kernel_rfl)
def zbr:(zJ × ((Option qW) × Unit))→Option (Bool × Unit):=fun (x0,x1,()) =>
  Option.bind x1 fun q0=>bif decide (x0.2.1 < ((List.length q0.1.2.1):Int)) then Option.bind x1 fun q1=>inR x0.2.1 ((List.length q1.1.2.1):Int) (bif x0.2.2.1 == ix (0:Int) q1.1.2.1 x0.2.1 then Option.bind x1 fun q2=>Option.bind (qX (q2,x0.2.2.2.1,())) fun q3=>bif q3.1 then Option.bind x1 fun q4=>bif decide (x0.1 ≤ q4.2.1.1) then some (true,()) else some (false,()) else some (false,()) else some (false,())) else some (false,())
abbrev zo3:Fun:=⟨118,(ch [zA,(.ptr qp)]),(ch [.bool]),0,zbr⟩
theorem zzT:Sq zo3:=ms1 (d:=false) (K:=0) Tryz.func118 (by kernel_rfl) (funext fun (x0,x1,())=>by kernel_rfl)
def va:((List zJ) × ((Option ((zJ × Unit)→Option (Bool × Unit))) × Unit))→Option (Bool × Unit):=fun (x0,x1,()) =>
  Option.bind (zaX (x0,x1,())) fun q0=>bif decide (q0.1 ≥ 0) then some (true,()) else some (false,())
abbrev zh7:Fun:=⟨196,(ch [(.sl zA),(.fn (ch [zA]) (ch [.bool]))]),(ch [.bool]),0,va⟩
theorem zpV:Sq zh7:=ms1 (d:=false) (K:=0) Tryz.func196 (by kernel_rfl) (funext fun (x0,x1,())=>by kernel_rfl)
def vu:(Int × ((Option qW) × Unit))→Option (Bool × Unit):=fun (x0,x1,()) =>
  bif x0 == -1 then some (true,()) else Option.bind x1 fun q0=>Option.bind (qX (q0,x0,())) fun q1=>bif q1.1 then some (true,()) else some (false,())
abbrev zo4:Fun:=⟨120,(ch [tI,(.ptr qp)]),(ch [.bool]),0,vu⟩
theorem zzU:Sq zo4:=ms1 (d:=false) (K:=0) Tryz.func120 (by kernel_rfl) (funext fun (x0,x1,())=>by kernel_rfl)
def ziC:(qW × (Int × (Int × Unit)))→Option (Bool × Unit):=fun (x0,x1,x2,()) =>
  Option.bind (zb9 (x0,x1,())) fun q0=>bif q0.1 then Option.bind (zb9 (x0,x2,())) fun q1=>bif q1.1 then inR x1 ((List.length x0.1.1):Int) (inR x2 ((List.length x0.1.1):Int) (Option.bind (ziv (ix jh x0.1.1 x1,ix jh x0.1.1 x2,())) fun q2=>bif q2.1 then some (true,()) else some (false,()))) else some (false,()) else some (false,())
abbrev zyW:Fun:=⟨130,(ch [qp,tI,tI]),(ch [.bool]),0,ziC⟩
theorem zLi:Sq zyW:=ms1 (d:=false) (K:=0) Tryz.func130 (by kernel_rfl) (funext fun (x0,x1,x2,())=>by kernel_rfl)
def vq:((List qe) × ((Option ((qe × Unit)→Option (Bool × Unit))) × Unit))→Option (Bool × Unit):=fun (x0,x1,()) =>
  Option.bind (yC (x0,x1,())) fun q0=>bif decide (q0.1 ≥ 0) then some (true,()) else some (false,())
abbrev ziD:Fun:=⟨200,(ch [(.sl zU),(.fn (ch [zU]) (ch [.bool]))]),(ch [.bool]),0,vq⟩
theorem zrF:Sq ziD:=ms1 (d:=false) (K:=0) Tryz.func200 (by kernel_rfl) (funext fun (x0,x1,())=>by kernel_rfl)
def vJ:((List zE) × ((Option ((zE × Unit)→Option (Bool × Unit))) × Unit))→Option (Bool × Unit):=fun (x0,x1,()) =>
  Option.bind (zcw (x0,x1,())) fun q0=>bif decide (q0.1 ≥ 0) then some (true,()) else some (false,())
abbrev zjV:Fun:=⟨203,(ch [(.sl zv),(.fn (ch [zv]) (ch [.bool]))]),(ch [.bool]),0,vJ⟩
theorem zsz:Sq zjV:=ms1 (d:=false) (K:=0) Tryz.func203 (by kernel_rfl) (funext fun (x0,x1,())=>by kernel_rfl)
def zbs:(zh × ((Option qW) × Unit))→Option (Bool × Unit):=fun (x0,x1,()) =>
  bif x0.2.2.1 != 1 then some (true,()) else Option.bind x1 fun q0=>Option.bind (qX (q0,x0.2.2.2.1,())) fun q1=>bif q1.1 then some (true,()) else some (false,())
abbrev zo5:Fun:=⟨127,(ch [zi,(.ptr qp)]),(ch [.bool]),0,zbs⟩
theorem zzV:Sq zo5:=ms1 (d:=false) (K:=0) Tryz.func127 (by kernel_rfl) (funext fun (x0,x1,())=>by kernel_rfl)
def qM:(zx × ((Option qW) × Unit))→Option (Bool × Unit):=fun (x0,x1,()) =>
  bif x0.1 then Option.bind x1 fun q0=>Option.bind (qX (q0,x0.2.1,())) fun q1=>bif q1.1 then Option.bind x1 fun q2=>Option.bind (qX (q2,x0.2.2.1,())) fun q3=>bif q3.1 then some (true,()) else some (false,()) else some (false,()) else some (true,())
abbrev zo6:Fun:=⟨132,(ch [zz,(.ptr qp)]),(ch [.bool]),0,qM⟩
theorem zzW:Sq zo6:=ms1 (d:=false) (K:=0) Tryz.func132 (by kernel_rfl) (funext fun (x0,x1,())=>by kernel_rfl)
def yT:((List zx) × ((Option ((zx × Unit)→Option (Bool × Unit))) × Unit))→Option ((Option zcq) × Unit):=fun (x0,x1,()) =>
  bif Option.isNone x1 then some (none,()) else Option.bind (zbp (x0,())) fun q0=>some (some (q0.1,x1,()),())
abbrev zo7:Fun:=⟨133,(ch [(.sl zz),(.fn (ch [zz]) (ch [.bool]))]),(ch [(.ptr vV)]),0,yT⟩
theorem zzX:Sq zo7:=ms1 (d:=false) (K:=0) Tryz.func133 (by kernel_rfl) (funext fun (x0,x1,())=>by kernel_rfl)
def yc:((Option zcq) × (Int × Unit))→Option (Bool × Unit):=fun (x0,x1,()) =>
  Option.bind (zfA (x0,())) fun q0=>bif q0.1 then bif decide (x1 ≥ 0) then Option.bind x0 fun q1=>bif decide (x1 < ((List.length q1.1):Int)) then Option.bind x0 fun q2=>Option.bind x0 fun q3=>inR x1 ((List.length q3.1):Int) (Option.bind q2.2.1 fun q4=>Option.bind (q4 (ix zR q3.1 x1,())) fun q5=>bif q5.1 then some (true,()) else some (false,())) else some (false,()) else some (false,()) else some (false,())
abbrev zqu:Fun:=⟨135,(ch [(.ptr vV),tI]),(ch [.bool]),0,yc⟩
theorem zBV:Sq zqu:=ms1 (d:=false) (K:=0) Tryz.func135 (by kernel_rfl) (funext fun (x0,x1,())=>by kernel_rfl)
def zju:((List zu) × ((Option ((zu × Unit)→Option (Bool × Unit))) × Unit))→Option ((Option zfq) × Unit):=fun (x0,x1,()) =>
  bif Option.isNone x1 then some (none,()) else Option.bind (zbo (x0,())) fun q0=>some (some (q0.1,x1,()),())
abbrev zo8:Fun:=⟨338,(ch [(.sl zr),(.fn (ch [zr]) (ch [.bool]))]),(ch [(.ptr y8)]),0,zju⟩
theorem zzY:Sq zo8:=ms1 (d:=false) (K:=0) Tryz.func338 (by kernel_rfl) (funext fun (x0,x1,())=>by kernel_rfl)
def zgD:((Option zfq) × (Int × Unit))→Option (Bool × Unit):=fun (x0,x1,()) =>
  Option.bind (zfB (x0,())) fun q0=>bif q0.1 then bif decide (x1 ≥ 0) then Option.bind x0 fun q1=>bif decide (x1 < ((List.length q1.1):Int)) then Option.bind x0 fun q2=>Option.bind x0 fun q3=>inR x1 ((List.length q3.1):Int) (Option.bind q2.2.1 fun q4=>Option.bind (q4 (ix zK q3.1 x1,())) fun q5=>bif q5.1 then some (true,()) else some (false,())) else some (false,()) else some (false,()) else some (false,())
abbrev zqv:Fun:=⟨341,(ch [(.ptr y8),tI]),(ch [.bool]),0,zgD⟩
theorem zBW:Sq zqv:=ms1 (d:=false) (K:=0) Tryz.func341 (by kernel_rfl) (funext fun (x0,x1,())=>by kernel_rfl)
abbrev zg4:Type:=Int × (List Int) × Int × Int
abbrev zIV:zg4→St:=fun (v4,v9,v10,v11)=>St.mk [(4,.dat tU v4),(9,.dat (.sl tU) v9),(10,.dat tI v10),(11,.dat tI v11)] []
def zg5 (k0:zg4→Option (Int × (Int × Unit))):zg4→Option (Int × (Int × Unit)):=fun (v4,v9,v10,v11) =>
  bif decide (v11 < v10) then inR v11 ((List.length v9):Int) (Option.bind (zmq (v4,ix (0:Int) v9 v11,())) fun q0=>bif q0.2.1 != 0 then some (0,q0.2.1,()) else k0 (q0.1,v9,v10,wI (v11 + 1))) else some (v4,0,())
abbrev zwS (K:Nat):zg4→Option (Int × (Int × Unit)):=zg zg5 K
theorem zIW (K:Nat):∀ n,evV Es1 K Tryz.f211 0 (ch [tU,tI]) [1,1,0,1,0] [] zIV n = zg zg5 n:=zq fun n0 (v4,v9,v10,v11)=>by kernel_rfl
def ztU (L0:zg4→Option (Int × (Int × Unit))):((List Int) × Unit)→Option (Int × (Int × Unit)):=fun (x0,()) =>
  L0 (0,x0,((List.length x0):Int),0)
def zhB:((List Int) × Unit)→Option (Int × Int × Unit):=ztU (zwS K0)
abbrev zBX:Fun:=⟨211,(ch [(.sl tU)]),(ch [tU,tI]),0,zhB⟩
theorem zNq:Sq zBX:=ml1 (d:=false) (S:=fun K=>ztU (zwS K)) Tryz.func211 (by kernel_rfl) (fun K=>tr1 (T:=ztU) (zIW K K) fun (x0,())=>by kernel_rfl) rfl
def zky:((List zh) × ((Option ((zh × Unit)→Option (Bool × Unit))) × Unit))→Option ((Option zcr) × Unit):=fun (x0,x1,()) =>
  bif Option.isNone x1 then some (none,()) else Option.bind (zar (x0,())) fun q0=>some (some (q0.1,x1,()),())
abbrev zqw:Fun:=⟨228,(ch [(.sl zi),(.fn (ch [zi]) (ch [.bool]))]),(ch [(.ptr yn)]),0,zky⟩
theorem zBY:Sq zqw:=ms1 (d:=false) (K:=0) Tryz.func228 (by kernel_rfl) (funext fun (x0,x1,())=>by kernel_rfl)
def zfG:((Option zcr) × Unit)→Option (Int × (Int × Unit)):=fun (x0,()) =>
  Option.bind (zcy (x0,())) fun q0=>bif q0.1 then Option.bind x0 fun q1=>Option.bind (yD (q1.1,some fun z=>zmX (z.1,some x0,()),())) fun q2=>bif decide (q2.1 < 0) then some (0,8,()) else some (q2.1,0,()) else some (0,11,())
abbrev zo9:Fun:=⟨230,(ch [(.ptr yn)]),(ch [tI,tI]),0,zfG⟩
theorem zzZ:Sq zo9:=ms1 (d:=false) (K:=0) Tryz.func230 (by kernel_rfl) (funext fun (x0,())=>by kernel_rfl)
def zba:((Option zcr) × (Int × (zh × Unit)))→Option ((List zh) × (Int × Unit)):=fun (x0,x1,x2,()) =>
  Option.bind (zcy (x0,())) fun q0=>bif q0.1 then bif decide (x1 < 0) then some ([],1,()) else Option.bind x0 fun q1=>bif decide (x1 ≥ ((List.length q1.1):Int)) then some ([],1,()) else Option.bind x0 fun q2=>Option.bind (zar (q2.1,())) fun q3=>inR x1 ((List.length q3.1):Int) (some (List.set q3.1 (Int.toNat x1) x2,0,())) else some ([],11,())
abbrev zsA:Fun:=⟨159,(ch [(.ptr yn),tI,zi]),(ch [(.sl zi),tI]),0,zba⟩
theorem zD3:Sq zsA:=ms1 (d:=false) (K:=0) Tryz.func159 (by kernel_rfl) (funext fun (x0,x1,x2,())=>by kernel_rfl)
def zhC:((Option zcr) × (Int × Unit))→Option (Bool × Unit):=fun (x0,x1,()) =>
  Option.bind (zcy (x0,())) fun q0=>bif q0.1 then bif decide (x1 ≥ 0) then Option.bind x0 fun q1=>bif decide (x1 < ((List.length q1.1):Int)) then Option.bind x0 fun q2=>Option.bind x0 fun q3=>inR x1 ((List.length q3.1):Int) (Option.bind q2.2.1 fun q4=>Option.bind (q4 (ix zj q3.1 x1,())) fun q5=>bif q5.1 then some (true,()) else some (false,())) else some (false,()) else some (false,()) else some (false,())
abbrev zsB:Fun:=⟨231,(ch [(.ptr yn),tI]),(ch [.bool]),0,zhC⟩
theorem zD4:Sq zsB:=ms1 (d:=false) (K:=0) Tryz.func231 (by kernel_rfl) (funext fun (x0,x1,())=>by kernel_rfl)
abbrev zbt:Type:=(List zC) × Int
abbrev zz0:zbt→St:=fun (v0,v3)=>St.mk [(0,.dat (.sl zt) v0),(3,.dat tI v3)] []
def zfH (k0:zbt→Option (Bool × Unit)):zbt→Option (Bool × Unit):=fun (v0,v3) =>
  bif decide (v3 < ((List.length v0):Int)) then inR v3 ((List.length v0):Int) (Option.bind (ziT (ix jh v0 v3,())) fun q0=>bif q0.1 then inR (wI (v3 - 1)) ((List.length v0):Int) (inR v3 ((List.length v0):Int) (Option.bind (zmr (List.getD v0 (Int.toNat (wI (v3 - 1))) (zd zt),ix jh v0 v3,())) fun q1=>bif decide (q1.1 ≥ 0) then some (false,()) else k0 (v0,wI (v3 + 1)))) else some (false,())) else some (true,())
abbrev zjv (K:Nat):zbt→Option (Bool × Unit):=zg zfH K
theorem zz1 (K:Nat):∀ n,evV Es1 K Tryz.f233 0 (ch [.bool]) [1,1,0,1,0] [] zz0 n = zg zfH n:=zq fun n0 (v0,v3)=>by kernel_rfl
def zhD (L0:zbt→Option (Bool × Unit)):((List zC) × Unit)→Option (Bool × Unit):=fun (x0,()) =>
  bif decide (((List.length x0):Int) < 1) then some (false,()) else bif decide (((List.length x0):Int) > 8) then some (false,()) else bif decide (0 < ((List.length x0):Int)) then bif !eqI zt (ix jh x0 0) (zd zt) then some (false,()) else L0 (x0,1) else none
def zhE:((List zC) × Unit)→Option (Bool × Unit):=zhD (zjv K0)
abbrev zsC:Fun:=⟨233,(ch [(.sl zt)]),(ch [.bool]),0,zhE⟩
theorem zD5:Sq zsC:=ml1 (d:=false) (S:=fun K=>zhD (zjv K)) Tryz.func233 (by kernel_rfl) (fun K=>tr1 (T:=zhD) (zz1 K K) fun (x0,())=>by kernel_rfl) rfl
abbrev zaj:Type:=(List qA) × Int × Int
abbrev zm1:zaj→St:=fun (v0,v3,v4)=>St.mk [(0,.dat (.sl qD) v0),(3,.dat tI v3),(4,.dat tI v4)] []
abbrev jV:Type:=(List qA) × Int
abbrev zm2:jV→St:=fun (v0,v3)=>St.mk [(0,.dat (.sl qD) v0),(3,.dat tI v3)] []
def zcJ (k0:jV→Option (Bool × Unit)) (k1:zaj→Option (Bool × Unit)):zaj→Option (Bool × Unit):=fun (v0,v3,v4) =>
  bif decide (v4 < v3) then inR v4 ((List.length v0):Int) (inR v3 ((List.length v0):Int) (bif ByteArray.toList (ix qQ v0 v4).1 == ByteArray.toList (ix qQ v0 v3).1 then some (false,()) else k1 (v0,v3,wI (v4 + 1)))) else k0 (v0,wI (v3 + 1))
abbrev zcK (K:Nat) (k0:jV→Option (Bool × Unit)):zaj→Option (Bool × Unit):=zg (fun k1=>zcJ k0 k1) K
theorem zwT (K:Nat) (n0:Nat):∀ n,evV Es1 K Tryz.f234 0 (ch [.bool]) [1,1,0,1,0,0,1,0,0,1,1,0] [n0] zm1 n = zg (fun k1=>zcJ (evV Es1 K Tryz.f234 0 (ch [.bool]) [1,1,0,1,0] [] zm2 n0) k1) n:=zq fun n1 (v0,v3,v4)=>by kernel_rfl
def zak (L1:zaj→Option (Bool × Unit)) (k0:jV→Option (Bool × Unit)):jV→Option (Bool × Unit):=fun (v0,v3) =>
  bif decide (v3 < ((List.length v0):Int)) then inR v3 ((List.length v0):Int) (Option.bind (zH ((ix qQ v0 v3).1,())) fun q0=>bif q0.1 then inR v3 ((List.length v0):Int) (Option.bind (zH ((ix qQ v0 v3).2.1,())) fun q1=>bif q1.1 then inR v3 ((List.length v0):Int) (bif decide ((ix qQ v0 v3).2.2.1 < 0) then some (false,()) else inR v3 ((List.length v0):Int) (bif decide ((ix qQ v0 v3).2.2.1 > 3) then some (false,()) else L1 (v0,v3,0))) else some (false,())) else some (false,())) else some (true,())
abbrev zg6 (K:Nat):jV→Option (Bool × Unit):=zg (fun k0=>zak (zcK K k0) k0) K
theorem zwU (K:Nat):∀ n,evV Es1 K Tryz.f234 0 (ch [.bool]) [1,1,0,1,0] [] zm2 n = zg (fun k0=>zak (zcK K k0) k0) n:=qu (B:=fun L1 k0=>zak L1 k0) (V1:=fun n0=>evV Es1 K Tryz.f234 0 (ch [.bool]) [1,1,0,1,0,0,1,0,0,1,1,0] [n0] zm1 K) (W1:=fun k0=>(zcK K k0)) (fun n0=>zwT K n0 K) fun n0 (v0,v3)=>by kernel_rfl
def zfI (L0:jV→Option (Bool × Unit)):((List qA) × Unit)→Option (Bool × Unit):=fun (x0,()) =>
  bif decide (((List.length x0):Int) < 1) then some (false,()) else bif decide (((List.length x0):Int) > 8) then some (false,()) else L0 (x0,0)
def zfJ:((List qA) × Unit)→Option (Bool × Unit):=zfI (zg6 K0)
abbrev zpa:Fun:=⟨234,(ch [(.sl qD)]),(ch [.bool]),0,zfJ⟩
theorem zz2:Sq zpa:=ml1 (d:=false) (S:=fun K=>zfI (zg6 K)) Tryz.func234 (by kernel_rfl) (fun K=>tr1 (T:=zfI) (zwU K K) fun (x0,())=>by kernel_rfl) rfl
abbrev zbu:Type:=(List zE) × (List zC) × Int × Int
abbrev zpb:zbu→St:=fun (v0,v1,v8,v9)=>St.mk [(0,.dat (.sl jq) v0),(1,.dat (.sl zt) v1),(8,.dat tI v8),(9,.dat tI v9)] []
abbrev vv:Type:=(List zE) × (List zC) × Int
abbrev zjw:vv→St:=fun (v0,v1,v8)=>St.mk [(0,.dat (.sl jq) v0),(1,.dat (.sl zt) v1),(8,.dat tI v8)] []
abbrev zbv:Type:=(List zE) × (List zC) × Int × Int
abbrev zz3:zbv→St:=fun (v0,v1,v2,v7)=>St.mk [(0,.dat (.sl jq) v0),(1,.dat (.sl zt) v1),(2,.dat tI v2),(7,.dat tI v7)] []
def yU (k1:vv→Option (Bool × Unit)) (k2:zbu→Option (Bool × Unit)):zbu→Option (Bool × Unit):=fun (v0,v1,v8,v9) =>
  bif decide (v9 < 64) then inR v8 ((List.length v1):Int) (Option.bind (zgh (ix jh v1 v8,v9,())) fun q4=>bif q4.1 then Option.bind (zrz (v0,v9,())) fun q5=>bif q5.1 then k2 (v0,v1,v8,wI (v9 + 1)) else some (false,()) else k2 (v0,v1,v8,wI (v9 + 1))) else k1 (v0,v1,wI (v8 + 1))
abbrev zjx (K:Nat) (k1:vv→Option (Bool × Unit)):zbu→Option (Bool × Unit):=zg (fun k2=>yU k1 k2) K
theorem zz4 (K:Nat) (n1:Nat):∀ n,evV Es1 K Tryz.f235 0 (ch [.bool]) [1,1,1,0,1,0,0,1,0,0,1,0] [n1] zpb n = zg (fun k2=>yU (evV Es1 K Tryz.f235 0 (ch [.bool]) [1,1,1,0,1,0] [] zjw n1) k2) n:=zq fun n2 (v0,v1,v8,v9)=>by kernel_rfl
def zbw (L2:zbu→Option (Bool × Unit)) (k1:vv→Option (Bool × Unit)):vv→Option (Bool × Unit):=fun (v0,v1,v8) =>
  bif decide (v8 < ((List.length v1):Int)) then L2 (v0,v1,v8,0) else some (true,())
abbrev zfK (K:Nat):vv→Option (Bool × Unit):=zg (fun k1=>zbw (zjx K k1) k1) K
theorem zz5 (K:Nat):∀ n,evV Es1 K Tryz.f235 0 (ch [.bool]) [1,1,1,0,1,0] [] zjw n = zg (fun k1=>zbw (zjx K k1) k1) n:=qu (B:=fun L2 k1=>zbw L2 k1) (V1:=fun n1=>evV Es1 K Tryz.f235 0 (ch [.bool]) [1,1,1,0,1,0,0,1,0,0,1,0] [n1] zpb K) (W1:=fun k1=>(zjx K k1)) (fun n1=>zz4 K n1 K) fun n1 (v0,v1,v8)=>by kernel_rfl
def zbx (L1:vv→Option (Bool × Unit)) (k0:zbv→Option (Bool × Unit)):zbv→Option (Bool × Unit):=fun (v0,v1,v2,v7) =>
  bif decide (v7 < ((List.length v0):Int)) then inR v7 ((List.length v0):Int) (bif decide ((ix qB v0 v7).1 < 0) then some (false,()) else inR v7 ((List.length v0):Int) (bif decide ((ix qB v0 v7).1 > 63) then some (false,()) else inR v7 ((List.length v0):Int) (bif decide ((ix qB v0 v7).2.1 < 0) then some (false,()) else inR v7 ((List.length v0):Int) (bif decide ((ix qB v0 v7).2.1 ≥ v2) then some (false,()) else bif decide (v7 > 0) then inR (wI (v7 - 1)) ((List.length v0):Int) (inR v7 ((List.length v0):Int) (bif decide ((List.getD v0 (Int.toNat (wI (v7 - 1))) (zd jq)).1 ≥ (ix qB v0 v7).1) then some (false,()) else inR v7 ((List.length v0):Int) (Option.bind (zg2 ((ix qB v0 v7).1,())) fun q0=>Option.bind (ziV (v1,q0.1,())) fun q1=>bif decide (q1.1 < 0) then some (false,()) else k0 (v0,v1,v2,wI (v7 + 1))))) else inR v7 ((List.length v0):Int) (Option.bind (zg2 ((ix qB v0 v7).1,())) fun q2=>Option.bind (ziV (v1,q2.1,())) fun q3=>bif decide (q3.1 < 0) then some (false,()) else k0 (v0,v1,v2,wI (v7 + 1))))))) else L1 (v0,v1,0)
abbrev zjy (K:Nat):zbv→Option (Bool × Unit):=zg (fun k0=>zbx (zfK K) k0) K
theorem zz6 (K:Nat):∀ n,evV Es1 K Tryz.f235 0 (ch [.bool]) [1,1,0,1,0] [] zz3 n = zg (fun k0=>zbx (zfK K) k0) n:=qu (B:=fun L1 k0=>zbx L1 k0) (V1:=fun n0=>evV Es1 K Tryz.f235 0 (ch [.bool]) [1,1,1,0,1,0] [] zjw K) (W1:=fun k0=>(zfK K)) (fun n0=>zz5 K K) fun n0 (v0,v1,v2,v7)=>by kernel_rfl
def zhF (L0:zbv→Option (Bool × Unit)):((List zE) × ((List zC) × (Int × Unit)))→Option (Bool × Unit):=fun (x0,x1,x2,()) =>
  bif decide (((List.length x0):Int) > 8) then some (false,()) else L0 (x0,x1,x2,0)
def zhG:((List zE) × (List zC) × Int × Unit)→Option (Bool × Unit):=zhF (zjy K0)
abbrev zsD:Fun:=⟨235,(ch [(.sl jq),(.sl zt),tI]),(ch [.bool]),0,zhG⟩
theorem zD6:Sq zsD:=ml1 (d:=false) (S:=fun K=>zhF (zjy K)) Tryz.func235 (by kernel_rfl) (fun K=>tr1 (T:=zhF) (zz6 K K) fun (x0,x1,x2,())=>by kernel_rfl) rfl
abbrev zby:Type:=(List zbn) × Int × Int
abbrev zz7:zby→St:=fun (v0,v3,v4)=>St.mk [(0,.dat (.sl zcp) v0),(3,.dat tU v3),(4,.dat tI v4)] []
def yV (k0:zby→Option (Bool × Unit)):zby→Option (Bool × Unit):=fun (v0,v3,v4) =>
  bif decide (v4 < ((List.length v0):Int)) then inR v4 ((List.length v0):Int) (Option.bind (yp ((ix qt v0 v4).1,())) fun q0=>bif q0.1 then Option.bind (yp ((ix qt v0 v4).2.1,())) fun q1=>bif q1.1 then Option.bind (yp ((ix qt v0 v4).2.2.1,())) fun q2=>bif q2.1 then Option.bind (yp ((ix qt v0 v4).2.2.2.1,())) fun q3=>bif q3.1 then Option.bind (yp ((ix qt v0 v4).2.2.2.2.1,())) fun q4=>bif q4.1 then bif decide ((ix qt v0 v4).2.2.2.2.2.1 > v3) then some (false,()) else k0 (v0,wU (v3 - (ix qt v0 v4).2.2.2.2.2.1),wI (v4 + 1)) else some (false,()) else some (false,()) else some (false,()) else some (false,()) else some (false,())) else bif decide (((List.length v0):Int) > 0) then bif decide (0 < ((List.length v0):Int)) then bif decide ((ix qt v0 0).1 > 0) then some (true,()) else some (false,()) else none else some (false,())
abbrev zpc (K:Nat):zby→Option (Bool × Unit):=zg yV K
theorem zz8 (K:Nat):∀ n,evV Es1 K Tryz.f236 0 (ch [.bool]) [1,1,0,1,0] [] zz7 n = zg yV n:=zq fun n0 (v0,v3,v4)=>by kernel_rfl
def zlZ (L0:zby→Option (Bool × Unit)):((List zbn) × Unit)→Option (Bool × Unit):=fun (x0,()) =>
  L0 (x0,4611686018427387904,0)
def zl0:((List zbn) × Unit)→Option (Bool × Unit):=zlZ (zpc K0)
abbrev zsE:Fun:=⟨236,(ch [(.sl zcp)]),(ch [.bool]),0,zl0⟩
theorem zD7:Sq zsE:=ml1 (d:=false) (S:=fun K=>zlZ (zpc K)) Tryz.func236 (by kernel_rfl) (fun K=>tr1 (T:=zlZ) (zz8 K K) fun (x0,())=>by kernel_rfl) rfl
def zg7:(Int × (Int × (Int × Unit)))→Option (Int × (Int × Unit)):=fun (x0,x1,x2,()) =>
  bif decide (x0 < 1) then some (0,1,()) else bif decide (x0 > 2) then some (0,1,()) else bif x1 == 0 then some (0,1,()) else bif x2 == 0 then some (0,1,()) else Option.bind (ziY (x1,x2,())) fun q0=>bif q0.2.1 == 0 then bif x0 == 2 then some (x1,q0.2.1,()) else some (q0.1,q0.2.1,()) else some (q0.1,q0.2.1,())
abbrev zwV:Fun:=⟨324,(ch [tI,tU,tU]),(ch [tU,tI]),0,zg7⟩
theorem zIX:Sq zwV:=ms1 (d:=false) (K:=0) Tryz.func324 (by kernel_rfl) (funext fun (x0,x1,x2,())=>by kernel_rfl)
abbrev zcL:Type:=(List qV) × Int
abbrev zBZ:zcL→St:=fun (v0,v3)=>St.mk [(0,.dat (.sl qk) v0),(3,.dat tI v3)] []
def zcM (k0:zcL→Option (Bool × Unit)):zcL→Option (Bool × Unit):=fun (v0,v3) =>
  bif decide (v3 < ((List.length v0):Int)) then inR v3 ((List.length v0):Int) (bif (ix zhs v0 v3).1 then inR v3 ((List.length v0):Int) (Option.bind (zH ((ix zhs v0 v3).2.1,())) fun q0=>bif q0.1 then inR v3 ((List.length v0):Int) (bif (ix zhs v0 v3).1 then k0 (v0,wI (v3 + 1)) else inR v3 ((List.length v0):Int) (bif !ByteArray.toList (ix zhs v0 v3).2.1 == ByteArray.toList (ByteArray.mk #[]) then some (false,()) else k0 (v0,wI (v3 + 1)))) else some (false,())) else inR v3 ((List.length v0):Int) (Option.bind (zH ((ix zhs v0 v3).2.1,())) fun q1=>bif q1.1 then some (false,()) else inR v3 ((List.length v0):Int) (bif (ix zhs v0 v3).1 then k0 (v0,wI (v3 + 1)) else inR v3 ((List.length v0):Int) (bif !ByteArray.toList (ix zhs v0 v3).2.1 == ByteArray.toList (ByteArray.mk #[]) then some (false,()) else k0 (v0,wI (v3 + 1)))))) else some (true,())
abbrev zqx (K:Nat):zcL→Option (Bool × Unit):=zg zcM K
theorem zB0 (K:Nat):∀ n,evV Es1 K Tryz.f241 0 (ch [.bool]) [1,0,1,0] [] zBZ n = zg zcM n:=zq fun n0 (v0,v3)=>by kernel_rfl
def znh (L0:zcL→Option (Bool × Unit)):((List qV) × Unit)→Option (Bool × Unit):=fun (x0,()) =>
  L0 (x0,0)
def zni:((List qV) × Unit)→Option (Bool × Unit):=znh (zqx K0)
abbrev zuF:Fun:=⟨241,(ch [(.sl qk)]),(ch [.bool]),0,zni⟩
theorem zGh:Sq zuF:=ml1 (d:=false) (S:=fun K=>znh (zqx K)) Tryz.func241 (by kernel_rfl) (fun K=>tr1 (T:=znh) (zB0 K K) fun (x0,())=>by kernel_rfl) rfl
abbrev zcN:Type:=(List qe) × Int × Int × qe
abbrev zqy:zcN→St:=fun (v0,v3,v5,o0)=>St.mk [(0,.dat (.sl zU) v0),(3,.dat tI v3),(4,.bp 0 []),(5,.dat tI v5)] [.bx (.dat zU o0) false]
abbrev yd:Type:=(List qe) × Int
abbrev zqz:yd→St:=fun (v0,v3)=>St.mk [(0,.dat (.sl zU) v0),(3,.dat tI v3)] []
def zcO (k0:yd→Option (Bool × Unit)) (k1:zcN→Option (Bool × Unit)):zcN→Option (Bool × Unit):=fun (v0,v3,v5,o0) =>
  bif decide (v5 < v3) then bif o0.1 then inR v5 ((List.length v0):Int) (bif (ix qh v0 v5).1 then inR v5 ((List.length v0):Int) (bif eqI zv (ix qh v0 v5).2.1 o0.2.1 then inR v5 ((List.length v0):Int) (bif (ix qh v0 v5).2.2.2.1 == o0.2.2.2.1 then some (false,()) else k1 (v0,v3,wI (v5 + 1),o0)) else k1 (v0,v3,wI (v5 + 1),o0)) else k1 (v0,v3,wI (v5 + 1),o0)) else k1 (v0,v3,wI (v5 + 1),o0) else k0 (v0,wI (v3 + 1))
abbrev zcP (K:Nat) (k0:yd→Option (Bool × Unit)):zcN→Option (Bool × Unit):=zg (fun k1=>zcO k0 k1) K
theorem zB1 (K:Nat) (n0:Nat):∀ n,evV Es1 K Tryz.f242 0 (ch [.bool]) [1,0,1,0,0,1,0,0,1,1,1,0] [n0] zqy n = zg (fun k1=>zcO (evV Es1 K Tryz.f242 0 (ch [.bool]) [1,0,1,0] [] zqz n0) k1) n:=zq fun n1 (v0,v3,v5,o0)=>by kernel_rfl
def zau (L1:zcN→Option (Bool × Unit)) (k0:yd→Option (Bool × Unit)):yd→Option (Bool × Unit):=fun (v0,v3) =>
  bif decide (v3 < ((List.length v0):Int)) then inR v3 ((List.length v0):Int) (bif (ix qh v0 v3).1 then bif (ix qh v0 v3).1 then Option.bind (qx ((ix qh v0 v3).2.1,())) fun q0=>bif q0.1 then Option.bind (qx ((ix qh v0 v3).2.2.1,())) fun q1=>bif q1.1 then bif decide ((ix qh v0 v3).2.2.2.1 < 0) then some (false,()) else bif decide ((ix qh v0 v3).2.2.2.1 > 5) then some (false,()) else L1 (v0,v3,0,ix qh v0 v3) else some (false,()) else some (false,()) else L1 (v0,v3,0,ix qh v0 v3) else bif !eqI zU (ix qh v0 v3) (zd zU) then some (false,()) else bif (ix qh v0 v3).1 then Option.bind (qx ((ix qh v0 v3).2.1,())) fun q2=>bif q2.1 then Option.bind (qx ((ix qh v0 v3).2.2.1,())) fun q3=>bif q3.1 then bif decide ((ix qh v0 v3).2.2.2.1 < 0) then some (false,()) else bif decide ((ix qh v0 v3).2.2.2.1 > 5) then some (false,()) else L1 (v0,v3,0,ix qh v0 v3) else some (false,()) else some (false,()) else L1 (v0,v3,0,ix qh v0 v3)) else some (true,())
abbrev zqA (K:Nat):yd→Option (Bool × Unit):=zg (fun k0=>zau (zcP K k0) k0) K
theorem zB2 (K:Nat):∀ n,evV Es1 K Tryz.f242 0 (ch [.bool]) [1,0,1,0] [] zqz n = zg (fun k0=>zau (zcP K k0) k0) n:=qu (B:=fun L1 k0=>zau L1 k0) (V1:=fun n0=>evV Es1 K Tryz.f242 0 (ch [.bool]) [1,0,1,0,0,1,0,0,1,1,1,0] [n0] zqy K) (W1:=fun k0=>(zcP K k0)) (fun n0=>zB1 K n0 K) fun n0 (v0,v3)=>by kernel_rfl
def znj (L0:yd→Option (Bool × Unit)):((List qe) × Unit)→Option (Bool × Unit):=fun (x0,()) =>
  L0 (x0,0)
def znk:((List qe) × Unit)→Option (Bool × Unit):=znj (zqA K0)
abbrev zuG:Fun:=⟨242,(ch [(.sl zU)]),(ch [.bool]),0,znk⟩
theorem zGi:Sq zuG:=ml1 (d:=false) (S:=fun K=>znj (zqA K)) Tryz.func242 (by kernel_rfl) (fun K=>tr1 (T:=znj) (zB2 K K) fun (x0,())=>by kernel_rfl) rfl
end
end Go.Proofs.YtejbgeokcpillaaGreatDoor
end
