import Derived.Test.YtejbgeokcpillaaGreatDoorGtc
import Derived.Carry
import Derived.OpenShut
import Derived.Test.YtejbgeokcpillaaGreatDoorProg
set_option linter.unusedSimpArgs false
set_option linter.unusedVariables false
section
namespace Go.Ev
open Go.RowKit
section
variable {P:Program} {nt:Up} {F0 F G:FH} {w0 w:World} {st st':St} {m:MM} {a:Act} {E:Env} {v:AV} {u:Value}
def zrq (ids:Nat→Option Nat) (h:List Obj):(b:Ty)→Nat→b.I→List AV→Prop
  | .pair (.sl σ) b,i,x,v :: vs=>(∃ id,v = .ow id ∧ ids i = some id ∧ atN h id = some (mkO σ (bif σ.deep then some (List.length x.1) else none) x.1)) ∧ zrq ids h b (i + 1) x.2 vs
  | .pair a b,i,x,v :: vs=>v = .dat a x.1 ∧ zrq ids h b (i + 1) x.2 vs
  | .unit,_,_,[]=>True
  | _,_,_,_=>False
theorem zrq.ids {ids ids':Nat→Option Nat} {h:List Obj}:∀ {b:Ty} {i:Nat} {x:b.I} {vs:List AV},(∀ f,i ≤ f→ids' f = ids f)→zrq ids h b i x vs→zrq ids' h b i x vs:=by
  intro b
  induction b with
  | unit=>intro i x vs _ ho; cases vs <;> exact ho
  | pair t b _ ihb =>
    intro i x vs hi ho
    cases vs with
    | nil=>cases t <;> exact ho.elim
    | cons v vs =>
      cases t with
      | sl σ =>
        obtain ⟨⟨id,h1,h2,h3⟩,h4⟩:=ho
        exact ⟨⟨id,h1,by rw [hi i (Nat.le_refl _)]; exact h2,h3⟩,ihb (fun f hf=>hi f (by omega)) h4⟩
      | _=>exact ⟨ho.1,ihb (fun f hf=>hi f (by omega)) ho.2⟩
  | _=>intro i x vs _ ho; cases vs <;> exact ho.elim
theorem zrq.heap {ids:Nat→Option Nat} {h h':List Obj}:∀ {b:Ty} {i:Nat} {x:b.I} {vs:List AV},(∀ f id,ids f = some id→atN h' id = atN h id)→zrq ids h b i x vs→zrq ids h' b i x vs:=by
  intro b
  induction b with
  | unit=>intro i x vs _ ho; cases vs <;> exact ho
  | pair t b _ ihb =>
    intro i x vs hi ho
    cases vs with
    | nil=>cases t <;> exact ho.elim
    | cons v vs =>
      cases t with
      | sl σ =>
        obtain ⟨⟨id,h1,h2,h3⟩,h4⟩:=ho
        exact ⟨⟨id,h1,h2,by rw [hi _ _ h2]; exact h3⟩,ihb hi h4⟩
      | _=>exact ⟨ho.1,ihb hi ho.2⟩
  | _=>intro i x vs _ ho; cases vs <;> exact ho.elim
theorem zOy {h h0 h1:List Obj} (hdr:∀ i τ xs k,atN h i = some (.drow τ xs k)→τ.deep = true) {t:Ty} {x:t.I} (hz:zzm h0 t v = some (x,h1)) (l:zac h0 h) :
    (v = .dat t x ∧ t.dl = false ∧ h1 = h0) ∨ ∃ (σ:Ty) (xs:List σ.I) (id:Nat),(⟨t,x⟩:(τ:Ty) × τ.I) = ⟨.sl σ,xs⟩ ∧ v = .ow id ∧ atN h id = some (mkO σ (bif σ.deep then some (List.length xs) else none) xs) ∧ atN h0 id ≠ some .gone ∧ (∃ o,atN h0 id = some o) ∧ h1 = zm h0 id .gone:=by
  cases v with
  | dat τ y =>
    simp only [zzm] at hz
    obtain ⟨hdl,hz⟩:=qz hz
    split at hz
    · rename_i z hc
      cases hz
      obtain ⟨rfl,rfl⟩:=zQ hc
      exact .inl ⟨rfl,hdl,rfl⟩
    · cases hz
  | ow id =>
    simp only [zzm] at hz
    right
    split at hz
    · rename_i τ xs ho
      obtain ⟨hd,hz⟩:=qz hz
      split at hz
      · rename_i z hc
        cases hz
        obtain ⟨e,rfl⟩:=zQ hc
        subst e
        refine ⟨τ,xs,id,rfl,rfl,?_,(by rw [ho]; intro e; cases e),⟨_,ho⟩,rfl⟩
        rw [l.at ho (by intro e; cases e),hd]
        rfl
      · cases hz
    · rename_i τ xs n ho
      split at hz
      · rename_i z hc
        obtain ⟨hn,hz⟩:=za hz
        cases hz
        obtain ⟨e,rfl⟩:=zQ hc
        subst e
        have hat:=l.at ho (by intro e; cases e)
        refine ⟨τ,xs,id,rfl,rfl,?_,(by rw [ho]; intro e; cases e),⟨_,ho⟩,rfl⟩
        rw [hat,hdr _ _ _ _ hat,of_decide_eq_true hn]
        rfl
      · cases hz
    · cases hz
  | _=>cases hz
theorem zFv {h:List Obj} (hdr:∀ i τ xs k,atN h i = some (.drow τ xs k)→τ.deep = true):∀ {b:Ty} {vs:List AV} {x:b.I} {h0 h1:List Obj} (i:Nat),ownC b vs h0 = some (x,h1)→zac h0 h →
    ∃ ids:Nat→Option Nat,zrq ids h b i x vs ∧ zac h1 h ∧ (∀ f id,ids f = some id→i ≤ f ∧ atN h0 id ≠ some .gone ∧ atN h1 id = some .gone ∧ ∃ σ k xs,atN h id = some (mkO σ k xs)) ∧ (∀ j,atN h0 j = some .gone→atN h1 j = some .gone) ∧
      ∀ f f' id,ids f = some id→ids f' = some id→f = f':=by
  intro b
  induction b with
  | unit =>
    intro vs x h0 h1 i hz l
    cases vs with
    | nil=>cases hz; exact ⟨fun _=>none,trivial,l,fun f id e=>(by cases e),fun _ h=>h,fun f f' id e=>(by cases e)⟩
    | cons _ _=>cases hz
  | pair t b _ ihb =>
    intro vs x h0 h1 i hz l
    cases vs with
    | nil=>cases hz
    | cons v vs =>
      simp only [ownC] at hz
      split at hz
      · rename_i y h2 hy
        split at hz
        · rename_i ys h3 hys
          cases hz
          rcases zOy hdr hy l with ⟨rfl,hdl,rfl⟩ | ⟨σ,xs,id,e,rfl,hat,hng,⟨o,ho⟩,rfl⟩
          · obtain ⟨ids,g1,g2,g3,g4,g5⟩:=ihb (i + 1) hys l
            refine ⟨ids,?_,g2,fun f id hf=>⟨by have:=(g3 f id hf).1; omega,(g3 f id hf).2⟩,g4,g5⟩
            cases t with
            | sl σ=>cases hdl
            | _=>exact ⟨rfl,g1⟩
          · cases e
            obtain ⟨ids,g1,g2,g3,g4,g5⟩:=ihb (i + 1) hys (l.gone ho)
            have hid:atN (zm h0 id .gone) id = some .gone:=yP ho
            have hids:∀ f,i + 1 ≤ f→(if f = i then some id else ids f) = ids f:=fun f hf=>by rw [if_neg (by omega)]
            refine ⟨fun f=>if f = i then some id else ids f,⟨⟨id,rfl,if_pos rfl,hat⟩,g1.ids hids⟩,g2,fun f id' hf=>?_,fun j hj=>?_,fun f f' id' hf hf'=>?_⟩
            · by_cases e:f = i
              · simp only [e,if_true,Option.some.injEq] at hf
                subst hf
                exact ⟨by omega,hng,g4 _ hid,σ,_,_,hat⟩
              · simp only [e,if_false] at hf
                obtain ⟨k1,k2,k3,k4⟩:=g3 f id' hf
                refine ⟨by omega,fun hg=>k2 ?_,k3,k4⟩
                by_cases e2:id = id'
                · rw [← e2]; exact hid
                · rw [qs e2]; exact hg
            · refine g4 j ?_
              by_cases e2:id = j
              · rw [← e2]; exact hid
              · rw [qs e2]; exact hj
            · by_cases e:f = i <;> by_cases e':f' = i
              · omega
              · simp only [e,if_true,Option.some.injEq] at hf
                simp only [e',if_false] at hf'
                subst hf
                exact absurd hid (g3 f' _ hf').2.1
              · simp only [e,if_false] at hf
                simp only [e',if_true,Option.some.injEq] at hf'
                subst hf'
                exact absurd hid (g3 f _ hf).2.1
              · simp only [e,if_false] at hf
                simp only [e',if_false] at hf'
                exact g5 f f' id' hf hf'
        · cases hz
      · cases hz
  | _=>intro vs x h0 h1 i hz l; cases vs <;> cases hz
def MM.ofI (m:MM) (ids:Nat→Option Nat):Nat→Nat→List Nat→Option (Nat × Nat):=fun f=>match ids f with | some id=>m.d id | none=>fun _ _=>none
theorem MM.ofI_some {m:MM} {ids:Nat→Option Nat} {f j:Nat} {p:List Nat} {b:Nat × Nat} (h:m.ofI ids f j p = some b):∃ id,ids f = some id ∧ m.d id j p = some b:=by
  unfold MM.ofI at h
  cases hi:ids f with
  | none=>rw [hi] at h; cases h
  | some id=>rw [hi] at h; exact ⟨id,rfl,h⟩
theorem zMh (h:Rel P nt F0 w0 st m F a w) {ids:Nat→Option Nat}:∀ {b:Ty} {i:Nat} {x:b.I} {vs:List AV} {cs:List Value},zrq ids st.h b i x vs→z4 P st.h m F b vs cs→zj2 P F w (fun f=>(ids f).bind m) (m.ofI ids) b i x cs:=by
  intro b
  induction b with
  | unit =>
    intro i x vs cs ho hv
    cases vs with
    | nil=>exact hv
    | cons _ _=>exact hv.elim
  | pair t b _ ihb =>
    intro i x vs cs ho hv
    cases vs with
    | nil=>exact hv.elim
    | cons v vs =>
      obtain ⟨c,d,rfl,h1,h2⟩:=hv
      cases t with
      | sl σ =>
        obtain ⟨⟨id,rfl,hi,hat⟩,h4⟩:=ho
        obtain ⟨σ',u,e1,rfl,hs,_⟩:=h1
        cases e1
        refine ⟨u,d,rfl,⟨fun j p bk n hp=>?_,?_⟩,ihb h4 h2⟩
        · obtain ⟨id',hi',hp⟩:=MM.ofI_some hp
          rw [hi] at hi'; cases hi'
          obtain ⟨⟨o,g1,g2⟩,_⟩:=h.dok _ _ _ _ _ hp
          rw [hat] at g1
          cases g1
          cases hd:σ.deep with
          | false=>rw [hd] at g2; cases g2
          | true =>
            rw [hd] at g2
            simp only [cond_true,mkO,Obj.deepAt,decide_eq_true_eq] at g2
            exact ⟨rfl,g2⟩
        · have hq:=zM.owAt hat (zrZ _ _ _) hs
          show match (ids i).bind m with | some (b,n)=>_ | none=>_
          rw [hi,Option.bind_some]
          cases hmi:m id with
          | none =>
            rw [hmi] at hq
            exact ⟨zH0 (h.obs _ _ hat) hmi,hq.2⟩
          | some bn =>
            obtain ⟨bk,n⟩:=bn
            rw [hmi] at hq
            obtain ⟨cap,g1,g2,g3⟩:=hq
            refine ⟨cap,g1,g2,g3,?_⟩
            have:=ztH (h.obs _ _ hat) hmi
            have hd:m.ofI ids i = m.d id:=by unfold MM.ofI; rw [hi]
            rw [hd]
            exact this
      | _ =>
        obtain ⟨rfl,h4⟩:=ho
        exact ⟨c,d,rfl,h1.2,ihb h4 h2⟩
  | _=>intro i x vs cs ho; cases vs <;> exact ho.elim
theorem zMi (h:Rel P nt F0 w0 st m F a w) {ids:Nat→Option Nat} (hat:∀ f id,ids f = some id→∃ σ k xs,atN st.h id = some (mkO σ k xs)) (hinj:∀ f f' id,ids f = some id→ids f' = some id→f = f'):zHN F w w0.heap.size (fun f=>(ids f).bind m) (m.ofI ids):=by
  refine ⟨fun f b n hf=>?_,fun f j p b n hp=>?_,fun f f' b n n' hf hf'=>?_,fun f j p b n f' j' p' n' hp hp'=>?_,fun f b n f' j p n' hf hp=>?_⟩
  · obtain ⟨id,hi,hf⟩:=Option.bind_eq_some_iff.1 hf
    obtain ⟨σ,k,xs,ho⟩:=hat f id hi
    obtain ⟨el,cs,c,d,_,_,_,hF,_⟩:=ztH (h.obs _ _ ho) hf
    have:=h.rng _ _ _ hf
    exact ⟨this.2.1,this.2.2,hF⟩
  · obtain ⟨id,hi,hp⟩:=MM.ofI_some hp
    have:=h.dok _ _ _ _ _ hp
    exact ⟨this.2.1,this.2.2.1,this.2.2.2.1⟩
  · obtain ⟨id,hi,hf⟩:=Option.bind_eq_some_iff.1 hf
    obtain ⟨id',hi',hf'⟩:=Option.bind_eq_some_iff.1 hf'
    have:=h.inj _ _ _ _ _ hf hf'
    subst this
    exact hinj _ _ _ hi hi'
  · obtain ⟨id,hi,hp⟩:=MM.ofI_some hp
    obtain ⟨id',hi',hp'⟩:=MM.ofI_some hp'
    obtain ⟨rfl,e2,e3⟩:=h.din _ _ _ _ _ _ _ _ _ hp hp'
    exact ⟨hinj _ _ _ hi hi',e2,e3⟩
  · obtain ⟨id,hi,hf⟩:=Option.bind_eq_some_iff.1 hf
    obtain ⟨id',hi',hp⟩:=MM.ofI_some hp
    exact (h.dok _ _ _ _ _ hp).2.2.2.2 _ _ hf
theorem zPu {ρ:Type} {h:List Obj} {σ:Ty} {v:AV} {k:σ.I→List Obj→Option ρ}:zMA h σ v k = (zzm h σ v).bind fun p=>k p.1 p.2:=by
  unfold zMA zzm
  cases v with
  | dat τ x =>
    simp only
    cases τ.dl with
    | true=>rfl
    | false=>simp only [cond_false]; cases qU τ σ x <;> rfl
  | ow id =>
    simp only
    cases atN h id with
    | none=>rfl
    | some o =>
      cases o with
      | row τ xs f =>
        cases f with
        | true=>rfl
        | false =>
          simp only
          cases τ.deep with
          | true=>rfl
          | false=>simp only [cond_false]; cases qU (.sl τ) σ xs <;> rfl
      | drow τ xs n =>
        simp only
        cases qU (.sl τ) σ xs with
        | none=>rfl
        | some x=>simp only; cases decide (n = List.length xs) <;> rfl
      | _=>rfl
  | _=>rfl
theorem zIi {ρ:Type}:∀ {σ:Ty} {vs:List AV} {h:List Obj} {k:σ.I→List Obj→Option ρ},zAP σ vs h k = (ownC σ vs h).bind fun p=>k p.1 p.2:=by
  intro σ
  induction σ with
  | unit=>intro vs h k; cases vs <;> rfl
  | pair a b _ ihb =>
    intro vs h k
    cases vs with
    | nil=>rfl
    | cons v vs =>
      simp only [zAP,ownC,zPu,ihb]
      cases zzm h a v with
      | none=>rfl
      | some p =>
        obtain ⟨x,h1⟩:=p
        simp only [Option.bind_some]
        cases ownC b vs h1 <;> rfl
  | _=>intro vs h k; cases vs <;> rfl
theorem zOz {md:Nat} {r:Ty} {y:r.I} {vs:List AV} {us:List Value} (h:Rel P nt F0 w0 st m F a w) (hv:jG P st.h m F vs us) (hz:zMB md r vs st = some y) :
    ∃ F',F0.grow F' w0.heap.size ∧ F'.ok w ∧ zlR P F' w w0.heap.size md r y us:=by
  unfold zMB at hz
  split at hz
  ·
    rename_i b c v vs
    split at hz
    · rename_i x h1 hx
      split at hz
      · rename_i p hp
        cases hz
        obtain ⟨u,r,rfl,hv1,hv2⟩:=hv
        obtain ⟨id,k,rfl,hat,rfl,hkr⟩:∃ id k,v = .ow id ∧ atN st.h id = some (mkO b k x) ∧ h1 = zm st.h id .gone ∧ (k = none ∨ k = some 0):=by
          unfold zNV at hx
          split at hx
          · rename_i id
            split at hx
            · rename_i τ xs ho
              split at hx
              · rename_i z hc
                cases hx
                obtain ⟨e,rfl⟩:=zQ hc
                cases e
                exact ⟨id,none,rfl,ho,rfl,.inl rfl⟩
              · cases hx
            · rename_i τ xs n ho
              split at hx
              · rename_i z hc
                obtain ⟨hn,hx⟩:=za hx
                cases hx
                obtain ⟨e,rfl⟩:=zQ hc
                cases e
                have hn:n = 0:=of_decide_eq_true hn
                subst hn
                exact ⟨id,some 0,rfl,ho,rfl,.inr rfl⟩
              · cases hx
            · cases hx
          · cases hx
        obtain ⟨st2fr,st2h⟩:=st
        have l:zac (zm st2h id .gone) st2h:=(zac.refl st2h).gone hat
        obtain ⟨h',e1,e2,e3⟩:=zrp l (show jO false c vs ⟨st2fr,zm st2h id .gone⟩ = some (p.1,p.2) from hp)
        obtain ⟨m',F',g1,g2,g3⟩:=zge e1 h hv2
        have hat':atN h' id = some (mkO b k x):=by rw [(e3.2 id (yP hat)).2]; exact hat
        have hq:=zM.owAt hat' (zrZ _ _ _) (show zM P h' m' F' (.ow id) u from hv1.ext g3)
        refine ⟨F',g1.gro,g1.fok,?_⟩
        simp only [zlR]
        refine ⟨u,r,rfl,g2,?_⟩
        cases hmi:m' id with
        | none =>
          rw [hmi] at hq
          exact .inr ⟨zH0 (g1.obs _ _ hat') hmi,hq.2⟩
        | some bn =>
          obtain ⟨bk,n⟩:=bn
          rw [hmi] at hq
          obtain ⟨cap,k1,k2,k3⟩:=hq
          obtain ⟨el,cs,cc,d,f1,f2,f3,f4,f5⟩:=ztH (g1.obs _ _ hat') hmi
          refine .inl ⟨bk,cap,el,cs,cc,d,k3,k2,(g1.rng _ _ _ hmi).2.1,f1,f4,by rw [f2,k1],f3,?_⟩
          rcases hkr with rfl | rfl
          · exact f5
          · exact qc.toL (fun j x c _ _ hx=>by unfold DE at hx; rw [if_neg (by omega)] at hx; exact hx) (show qc (DE P F' w (m'.d id) b 0) 0 x cc from f5)
      · cases hz
    · cases hz
  ·
    rename_i b c c' vs us'
    obtain ⟨hbc,hz⟩:=za hz
    simp only [decide_eq_true_eq] at hbc
    rw [zIi] at hz
    obtain ⟨⟨x,h1⟩,hx,hz⟩:=Option.bind_eq_some_iff.1 hz
    · split at hz
      · rename_i p hp
        cases hz
        obtain ⟨u,r,rfl,hv1,hv2⟩:=hv
        obtain ⟨cs,rfl,hfs⟩:=(show zL P st.h m F (.fld c' vs) u from hv1)
        subst hbc
        obtain ⟨ids,k1,k2,k3,k4,k5⟩:=zFv (fun i τ xs k ho=>(h.drowk ho).2) 0 hx (zac.refl _)
        obtain ⟨st2fr,st2h⟩:=st
        obtain ⟨h',e1,e2,e3⟩:=zrp k2 (show jO false c us' ⟨st2fr,h1⟩ = some (p.1,p.2) from hp)
        obtain ⟨m',F',g1,g2,g3⟩:=zge e1 h hv2
        have hkeep:∀ f id,ids f = some id→atN h' id = atN st2h id:=fun f id hf=>(e3.2 id (k3 f id hf).2.2.1).2
        refine ⟨F',g1.gro,g1.fok,?_⟩
        simp only [zlR]
        refine ⟨.agg cs,r,cs,_,_,rfl,g2,rfl,zMh g1 (k1.heap hkeep) (hfs.ext g3),zMi g1 (fun f id hf=>?_) k5⟩
        obtain ⟨σ,k,xs,ho⟩:=(k3 f id hf).2.2.2
        exact ⟨σ,k,xs,by rw [hkeep f id hf]; exact ho⟩
      · cases hz
  ·
    rename_i b c v us'
    rw [zIi] at hz
    obtain ⟨⟨x,h1⟩,hx,hz⟩:=Option.bind_eq_some_iff.1 hz
    · split at hz
      · rename_i p hp
        cases hz
        obtain ⟨u,r,rfl,hv1,hv2⟩:=hv
        obtain ⟨ids,k1,k2,k3,k4,k5⟩:=zFv (fun i τ xs k ho=>(h.drowk ho).2) 0 hx (zac.refl _)
        obtain ⟨⟨id,rfl,hi0,hat0⟩,_⟩:=(show (∃ id,v = .ow id ∧ ids 0 = some id ∧ atN st.h id = some (mkO b _ x.1)) ∧ _ from k1)
        have hT:zbi st.h id = some b:=by rw [zxR hat0,zrZ]; rfl
        have hfs:z4 P st.h m F (.pair (.sl b) .unit) [.ow id] [u]:=⟨[u],[],rfl,vQ.ofRow hT (show zM P st.h m F (.ow id) u from hv1),rfl⟩
        obtain ⟨st2fr,st2h⟩:=st
        obtain ⟨h',e1,e2,e3⟩:=zrp k2 (show jO false c us' ⟨st2fr,h1⟩ = some (p.1,p.2) from hp)
        obtain ⟨m',F',g1,g2,g3⟩:=zge e1 h hv2
        have hkeep:∀ f id,ids f = some id→atN h' id = atN st2h id:=fun f id hf=>(e3.2 id (k3 f id hf).2.2.1).2
        refine ⟨F',g1.gro,g1.fok,?_⟩
        simp only [zlR]
        refine ⟨u,r,_,_,rfl,g2,zMh g1 (k1.heap hkeep) (hfs.ext g3),zMi g1 (fun f id hf=>?_) k5⟩
        obtain ⟨σ,k,xs,ho⟩:=(k3 f id hf).2.2.2
        exact ⟨σ,k,xs,by rw [hkeep f id hf]; exact ho⟩
      · cases hz
  ·
    split at hz
    · rename_i p hp
      cases hz
      obtain ⟨m',F',g1,g2,_⟩:=zge (x:=p.1) (st':=p.2) hp h hv
      exact ⟨F',g1.gro,g1.fok,g2⟩
    · cases hz
  · cases hz
theorem zOA (hm:P.follows .mixedOrders = true) (hE:EnvOk P G E) {fi:FuncId} {f:Func} (hf:P.funcs[fi]? = some f) {K md:Nat} {a r:Ty} {x:a.I} {y:r.I} (he:evF E K f md a r x = some y)
    {F0:FH} {w:World} {vs:List Value} (hG:G.le F0) (hk:F0.ok w) (hr:RepA P F0 a x vs) :
    Calls P fi vs.toArray w fun e w'=>∃ us F',e = .returned (ztt us) ∧ Below w.heap.size w w' ∧ F0.grow F' w.heap.size ∧ F'.ok w' ∧ zlR P F' w' w.heap.size md r y us:=by
  unfold evF at he
  cases hb:f.body with
  | none=>rw [hb] at he; cases he
  | some c =>
    rw [hb] at he
    simp only at he
    have hE':EnvOk P G { E with nt:=f.ntmps }:=⟨hE.types,hE.funs,hE.glob,hE.ext,hE.hnd⟩
    refine calls_of_wp hf hb ?_
    refine zMg (nt:=⟨f.ntmps,[],F0⟩) (F0:=F0) (w0:=w) (.inr rfl) hm hE' hG rfl c (r:=y) ?_ ⟨_,F0,Rel.enter hk hr f.ntmps⟩ he
    rintro e st a' w' ⟨m,F,h⟩ hfin
    have hdone:(cond ((f.results.toList.map (zdY { E with nt:=f.ntmps } st)).all Option.isSome) (zMB md r ((f.results.toList.map (zdY { E with nt:=f.ntmps } st)).filterMap id) st) none) = some y →
        a'.defers = [] ∧ ∃ v,(results f a'.tmps).run P w' = .ok v w' ∧ ∃ us F',Ending.returned v = .returned (ztt us) ∧ Below w.heap.size w w' ∧ F0.grow F' w.heap.size ∧ F'.ok w' ∧ zlR P F' w' w.heap.size md r y us:=by
      intro hfin
      obtain ⟨h1,h2⟩:=za hfin
      obtain ⟨us,h3,h4⟩:=zyD hE' h (znf h1)
      obtain ⟨F',g1,g2,g3⟩:=zOz h h4 h2
      exact ⟨h.dfr,_,h3,us,F',rfl,h.bel,g1,g2,g3⟩
    cases e with
    | normal=>exact hdone hfin
    | ret=>exact hdone hfin
    | exit id=>cases hfin
theorem jG.one {h:List Obj}:∀ {vs:List AV} {us:List Value},jG P h m F vs us→vs.all AV.one = true→zmp P h m F vs us
  | [],_,e,_=>e
  | v :: vs,_,⟨u,r,e,h1,h2⟩,ho=>by
    simp only [List.all_cons,Bool.and_eq_true] at ho
    rw [zl.eq1 (by rintro ws rfl; cases ho.1)] at h1
    exact ⟨u,r,e,h1,jG.one h2 ho.2⟩
theorem zBo:∀ {vs:List AV} {us:List Value} {h:List Obj} {m:MM} {F:FH} {i t:Nat} {v:AV},look (slots vs i) t = some v→jG P h m F vs us→i ≤ t ∧ ∃ u,us[t - i]? = some u ∧ zl P h m F v u
  | [],_,_,_,_,_,_,_,h,_=>by simp [slots,look] at h
  | x :: vs,_,hp,m,F,i,t,v,h,⟨u,r,rfl,h1,h2⟩=>by
    simp only [slots] at h
    by_cases e:i = t
    · subst e
      simp only [look,beq_self,cond_true,Option.some.injEq] at h
      subst h
      exact ⟨Nat.le_refl _,u,by simp,h1⟩
    · simp only [look,zbk e,cond_false] at h
      obtain ⟨g1,u',g2,g3⟩:=zBo h h2
      refine ⟨by omega,u',?_,g3⟩
      rw [show t - i = (t - (i + 1)) + 1 by omega,List.getElem?_cons_succ]
      exact g2
theorem zP9 (hm:P.follows .mixedOrders = true) (hE:EnvOk P G E) {fi:FuncId} {f:Func} (hf:P.funcs[fi]? = some f) (hn:(f.name == "runtime.NumGoroutine") = false) (hb':f.body.isNone = false):zQw P G fi (zQF E f):=by
  refine ⟨⟨f,hf,hn,hb'⟩,fun args h h' v he nt F0 w0 fr m F a w vs hG hr hv=>?_⟩
  change ztO E f (AV × List Obj) args h (fun v h=>some (v,h)) = some (v,h') at he
  unfold ztO at he
  cases hb:f.body with
  | none=>rw [hb] at he; cases he
  | some c =>
    rw [hb] at he
    simp only at he
    have hE':EnvOk P G (inE E f):=⟨hE.types,hE.funs,hE.glob,hE.ext,hE.hnd⟩
    refine calls_of_wp hf hb ?_
    let up:List (AV × Value):=fr.filterMap (fun p=>(look fr p.1).map fun v=>(v,a.tmps.getD p.1 undef)) ++ nt.up
    have hup:∀ v u,(v,u) ∈ up→zl P h m F v u:=by
      intro v u hv
      rcases List.mem_append.1 hv with hv | hv
      · obtain ⟨p,hp,e⟩:=List.mem_filterMap.1 hv
        obtain ⟨v',h1,h2⟩:=Option.map_eq_some_iff.1 e
        cases h2
        exact hr.fr _ _ h1
      · exact hr.up v u hv
    have hst:Rel P ⟨f.ntmps,up,F⟩ F0 w0 ⟨slots args 0,h⟩ m F { tmps:=vs.toArray ++ Array.replicate (f.ntmps - vs.toArray.size) undef,defers:=[] } w:=by
      refine ⟨by simp; omega,fun t v ht=>?_,hup,.refl F,hr.obs,hr.inj,hr.rng,hr.dok,hr.din,hr.fok,hr.gro,hr.bel,rfl⟩
      obtain ⟨_,u,h2,h3⟩:=zBo ht hv
      rw [Nat.sub_zero] at h2
      have hlt:=(List.getElem?_eq_some_iff.1 h2).1
      have:(vs.toArray ++ Array.replicate (f.ntmps - vs.toArray.size) undef).getD t undef = u:=by
        rw [Array.getD_eq_getD_getElem?,Array.getElem?_append_left (by simpa using hlt)]
        simp [h2]
      rw [this]
      exact h3
    refine zMg (nt:=⟨f.ntmps,up,F⟩) (F0:=F0) (w0:=w0) (.inl rfl) hm hE' hG rfl c (r:=(v,h')) ?_ ⟨m,F,hst⟩ he
    rintro e st a' w' ⟨m',F',h2⟩ hfin
    have hdone:(cond ((f.results.toList.map (zdY (inE E f) st)).all Option.isSome && ((f.results.toList.map (zdY (inE E f) st)).filterMap id).all AV.one) (some (unT ((f.results.toList.map (zdY (inE E f) st)).filterMap id),st.h)) none) = some (v,h') →
        a'.defers = [] ∧ ∃ v1,(results f a'.tmps).run P w' = .ok v1 w' ∧ ∃ u m' F',Ending.returned v1 = .returned u ∧ F.le F' ∧ Rel P nt F0 w0 ⟨fr,h'⟩ m' F' a w' ∧ zl P h' m' F' v u:=by
      intro hfin
      obtain ⟨g1,g2⟩:=za hfin
      rw [Bool.and_eq_true] at g1
      cases g2
      obtain ⟨us,g3,g4⟩:=zyD hE' h2 (znf g1.1)
      refine ⟨h2.dfr,_,g3,_,m',F',rfl,h2.lo,⟨hr.nt,fun t v ht=>?_,fun v u hv=>h2.up v u (List.mem_append.2 (.inr hv)),hr.lo.trans h2.lo,h2.obs,h2.inj,h2.rng,h2.dok,h2.din,h2.fok,h2.gro,h2.bel,hr.dfr⟩,zed (jG.one g4 g1.2)⟩
      have hmem:∀ (l:List (Nat × AV)),look l t = some v→∃ p ∈ l,p.1 = t:=by
        intro l
        induction l with
        | nil=>intro h; simp [look] at h
        | cons p l ih =>
          intro h
          obtain ⟨k,y⟩:=p
          simp only [look] at h
          cases hb:Nat.beq k t with
          | true=>exact ⟨(k,y),by simp,Nat.eq_of_beq_eq_true hb⟩
          | false=>rw [hb] at h; obtain ⟨p,hp,e⟩:=ih h; exact ⟨p,by simp [hp],e⟩
      obtain ⟨p,hp,rfl⟩:=hmem fr ht
      exact h2.up v _ (List.mem_append.2 (.inl (List.mem_filterMap.2 ⟨p,hp,by rw [ht]; rfl⟩)))
    cases e with
    | normal=>exact hdone hfin
    | ret=>exact hdone hfin
    | exit id=>cases hfin
end
end Go.Ev
end
section
namespace Go.Ev
open Go.RowKit Go.ChangeShapes
def InR:(τ:Ty)→τ.I→Prop
  | .int k,n=>(Lit.int k n).wf = true
  | .str,s=>ByteArray.size s ≤ maxLen
  | .pair a b,x=>InR a x.1 ∧ InR b x.2
  | .st a,x=>InR a x
  | .arr n a,xs=>List.length xs = n ∧ ∀ x ∈ (show List a.I from xs),InR a x
  | .sl a,xs=>List.length xs ≤ maxLen ∧ ∀ x ∈ (show List a.I from xs),InR a x
  | _,_=>True
def Ty.data:Ty→Bool
  | .bool | .int _ | .str | .unit=>true
  | .pair a b=>a.data && b.data
  | .st a=>a.data
  | .arr _ a=>a.data
  | .sl a=>a.data
  | _=>false
mutual
def dbk {H:Type}:DataW H→Nat
  | .slice elems _=>dbkAll elems + 1
  | .agg parts=>dbkAll parts + 1
  | _=>1
def dbkAll {H:Type}:List (DataW H)→Nat
  | []=>0
  | d :: r=>dbk d + dbkAll r
end
def bkI:(τ:Ty)→τ.I→Nat
  | .unit,_=>0
  | .pair a b,x=>bkI a x.1 + bkI b x.2
  | .st a,x=>bkI a x + 1
  | .arr _ a,xs=>(List.map (bkI a) xs).sum + 1
  | .sl a,xs=>(List.map (bkI a) xs).sum + 1
  | _,_=>1
theorem zx1 {H:Type} (d:DataW H):1 ≤ dbk d:=by cases d <;> simp [dbk]
section
variable {P:Program} {H:Type} {enc:TypeId × Value→H} {w:World} {base:Nat} {sp:Nat→Bool} {held:Bool}
theorem zIj {a:Addr} {j:Nat} {v:Value} (h:w.cell? (a.add j) = some v) (h0:a.spot = none ∨ j = 0):a.spot = none ∧ ∃ c el fz,w.heap[a.block]? = some (.cells c el fz) ∧ c[a.off + j]? = some v:=by
  have hs:a.spot = none:=by
    rcases h0 with h0 | rfl
    · exact h0
    · have:a.add 0 = a:=by unfold Addr.add; rfl
      rw [this] at h
      unfold World.cell? at h
      split at h
      · cases hsp:a.spot with
        | none=>rfl
        | some x=>rw [hsp] at h; simp at h
      · cases h
  refine ⟨hs,?_⟩
  rw [ztx hs] at h
  unfold World.cell? at h
  simp only at h
  split at h
  · rename_i c el fz hk
    exact ⟨c,el,fz,hk,by simpa using h⟩
  · cases h
theorem zIk {a:Addr} {n:Nat} {cs:List Value} (h:w.cells? base a n = some cs) (hn:0 < n):∃ c,FH.of w a.block = some c ∧ a.spot = none ∧ ∀ (j:Nat) (v:Value),cs[j]? = some v→c[a.off + j]? = some v:=by
  obtain ⟨hb,hl,hc⟩:=World.cells?_some h
  have h0:=hc 0 hn
  rw [List.getElem?_eq_getElem (by omega)] at h0
  obtain ⟨hs,c,el,fz,hk,_⟩:=zIj h0 (.inr rfl)
  refine ⟨c,by simp [FH.of,hk],hs,fun j v hv=>?_⟩
  have hj:=(List.getElem?_eq_some_iff.1 hv).1
  have:=hc j (by omega)
  rw [hv] at this
  obtain ⟨_,c',_,_,hk',h2⟩:=zIj this (.inl hs)
  rw [hk] at hk'
  cases hk'
  exact h2
theorem zMj {ad:Addr} {n:Nat} (hn:0 < n) {c:Array Value} (hs:ad.spot = none) (hc:FH.of w ad.block = some c):∀ (m i0:Nat) (css:List (List Value)),((List.range' i0 m).mapM fun i=>w.cells? base (ad.add (i * n)) n) = some css →
    ∀ (j:Nat) (v:Value),css.flatten[j]? = some v→c[ad.off + i0 * n + j]? = some v
  | 0,i0,css,h,j,v,hj=>by simp at h; subst h; simp at hj
  | m + 1,i0,css,h,j,v,hj=>by
    rw [List.range'_succ,List.mapM_cons] at h
    simp only [Option.bind_eq_bind,Option.bind_eq_some_iff,Option.pure_def,Option.some.injEq] at h
    obtain ⟨cs,h1,css',h2,rfl⟩:=h
    have hl:=(World.cells?_some h1).2.1
    obtain ⟨c',h3,_,h5⟩:=zIk h1 hn
    rw [ztx hs] at h3 h5
    simp only at h3 h5
    rw [hc] at h3
    cases h3
    rw [List.flatten_cons] at hj
    by_cases hjn:j < n
    · rw [List.getElem?_append_left (by omega)] at hj
      exact h5 j v hj
    · rw [List.getElem?_append_right (by omega),hl] at hj
      have:=zMj hn hs hc m (i0 + 1) css' h2 (j - n) v hj
      rw [show ad.off + i0 * n + j = ad.off + (i0 + 1) * n + (j - n) by rw [Nat.add_mul]; omega]
      exact this
theorem zzB {α:Type} {R:α→List Value→Prop} {f:Nat→Option (List Value)} {g:List Value→Option (DataW H × List MemPlace)} {I:α→Prop} {bk:α→Nat} (hg:∀ cs y,g cs = some y→∃ x,R x cs ∧ I x ∧ bk x ≤ dbk y.1) :
    ∀ (l:List Nat) (ys:List (DataW H × List MemPlace)),(l.mapM fun i=>(f i).bind g) = some ys→∃ (xs:List α) (css:List (List Value)),xs.length = l.length ∧ l.mapM f = some css ∧ zD R xs css.flatten ∧ (∀ x ∈ xs,I x) ∧ (xs.map bk).sum ≤ dbkAll (ys.map (·.1))
  | [],ys,h=>⟨[],[],rfl,rfl,rfl,by simp,Nat.zero_le _⟩
  | i :: l,ys,h=>by
    rw [List.mapM_cons] at h
    simp only [Option.bind_eq_bind,Option.bind_eq_some_iff,Option.pure_def,Option.some.injEq] at h
    obtain ⟨y,⟨cs,hcs,hy⟩,ys',h2,rfl⟩:=h
    obtain ⟨x,hx,hI,hk⟩:=hg cs y hy
    obtain ⟨xs,css,h3,h4,h5,h6,h7⟩:=zzB hg l ys' h2
    refine ⟨x :: xs,cs :: css,by simp [h3],?_,⟨cs,css.flatten,rfl,hx,h5⟩,?_,by simp only [List.map_cons,List.sum_cons,dbkAll]; omega⟩
    · rw [List.mapM_cons,hcs,h4]; rfl
    · intro z hz
      rcases List.mem_cons.1 hz with rfl | hz
      · exact hI
      · exact h6 z hz
theorem zr3 {cs:List Value} {n:Nat}:∀ (m i0:Nat) (css:List (List Value)),(i0 + m) * n ≤ cs.length→((List.range' i0 m).mapM fun i=>some ((cs.drop (i * n)).take n)) = some css→css.flatten = (cs.drop (i0 * n)).take (m * n)
  | 0,i0,css,_,h=>by simp at h; subst h; simp
  | m + 1,i0,css,hl,h=>by
    rw [List.range'_succ,List.mapM_cons] at h
    simp only [Option.bind_eq_bind,Option.bind_some,Option.bind_eq_some_iff,Option.pure_def,Option.some.injEq] at h
    obtain ⟨css',h2,rfl⟩:=h
    have:=zr3 m (i0 + 1) css' (by rw [show i0 + 1 + m = i0 + (m + 1) by omega]; exact hl) h2
    rw [List.flatten_cons,this,Nat.add_mul i0 1 n,Nat.one_mul,← List.drop_drop,show (m + 1) * n = n + m * n by rw [Nat.add_mul]; omega,List.take_add]
theorem zPv:∀ (τ:Ty),τ.data = true →
    (∀ (fuel:Nat) (t:TypeId) (cs:List Value) (x:DataW H × List MemPlace),τ.np = true→z7 P t τ→DataW.trod enc P w base sp held fuel t cs = some x→∃ y,Rep P (FH.of w) τ y cs ∧ InR τ y ∧ bkI τ y ≤ dbk x.1) ∧
    (∀ (fuel:Nat) (fs:List Field) (off:Nat) (cs:List Value) (xs:List (DataW H × List MemPlace)),(tyB P τ).2 fs off = true→(fs.mapM fun f=>DataW.trod enc P w base sp held fuel f.type ((cs.drop f.offset).take (P.cellsOf f.type))) = some xs→cs.length = off + nc τ→∃ y,Rep P (FH.of w) τ y (cs.drop off) ∧ InR τ y ∧ bkI τ y ≤ dbkAll (xs.map (·.1))):=by
  intro τ
  induction τ with
  | unit =>
    intro _
    refine ⟨fun fuel t cs x _ h=>(by cases h),fun fuel fs off cs xs h _ hl=>⟨(),?_,trivial,Nat.zero_le _⟩⟩
    show cs.drop off = []
    rw [List.drop_eq_nil_iff]
    simp only [nc] at hl
    omega
  | bool =>
    intro _
    refine ⟨fun fuel t cs x _ h hx=>?_,fun fuel fs off cs xs h=>(by cases h)⟩
    have hu:P.underlying t = some .bool:=by
      simp only [z7,tyB,Bool.and_eq_true] at h
      have:=h.2
      split at this
      · assumption
      · cases this
    cases fuel with
    | zero=>simp [DataW.trod] at hx
    | succ fuel =>
      unfold DataW.trod at hx
      rw [hu] at hx
      split at hx <;> first | (cases hx; done) | skip
      all_goals first | exact ⟨_,rfl,trivial,zx1 _⟩ | (rename_i hh; simp at hh)
  | int k =>
    intro _
    refine ⟨fun fuel t cs x _ h hx=>?_,fun fuel fs off cs xs h=>(by cases h)⟩
    have hu:P.underlying t = some (.int k):=by
      simp only [z7,tyB,Bool.and_eq_true] at h
      have:=h.2
      split at this
      · simp only [decide_eq_true_eq] at this; subst this; assumption
      · cases this
    cases fuel with
    | zero=>simp [DataW.trod] at hx
    | succ fuel =>
      unfold DataW.trod at hx
      rw [hu] at hx
      split at hx <;> first | (cases hx; done) | skip
      · rename_i hh; cases hh
      · rename_i k1 k2 n hh
        cases hh
        split at hx
        · rename_i hc; obtain ⟨rfl,hw⟩:=hc; exact ⟨n,rfl,hw,zx1 _⟩
        · cases hx
      all_goals (rename_i hh; simp at hh)
  | str =>
    intro _
    refine ⟨fun fuel t cs x _ h hx=>?_,fun fuel fs off cs xs h=>(by cases h)⟩
    have hu:P.underlying t = some .string:=by
      simp only [z7,tyB,Bool.and_eq_true] at h
      have:=h.2
      split at this
      · assumption
      · cases this
    cases fuel with
    | zero=>simp [DataW.trod] at hx
    | succ fuel =>
      unfold DataW.trod at hx
      rw [hu] at hx
      split at hx <;> first | (cases hx; done) | skip
      all_goals first
        | (rename_i hh; simp at hh; done)
        | (rename_i s hh; split at hx; · rename_i hc; exact ⟨s,rfl,hc,zx1 _⟩
           · cases hx)
        | skip
  | pair a b iha ihb =>
    intro hd
    simp only [Ty.data,Bool.and_eq_true] at hd
    refine ⟨fun fuel t cs x _ h hx=>?_,fun fuel fs off cs xs h hx hl=>?_⟩
    · rename_i hnp; cases hnp
    · cases fs with
      | nil=>cases h
      | cons f fs =>
        simp only [tyB,Bool.and_eq_true] at h
        obtain ⟨⟨⟨⟨h1,h2⟩,h3⟩,_⟩,h4⟩:=h
        obtain rfl:=Nat.eq_of_beq_eq_true h1
        obtain ⟨i,hi,hsz⟩:=z7.size h2 (Ty.np_spec h3.2)
        rw [List.mapM_cons] at hx
        simp only [Option.bind_eq_bind,Option.bind_eq_some_iff,Option.pure_def,Option.some.injEq] at hx
        obtain ⟨x1,hx1,xs2,hx2,rfl⟩:=hx
        have hcells:P.cellsOf f.type = nc a:=by unfold Program.cellsOf; rw [hi]; exact hsz
        rw [hcells] at hx1
        obtain ⟨y1,g1,g2,b1⟩:=(iha hd.1).1 fuel f.type _ x1 h3.2 h2 hx1
        simp only [nc] at hl
        obtain ⟨y2,g3,g4,b2⟩:=(ihb hd.2).2 fuel fs (f.offset + nc a) cs xs2 h4 hx2 (by omega)
        refine ⟨(y1,y2),⟨_,_,?_,g1,g3⟩,⟨g2,g4⟩,by simp only [bkI,List.map_cons,dbkAll]; omega⟩
        rw [← List.drop_drop,List.take_append_drop]
  | st a iha =>
    intro hd
    refine ⟨fun fuel t cs x _ h hx=>?_,fun fuel fs off cs xs h=>(by cases h)⟩
    obtain ⟨fs,hu,hf,_⟩:=z7.st h
    obtain ⟨i,hi,hsz⟩:=z7.size h (by intro a b e; cases e)
    have hcells:P.cellsOf t = nc a:=by unfold Program.cellsOf; rw [hi]; exact hsz
    cases fuel with
    | zero=>simp [DataW.trod] at hx
    | succ fuel =>
      unfold DataW.trod at hx
      rw [hu] at hx
      simp only at hx
      split at hx
      · rename_i hl
        simp only [Option.map_eq_some_iff] at hx
        obtain ⟨xs,hx,rfl⟩:=hx
        obtain ⟨y,g1,g2,b1⟩:=(iha hd).2 fuel fs.toList 0 cs xs hf hx (by omega)
        exact ⟨y,g1,g2,by simp only [bkI,dbk]; omega⟩
      · cases hx
  | arr n a iha =>
    intro hd
    refine ⟨fun fuel t cs x _ h hx=>?_,fun fuel fs off cs xs h=>(by cases h)⟩
    obtain ⟨e,hu,he,hpos,hnp,_⟩:=z7.arr h
    obtain ⟨i,hi,hsz⟩:=z7.size h (by intro a b e; cases e)
    obtain ⟨ie,hie,hsze⟩:=z7.size he (Ty.np_spec hnp)
    have hcells:P.cellsOf t = n * nc a:=by unfold Program.cellsOf; rw [hi]; exact hsz
    have hcellse:P.cellsOf e = nc a:=by unfold Program.cellsOf; rw [hie]; exact hsze
    cases fuel with
    | zero=>simp [DataW.trod] at hx
    | succ fuel =>
      unfold DataW.trod at hx
      rw [hu] at hx
      simp only at hx
      split at hx
      · rename_i hl
        simp only [Option.map_eq_some_iff] at hx
        obtain ⟨xs,hx,rfl⟩:=hx
        rw [hcellse] at hx
        obtain ⟨ys,css,h1,h2,h3,h4,h5⟩:=zzB (bk:=bkI a) (f:=fun i=>some ((cs.drop (i * nc a)).take (nc a))) (g:=DataW.trod enc P w base sp held fuel e) (R:=Rep P (FH.of w) a) (I:=InR a) (fun cs y hy=>(iha hd).1 fuel e cs y hnp he hy) (List.range n) xs hx
        rw [List.range_eq_range'] at h2
        have:=zr3 n 0 css (by rw [Nat.zero_add]; omega) h2
        rw [this] at h3
        simp only [Nat.zero_mul,List.drop_zero] at h3
        rw [List.take_of_length_le (by omega)] at h3
        refine ⟨ys,⟨by simpa using h1,h3⟩,⟨by simpa using h1,h4⟩,by simp only [bkI,dbk]; omega⟩
      · cases hx
  | sl a iha =>
    intro hd
    refine ⟨fun fuel t cs x _ h hx=>?_,fun fuel fs off cs xs h=>(by cases h)⟩
    obtain ⟨e,hu,he,hpos,hnp⟩:=z7.sl h
    obtain ⟨ie,hie,hsze⟩:=z7.size he (Ty.np_spec hnp)
    have hcellse:P.cellsOf e = nc a:=by unfold Program.cellsOf; rw [hie]; exact hsze
    cases fuel with
    | zero=>simp [DataW.trod] at hx
    | succ fuel =>
      unfold DataW.trod at hx
      rw [hu] at hx
      split at hx <;> first | (cases hx; done) | skip
      all_goals first
        | (rename_i hh; cases hh; done)
        | exact ⟨[],⟨_,0,rfl,Nat.le_refl _,fun hne=>absurd rfl hne⟩,⟨Nat.zero_le _,fun x hx=>(by cases hx)⟩,zx1 _⟩
        | skip
      rename_i e' ad len cap heq
      simp only [Option.some.injEq,TypeDesc.slice.injEq] at heq
      subst heq
      simp only at hx
      split at hx
      · rename_i hc
        simp only [Option.bind_eq_some_iff] at hx
        obtain ⟨elems,hx,hx2⟩:=hx
        rw [hcellse] at hx
        obtain ⟨ys,css,h1,h2,h3,h4,h5⟩:=zzB (bk:=bkI a) (f:=fun i=>w.cells? base (ad.add (i * nc a)) (nc a)) (g:=DataW.trod enc P w base sp held fuel e) (R:=Rep P (FH.of w) a) (I:=InR a) (fun cs y hy=>(iha hd).1 fuel e cs y hnp he hy) (List.range len) elems hx
        rw [List.length_range] at h1
        refine ⟨ys,⟨some ad,cap,by rw [h1],by rw [h1]; exact hc.2.1,fun hne=>?_⟩,⟨(show ys.length ≤ maxLen by omega),h4⟩,?_⟩
        rotate_left
        · obtain ⟨rest,-,rfl⟩:=Option.map_eq_some_iff.1 hx2
          simp only [bkI,dbk]; omega
        have hlen:0 < len:=by
          rw [← h1]
          exact List.length_pos_iff.2 hne
        rw [List.range_eq_range'] at h2
        obtain ⟨m,rfl⟩:∃ m,len = m + 1:=⟨len - 1,by omega⟩
        have h2':=h2
        rw [List.range'_succ,List.mapM_cons] at h2'
        simp only [Option.bind_eq_bind,Option.bind_eq_some_iff,Option.pure_def,Option.some.injEq] at h2'
        obtain ⟨cs0,g1,_⟩:=h2'
        rw [Nat.zero_mul,show ad.add 0 = ad from rfl] at g1
        obtain ⟨c,g2,g3,g4⟩:=zIk g1 hpos
        refine ⟨ad,css.flatten,rfl,⟨g3,c,g2,fun j v hv=>?_⟩,h3⟩
        have:=zMj hpos g3 g2 (m + 1) 0 css h2 j v hv
        simpa using this
      · cases hx
  | ptr a=>intro hd; cases hd
  | fn a b=>intro hd; cases hd
def tyL (P:Program):Ty→List TypeId→Bool
  | .unit,[]=>true
  | .pair a b,t :: ts=>(tyB P a).1 t && a.np && a.data && tyL P b ts
  | _,_=>false
theorem zyE:∀ {τ:Ty} {ts:List TypeId} {vs:List Value} {ds:List (DataW H)} {ps:List MemPlace},tyL P τ ts = true→DataW.TrodAll enc P w base sp held ts vs ds ps→(∀ (j:Nat) (t:TypeId) (v:Value),ts[j]? = some t→vs[j]? = some v→∃ W r b,Value.okWide P W r b t v) →
    ∃ x,RepA P (FH.of w) τ x vs ∧ InR τ x ∧ bkI τ x ≤ dbkAll ds
  | .unit,[],[],[],ps,_,_,_=>⟨(),rfl,trivial,Nat.zero_le _⟩
  | .pair a b,t :: ts,v :: vs,d :: ds,ps,h,hr,hf=>by
    simp only [tyL,Bool.and_eq_true] at h
    obtain ⟨⟨⟨h1,h2⟩,h3⟩,h4⟩:=h
    obtain ⟨p,q,⟨fuel,h5⟩,h6,_⟩:=hr
    obtain ⟨y,g1,g2,b1⟩:=(zPv a h3).1 fuel t v.cells.toList (d,p) h2 h1 h5
    obtain ⟨x,g3,g4,b2⟩:=zyE h4 h6 fun j t v ht hv=>hf (j + 1) t v (by simpa using ht) (by simpa using hv)
    refine ⟨(y,x),⟨v,vs,rfl,g1,?_,g3⟩,⟨g2,g4⟩,by simp only [bkI,dbkAll]; exact Nat.add_le_add b1 b2⟩
    obtain ⟨W,r,b0,hform⟩:=hf 0 t v rfl rfl
    obtain ⟨de,hu,hagg⟩:=z7.isAgg h1
    unfold Value.okWide at hform
    rw [hu] at hform
    rw [← hagg]
    have hno:∀ cs,v = .agg cs→Cell.okWide P W r b0 t v→(match de with | .struct _ | .array _ _=>true | _=>false) = false→False:=by
      rintro cs rfl hc hde
      unfold Cell.okWide at hc
      rw [hu] at hc
      cases de <;> simp [Cell.ok,hu] at hc hde
    cases de <;> simp only at hform hno ⊢
    case struct=>obtain ⟨cs,rfl,_⟩:=hform; rfl
    case array=>obtain ⟨cs,rfl,_⟩:=hform; rfl
    all_goals (cases v <;> first | rfl | exact (hno _ rfl hform trivial).elim)
  | .unit,[],[],_ :: _,_,_,h,_=>h.elim
  | .unit,[],_ :: _,_,_,_,h,_=>(by cases h)
  | .unit,_ :: _,_,_,_,h,_,_=>(by cases h)
  | .pair _ _,[],_,_,_,h,_,_=>(by cases h)
  | .pair _ _,_ :: _,[],_,_,_,h,_=>(by cases h)
  | .pair _ _,_ :: _,_ :: _,[],_,_,h,_=>(by cases h)
  | .bool,_,_,_,_,h,_,_=>(by cases h)
  | .int _,_,_,_,_,h,_,_=>(by cases h)
  | .str,_,_,_,_,h,_,_=>(by cases h)
  | .st _,_,_,_,_,h,_,_=>(by cases h)
  | .arr _ _,_,_,_,_,h,_,_=>(by cases h)
  | .sl _,_,_,_,_,h,_,_=>(by cases h)
  | .ptr _,_,_,_,_,h,_,_=>(by cases h)
  | .fn _ _,_,_,_,_,h,_,_=>(by cases h)
theorem zuj {W W':World} (hl:laidOutB P = true) (hb:Below W.heap.size W W'):∀ {ts:List TypeId} {vs:List Value} {ds:List (DataW H)} {ps:List MemPlace},
    (∀ t ∈ ts,P.readableRec t = true ∧ t < P.types.size)→DataW.TrodAll enc P W 0 (fun _=>true) true ts vs ds ps→(∀ x ∈ ps,x.block < W.heap.size)→∀ s:Nat→Bool,(∀ p ∈ ps,s p.block = true)→DataW.TrodAll enc P W' 0 s true ts vs ds ps
  | [],[],[],ps,_,h,_,s,_=>h
  | t :: ts,v :: vs,d :: ds,ps,ht,⟨p,q,h1,h2,e⟩,hlt,s,hs=>by
    subst e
    have h0:=ht t (by simp)
    refine ⟨p,q,?_,zuj hl hb (fun t' h'=>ht t' (by simp [h'])) h2 (fun x hx=>hlt x (by simp [hx])) s (fun x hx=>hs x (by simp [hx])),rfl⟩
    exact WideElems.Trod_stays hl h0.1 h0.2 h1 (fun x hx=>hb.same (hlt x (by simp [hx]))) (fun x hx=>hs x (by simp [hx]))
  | [],[],_ :: _,_,_,h,_,_,_=>h.elim
  | [],_ :: _,_,_,_,h,_,_,_=>h.elim
  | _ :: _,[],_,_,_,h,_,_,_=>h.elim
  | _ :: _,_ :: _,[],_,_,h,_,_,_=>h.elim
end
section
variable {P:Program} {H:Type} {enc:TypeId × Value→H}
theorem law_contract {fi:FuncId} {f:Func} {a:Ty} {tb:TypeId} {spec:ChangeSpec} {W:World} {base:Nat} {args:Array Value} {ds gs:List (DataW H)} {before:List MemPlace}
    (hl:laidOutB P = true) (hts:∀ t ∈ f.params.toList,P.readableRec t = true ∧ t < P.types.size) (hty:tyL P a f.params.toList = true) (hres:f.resultTypes = #[tb]) (hbool:P.underlying tb = some .bool) (hvars:spec.vars = [])
    (hfn:∀ ds:List (DataW H),ds.length = f.params.size→spec.fn H ds = { results:=[.lit (.bool true)],args:=ds })
    (hval:∀ (j:Nat) t v,f.params[j]? = some t→args[j]? = some v→Value.okWide P W .any base t v)
    (hW:DataW.Whole enc P f.params.toList spec.vars false W args.toList ds gs before)
    (hcall:∀ x,InR a x→bkI a x ≤ dbkAll ds→RepA P (FH.of W) a x args.toList→Calls P fi args W fun e W'=>e = .returned (.bool true) ∧ Below W.heap.size W W') :
    Calls P fi args W fun e W'=>∃ v,e = .returned v ∧ spec.post enc P f false true false false W args v W':=by
  have hW':=hW
  obtain ⟨p,q,hA,hV,rfl,hfz,hnd⟩:=hW
  rw [hvars] at hV
  obtain ⟨rfl,rfl⟩:=trodVars_none hV
  have hlt:∀ x ∈ p,x.block < W.heap.size:=fun x hx=>by simpa using hW'.lt x (by simp [hx])
  obtain ⟨x,hx,hin,hbk⟩:=zyE (w:=W) hty hA fun j t v ht hv=>⟨W,.any,base,hval j t v (by rw [← Array.getElem?_toList]; exact ht) (by rw [← Array.getElem?_toList]; exact hv)⟩
  have hlen:∀ {ts:List TypeId} {vs:List Value} {ds:List (DataW H)} {ps:List MemPlace},DataW.TrodAll enc P W 0 (fun _=>true) true ts vs ds ps→ds.length = ts.length:=by
    intro ts
    induction ts with
    | nil=>intro vs ds ps h; cases vs <;> cases ds <;> first | rfl | exact h.elim
    | cons t ts ih=>intro vs ds ps h; cases vs <;> cases ds <;> first | exact h.elim | (obtain ⟨_,_,_,h2,_⟩:=h; simp [ih h2])
  have hfn':=hfn ds (by rw [hlen hA]; simp)
  refine (hcall x hin hbk hx).mono fun e W' ⟨he,hb⟩=>?_
  subst he
  simp only [List.append_nil] at *
  refine ⟨_,rfl,ds,[],p,[],p,[],hW',?_,?_,?_,hb.frame _,fun h=>(by cases h)⟩
  · rw [List.append_nil,hfn',hres]
    exact trodAll_cons_mk (shut_bool hbool _) trodAll_mk0
  · rw [List.append_nil,hfn']
    exact zuj hl hb hts hA hlt _ (fun x hx=>by simpa using hlt x hx)
  · rw [List.append_nil,hfn',hvars]
    rfl
end
end Go.Ev
end
section
namespace Go.Ev
open Go.RowKit
section
variable {P:Program} {G:FH} {E:Env}
theorem zow.mk (hm:P.follows .mixedOrders = true) (hE:EnvOk P G E) {fi:FuncId} {f:Func} (hf:P.funcs[fi]? = some f) (hn:(f.name == "runtime.NumGoroutine") = false) (hb:f.body.isNone = false)
    {F:Fun} (h:∀ x y,F.spec x = some y→∃ K,evF E K f F.md F.a F.r x = some y):zow P G fi F:=by
  refine ⟨⟨f,hf,hn,hb⟩,fun x y hy F0 w vs hG hk hr=>?_⟩
  obtain ⟨K,he⟩:=h x y hy
  exact zOA hm hE hf he hG hk hr
theorem EnvOk.nil {types:TT} {nt:Nat} {dp:Bool} (ht:types.all (fun k τ=>(tyB P τ).1 k) = true) {glob:List (Nat × AV)} (hg:∀ g v,look glob g = some v→∃ τ x cs,v = .dat (.ptr τ) (some x) ∧ At G ⟨g,0,none⟩ cs ∧ Rep P G τ x cs) {ext:List (Nat × Bool)} {jn:List Nat} (hx:∀ f add,look ext f = some add→ExtOk P f add):EnvOk P G ⟨types,[],glob,nt,dp,ext,jn,fun _=>none,false,false⟩ :=
  ⟨fun t τ h=>TT.all_look ht h,fun f F h=>by simp [look] at h,hg,hx,fun f H h=>by cases h⟩
theorem EnvOk.deep (hE:EnvOk P G E) (d:Bool):EnvOk P G { E with deep:=d }:=⟨hE.types,hE.funs,hE.glob,hE.ext,hE.hnd⟩
theorem EnvOk.cons (hE:EnvOk P G E) {fi:FuncId} {F:Fun} (h:zow P G fi F):EnvOk P G { E with funs:=(fi,F) :: E.funs }:=by
  refine ⟨hE.types,fun f F' h'=>?_,hE.glob,hE.ext,hE.hnd⟩
  simp only [look] at h'
  cases hb:Nat.beq fi f with
  | true =>
    rw [hb] at h'
    simp only [cond_true,Option.some.injEq] at h'
    subst h'
    rw [← Nat.eq_of_beq_eq_true hb]
    exact h
  | false=>rw [hb] at h'; exact hE.funs f F' h'
end
end Go.Ev
end
section
namespace Go.Ev
theorem zIl {n:Nat} (h:n ≤ Go.maxLen):IntKind.wrap .i64 (n:Int) = (n:Int):=by
  unfold Go.maxLen at h
  exact IntWalk.i64_in _ (by omega)
def jf {α:Type} (p:α→Bool):List α→Int→Int
  | [],_=>-1
  | x :: xs,i=>cond (p x) i (jf p xs (i + 1))
theorem zzC {α:Type} {p:α→Bool}:∀ (xs:List α) (i:Int),0 ≤ i→decide (jf p xs i ≥ 0) = xs.any p
  | [],_,_=>rfl
  | x :: xs,i,h=>by
    have ih:=zzC (p:=p) xs (i + 1) (by omega)
    simp only [jf,List.any_cons]
    by_cases hp:p x = true
    · simp [hp,h]
    · simp only [Bool.not_eq_true] at hp
      simp only [hp,cond_false,Bool.false_or]
      exact ih
end Go.Ev
end
section
namespace Go.Ev
theorem zBp {i len:Nat} (h:i < len) (hl:len ≤ Go.maxLen):IntKind.wrap .i64 ((i:Int) + 1) = (i:Int) + 1:=by
  rw [show (i:Int) + 1 = ((i + 1:Nat):Int) by omega]
  exact zIl (by omega)
theorem jC {α:Type} {l:List α} {i:Nat} (d:α) (h:i < l.length):l.drop i = l.getD i d :: l.drop (i + 1):=by
  rw [List.drop_eq_getElem_cons h]
  simp [List.getD,h]
theorem zPw {σ ρ:Type} {L:Nat→Int→σ→Option ρ} {len:Nat} (hl:len ≤ Go.maxLen) (F:Nat→σ→Option ρ) (I:Nat→σ→Prop)
    (hstep:∀ n i s,i < len→I i s→(∀ s',I (i + 1) s'→L n ((i:Int) + 1) s' = F (i + 1) s')→L (n + 1) (i:Int) s = F i s)
    (hend:∀ n s,I len s→L (n + 1) (len:Int) s = F len s) :
    ∀ (k i n:Nat) (s:σ),i + k = len→k < n→I i s→L n (i:Int) s = F i s:=by
  intro k
  induction k with
  | zero =>
    intro i n s hi hn hI
    obtain ⟨m,rfl⟩:∃ m,n = m + 1:=⟨n - 1,by omega⟩
    obtain rfl:i = len:=by omega
    exact hend m s hI
  | succ k ih =>
    intro i n s hi hn hI
    obtain ⟨m,rfl⟩:∃ m,n = m + 1:=⟨n - 1,by omega⟩
    refine hstep m i s (by omega) hI fun s' hI'=>?_
    have:=ih (i + 1) m s' (by omega) (by omega) hI'
    rw [show (i:Int) + 1 = ((i + 1:Nat):Int) by omega]
    exact this
theorem zOB {σ ρ:Type} {L:Nat→Int→σ→Option ρ} {len:Nat} (hl:len ≤ Go.maxLen) (F:Nat→σ→Option ρ) (I:Nat→σ→Prop)
    (hstep:∀ n i s,i < len→I i s→(∀ s',I (i + 1) s'→L n ((i:Int) + 1) s' = F (i + 1) s')→L (n + 1) (i:Int) s = F i s)
    (hend:∀ n s,I len s→L (n + 1) (len:Int) s = F len s) (n:Nat) (hn:len < n) (s:σ) (h0:I 0 s):L n 0 s = F 0 s :=
  zPw hl F I hstep hend len 0 n s (by omega) hn h0
end Go.Ev
end
section
namespace Go.Ev
abbrev Fnc (A R:Ty):Type:=A.I→Option R.I
def zg {σ ρ:Type} (B:(σ→Option ρ)→σ→Option ρ):Nat→σ→Option ρ
  | 0,_=>none
  | n + 1,s=>B (zg B n) s
noncomputable def evV {σ:Type} (E:Env) (K:Nat) (f:Func) (md:Nat) (R:Ty) (p ns:List Nat) (S:σ→St) (n:Nat):σ→Option R.I:=fun s=>evL E K f md R p ns n (S s)
theorem zIm {E:Env} {K:Nat} {f:Func} {md:Nat} {R:Ty} {p ns:List Nat} {st:St}:evL E K f md R p ns 0 st = none:=by
  unfold evL
  split
  · split <;> rfl
  · rfl
theorem zq {σ:Type} {E:Env} {K:Nat} {f:Func} {md:Nat} {R:Ty} {p ns:List Nat} {S:σ→St} {B:(σ→Option R.I)→σ→Option R.I}
    (h:∀ n s,evV E K f md R p ns S (n + 1) s = B (evV E K f md R p ns S n) s):∀ n,evV E K f md R p ns S n = zg B n
  | 0=>by funext s; exact zIm
  | n + 1=>by funext s; rw [h,zq h n]; rfl
theorem qu {σ τ:Type} {E:Env} {K:Nat} {f:Func} {md:Nat} {R:Ty} {p ns:List Nat} {S:σ→St} {B:(τ→Option R.I)→(σ→Option R.I)→σ→Option R.I} {V1:Nat→τ→Option R.I} {W1:(σ→Option R.I)→τ→Option R.I}
    (h1:∀ n,V1 n = W1 (evV E K f md R p ns S n)) (h:∀ n s,evV E K f md R p ns S (n + 1) s = B (V1 n) (evV E K f md R p ns S n) s):∀ n,evV E K f md R p ns S n = zg (fun k=>B (W1 k) k) n :=
  zq fun n s=>by rw [← h1]; exact h n s
theorem zOC {σ τ υ:Type} {E:Env} {K:Nat} {f:Func} {md:Nat} {R:Ty} {p ns:List Nat} {S:σ→St} {B:(τ→Option R.I)→(υ→Option R.I)→(σ→Option R.I)→σ→Option R.I} {V1:Nat→τ→Option R.I} {W1:(σ→Option R.I)→τ→Option R.I} {V2:Nat→υ→Option R.I} {W2:(σ→Option R.I)→υ→Option R.I}
    (h1:∀ n,V1 n = W1 (evV E K f md R p ns S n)) (h2:∀ n,V2 n = W2 (evV E K f md R p ns S n)) (h:∀ n s,evV E K f md R p ns S (n + 1) s = B (V1 n) (V2 n) (evV E K f md R p ns S n) s):∀ n,evV E K f md R p ns S n = zg (fun k=>B (W1 k) (W2 k) k) n :=
  zq fun n s=>by rw [← h1,← h2]; exact h n s
def zBq {σ τ ρ:Type} (B0:(τ→Option ρ)→σ→Option ρ) (B1:(τ→Option ρ)→τ→Option ρ):Nat→σ→Option ρ
  | 0,_=>none
  | n + 1,s=>B0 (zg B1 n) s
theorem zOD {σ τ:Type} {E:Env} {K:Nat} {f:Func} {md:Nat} {R:Ty} {p ns:List Nat} {S0:σ→St} {S1:τ→St} {B0:(τ→Option R.I)→σ→Option R.I} {B1:(τ→Option R.I)→τ→Option R.I}
    (h1:∀ n,evV E K f md R p ns S1 n = zg B1 n) (h:∀ n s,evV E K f md R p ns S0 (n + 1) s = B0 (evV E K f md R p ns S1 n) s):∀ n,evV E K f md R p ns S0 n = zBq B0 B1 n
  | 0=>by funext s; exact zIm
  | n + 1=>by funext s; rw [h,h1]; rfl
theorem tr1 {α X Y:Type} {T:α→X→Y} {V W:α} (h:V = W) {F:X→Y} (hx:∀ x,F x = T V x):F = T W:=by subst h; funext x; exact hx x
def En (E:Env) (d:Bool) (l:List Fun):Env:=⟨E.types,l.map fun F=>(F.id,F),E.glob,0,d,E.ext,[],fun _=>none,false,false⟩
def Ej (E:Env) (d:Bool) (js:List Nat) (l:List Fun):Env:=⟨E.types,l.map fun F=>(F.id,F),E.glob,0,d,E.ext,js,fun _=>none,false,js.any (Nat.beq 999999)⟩
def Sd (P:Program) (E:Env) (F:Fun):Prop:=∀ G,EnvOk P G E→zow P G F.id F
def Sds (P:Program) (E:Env):List Fun→Prop
  | []=>True
  | F :: l=>Sd P E F ∧ Sds P E l
def jq (f:Func):Bool:=!(f.name == "runtime.NumGoroutine") && !f.body.isNone
theorem Sds.env {P:Program} {E:Env} {l:List Fun} {d:Bool} {G:FH} (h:Sds P E l) (hE:EnvOk P G E):EnvOk P G (En E d l):=by
  refine ⟨hE.types,?_,hE.glob,hE.ext,fun f H h=>by cases h⟩
  intro f F hf
  have key:∀ l:List Fun,Sds P E l→look (l.map fun F=>(F.id,F)) f = some F→zow P G f F:=by
    intro l
    induction l with
    | nil=>intro _ h; cases h
    | cons F' l ih =>
      intro hs hl
      simp only [List.map_cons,look] at hl
      cases hb:Nat.beq F'.id f with
      | true =>
        rw [hb] at hl
        cases hl
        rw [← Nat.eq_of_beq_eq_true hb]
        exact hs.1 G hE
      | false=>rw [hb] at hl; exact ih hs.2 hl
  exact key l h hf
theorem Sds.envJ {P:Program} {E:Env} {l:List Fun} {d:Bool} {js:List Nat} {G:FH} (h:Sds P E l) (hE:EnvOk P G E):EnvOk P G (Ej E d js l) :=
  have h':=h.env (d:=d) hE
  ⟨h'.types,h'.funs,h'.glob,h'.ext,fun f H h=>by cases h⟩
theorem Sd.mkJ {P:Program} {E:Env} {l:List Fun} {d:Bool} {js:List Nat} {F:Fun} {f:Func} {K:Nat} (hm:P.follows .mixedOrders = true) (hl:Sds P E l) (hf:P.funcs[F.id]? = some f) (ho:jq f = true)
    (h:evF (Ej E d js l) K f F.md F.a F.r = F.spec):Sd P E F:=by
  intro G hE
  unfold jq at ho
  simp only [Bool.and_eq_true,Bool.not_eq_true'] at ho
  exact zow.mk hm (hl.envJ hE) hf ho.1 ho.2 fun x y hy=>⟨K,by rw [h]; exact hy⟩
theorem Sd.mk {P:Program} {E:Env} {l:List Fun} {d:Bool} {F:Fun} {f:Func} {K:Nat} (hm:P.follows .mixedOrders = true) (hl:Sds P E l) (hf:P.funcs[F.id]? = some f) (ho:jq f = true)
    (h:evF (En E d l) K f F.md F.a F.r = F.spec):Sd P E F:=by
  intro G hE
  unfold jq at ho
  simp only [Bool.and_eq_true,Bool.not_eq_true'] at ho
  exact zow.mk hm (hl.env hE) hf ho.1 ho.2 fun x y hy=>⟨K,by rw [h]; exact hy⟩
def FOk (P:Program):List (Nat × Func)→Prop
  | []=>True
  | p :: l=>(P.funcs[p.1]? = some p.2 ∧ jq p.2 = true) ∧ FOk P l
theorem FOk.look {P:Program}:∀ {l:List (Nat × Func)} {i:Nat} {f:Func},FOk P l→look l i = some f→P.funcs[i]? = some f ∧ jq f = true
  | (j,g) :: l,i,f,h,hl=>by
    simp only [Go.Ev.look] at hl
    cases hb:Nat.beq j i with
    | true=>rw [hb] at hl; cases hl; rw [← Nat.eq_of_beq_eq_true hb]; exact h.1
    | false=>rw [hb] at hl; exact FOk.look h.2 hl
theorem EnvOk.inl {P:Program} {G:FH} {E:Env} (hm:P.follows .mixedOrders = true) (hE:EnvOk P G E) {fs:List (Nat × Func)} (hfs:FOk P fs):∀ d,EnvOk P G (E.inl fs d)
  | 0=>hE
  | d + 1=>⟨hE.types,hE.funs,hE.glob,hE.ext,fun i H h=>by
    obtain ⟨fn,h1,rfl⟩:=Option.map_eq_some_iff.1 h
    obtain ⟨h2,h3⟩:=hfs.look h1
    unfold jq at h3
    simp only [Bool.and_eq_true,Bool.not_eq_true'] at h3
    exact zP9 hm (EnvOk.inl hm hE hfs d) h2 h3.1 h3.2⟩
theorem Sd.mkI {P:Program} {E:Env} {l:List Fun} {d:Bool} {js:List Nat} {fs:List (Nat × Func)} {n:Nat} {F:Fun} {f:Func} {K:Nat} (hm:P.follows .mixedOrders = true) (hl:Sds P E l) (hfs:FOk P fs) (hf:P.funcs[F.id]? = some f) (ho:jq f = true)
    (h:evF ((Ej E d js l).inl fs n) K f F.md F.a F.r = F.spec):Sd P E F:=by
  intro G hE
  unfold jq at ho
  simp only [Bool.and_eq_true,Bool.not_eq_true'] at ho
  exact zow.mk hm ((hl.envJ hE).inl hm hfs n) hf ho.1 ho.2 fun x y hy=>⟨K,by rw [h]; exact hy⟩
@[reducible] def ch:List Ty→Ty
  | []=>.unit
  | a :: l=>.pair a (ch l)
abbrev u0 {a0 a1:Type} (x:a0 × a1) (v:a0):a0 × a1:=(v,x.2)
abbrev u1 {a0 a1 a2:Type} (x:a0 × a1 × a2) (v:a1):a0 × a1 × a2:=(x.1,v,x.2.2)
abbrev u2 {a0 a1 a2 a3:Type} (x:a0 × a1 × a2 × a3) (v:a2):a0 × a1 × a2 × a3:=(x.1,x.2.1,v,x.2.2.2)
def inR {ρ:Type} (i n:Int) (x:Option ρ):Option ρ:=cond (decide (0 ≤ i)) (cond (decide (i < n)) x none) none
theorem zOE {ρ:Type} {i n:Int} {x:Option ρ} (h0:0 ≤ i) (h1:i < n):inR i n x = x:=by unfold inR; rw [decide_eq_true h0,decide_eq_true h1]; rfl
abbrev ix {α:Type} (d:α) (l:List α) (i:Int):α:=List.getD l (Int.toNat i) d
def K0:Nat:=Go.maxLen + 2
theorem zHy {n:Nat} (h:n ≤ Go.maxLen):n < K0:=by unfold K0; omega
abbrev tI:Ty:=.int .i64
abbrev tU:Ty:=.int .u64
abbrev wI (n:Int):Int:=IntKind.wrap .i64 n
abbrev wU (n:Int):Int:=IntKind.wrap .u64 n
end Go.Ev
end
section
namespace Go.Ev
theorem vA {σ α ρ:Type} {B:(σ→Option ρ)→σ→Option ρ} {len:Nat} (hl:len ≤ Go.maxLen) (st:Int→α→σ) (F:Nat→α→Option ρ) (I:Nat→α→Prop)
    (hstep:∀ k (i:Nat) s,i < len→I i s→(∀ s',I (i + 1) s'→k (st (wI (i + 1)) s') = F (i + 1) s')→B k (st i s) = F i s)
    (hend:∀ k s,I len s→B k (st len s) = F len s) (s:α) (h0:I 0 s):zg B K0 (st 0 s) = F 0 s:=by
  refine zOB (L:=fun n i s=>zg B n (st i s)) hl F I (fun n i s hi hI h=>?_) (fun n s hI=>hend _ s hI) K0 (zHy hl) s h0
  refine hstep _ i s hi hI fun s' hI'=>?_
  rw [wI,zBp hi hl]
  exact h s' hI'
theorem zV {α:Type} {l:List α} {i:Nat} {d:α} (h:i < l.length):l.getD i d ∈ l:=by
  rw [List.getD_eq_getElem?_getD,List.getElem?_eq_getElem h]
  exact List.getElem_mem h
theorem zF (p:Bool):some (p,()) = bif p then some (true,()) else some (false,()):=by cases p <;> rfl
theorem jF {σ α ρ:Type} {B:(σ→Option ρ)→σ→Option ρ} {l:List α} (d:α) {p:α→Bool} {fin bad:Option ρ} (st:Int→σ) (hl:l.length ≤ Go.maxLen)
    (hin:∀ k (i:Nat) x,i < l.length→l.getD i d = x→x ∈ l→B k (st i) = bif p x then k (st (wI (i + 1))) else bad) (hout:∀ k,B k (st l.length) = fin):zg B K0 (st 0) = bif l.all p then fin else bad:=by
  have:=vA (α:=Unit) (B:=B) hl (fun i _=>st i) (fun i _=>bif (l.drop i).all p then fin else bad) (fun _ _=>True) (fun k i s hi _ h=>?_) (fun k s _=>?_) () trivial
  · simpa using this
  · rw [hin k i _ hi rfl (zV hi),h () trivial,jC d hi,List.all_cons]
    cases p (l.getD i d) <;> rfl
  · rw [hout,List.drop_of_length_le (Nat.le_refl _)]; rfl
theorem zFw {σ ρ:Type} {B:(σ→Option ρ)→σ→Option ρ} {n:Nat} (hn:n ≤ Go.maxLen) {p:Nat→Bool} {fin bad:Option ρ} (st:Int→σ)
    (hin:∀ k (i:Nat),i < n→B k (st i) = bif p i then k (st (wI (i + 1))) else bad) (hout:∀ k,B k (st n) = fin):zg B K0 (st 0) = bif (List.range n).all p then fin else bad:=by
  have hx:∀ i,i < n→(List.range n).getD i 0 = i:=fun i hi=>by simp [List.getD,hi]
  refine jF (l:=List.range n) 0 st (by simpa using hn) (fun k i x hi hx' _=>?_) (by simpa using hout)
  simp only [List.length_range] at hi
  rw [hx i hi] at hx'
  subst hx'
  exact hin k i hi
theorem zqi {σ α β ρ:Type} {B:(σ→Option ρ)→σ→Option ρ} {l:List β} (d:β) (st:Int→α→σ) (G:List β→α→Option ρ) (hl:l.length ≤ Go.maxLen)
    (hin:∀ k (i:Nat) x rest s,i < l.length→l.getD i d = x→x ∈ l→l.drop (i + 1) = rest→(∀ s',k (st (wI (i + 1)) s') = G rest s')→B k (st i s) = G (x :: rest) s) (hout:∀ k s,B k (st l.length s) = G [] s) (s:α):zg B K0 (st 0 s) = G l s:=by
  have:=vA (B:=B) hl st (fun i s=>G (l.drop i) s) (fun _ _=>True) (fun k i s hi _ h=>?_) (fun k s _=>?_) s trivial
  · simpa using this
  · rw [jC d hi]
    exact hin k i _ _ s hi rfl (zV hi) rfl fun s'=>h s' trivial
  · rw [hout,List.drop_of_length_le (Nat.le_refl _)]
def zW (p:Nat→Bool) (i:Nat):Nat→Bool
  | 0=>true
  | n + 1=>p i && zW p (i + 1) n
theorem qL {p:Nat→Bool}:∀ {n i:Nat},zW p i n = true ↔ ∀ j,i ≤ j→j < i + n→p j = true
  | 0,i=>by simp only [zW,true_iff]; intro j h1 h2; omega
  | n + 1,i=>by
    simp only [zW,Bool.and_eq_true,qL (n:=n)]
    constructor
    · rintro ⟨h1,h2⟩ j h3 h4
      by_cases e:j = i
      · subst e; exact h1
      · exact h2 j (by omega) (by omega)
    · intro h
      exact ⟨h i (Nat.le_refl i) (by omega),fun j h1 h2=>h j (by omega) (by omega)⟩
theorem z8 {σ ρ:Type} {B:(σ→Option ρ)→σ→Option ρ} {i0 n:Nat} (hn:n ≤ Go.maxLen) (h0:i0 ≤ n) {p:Nat→Bool} {fin bad:Option ρ} (st:Int→σ)
    (hin:∀ k (i:Nat),i0 ≤ i→i < n→B k (st i) = bif p i then k (st (wI (i + 1))) else bad) (hout:∀ k,B k (st n) = fin):zg B K0 (st i0) = bif zW p i0 (n - i0) then fin else bad:=by
  have key:∀ (m i fuel:Nat),i0 ≤ i→i + m = n→m < fuel→zg B fuel (st i) = bif zW p i m then fin else bad:=by
    intro m
    induction m with
    | zero =>
      intro i fuel _ h1 h2
      obtain ⟨f,rfl⟩:∃ f,fuel = f + 1:=⟨fuel - 1,by omega⟩
      obtain rfl:i = n:=by omega
      exact hout _
    | succ m ih =>
      intro i fuel h1 h2 h3
      obtain ⟨f,rfl⟩:∃ f,fuel = f + 1:=⟨fuel - 1,by omega⟩
      show B (zg B f) (st i) = _
      rw [hin _ i h1 (by omega),wI,zBp (len:=n) (by omega) hn,show ((i:Int) + 1) = ((i + 1:Nat):Int) by omega,ih (i + 1) f (by omega) (by omega) (by omega)]
      simp only [zW]
      cases p i <;> rfl
  exact key (n - i0) i0 K0 (Nat.le_refl _) (by omega) (by have:=zHy hn; omega)
theorem zjO {i:Nat} (h:1 ≤ i) (hi:i ≤ Go.maxLen):wI ((i:Int) - 1) = ((i - 1:Nat):Int):=by
  rw [show ((i:Int) - 1) = ((i - 1:Nat):Int) by omega]
  exact zIl (by omega)
section
variable {τ:Ty} {l:List τ.I} {g:τ.I × Unit→Option (Bool × Unit)} {p:τ.I→Bool}
theorem zk {ρ:Type} {i n:Nat} {x:Option ρ} (h:i < n):inR (i:Int) (n:Int) x = x:=zOE (by omega) (by omega)
theorem ltT {i n:Nat} (h:i < n):decide ((i:Int) < (n:Int)) = true:=decide_eq_true (by omega)
theorem ltF (n:Nat):decide ((n:Int) < (n:Int)) = false:=decide_eq_false (by omega)
theorem zG {α:Type} {d:α} {l:List α} {i:Nat}:ix d l (i:Int) = l.getD i d:=by rw [ix,Int.toNat_natCast]
theorem qR {B:((List τ.I × Option (τ.I × Unit→Option (Bool × Unit)) × Int × Int)→Option (Int × Unit))→(List τ.I × Option (τ.I × Unit→Option (Bool × Unit)) × Int × Int)→Option (Int × Unit)}
    (hB:∀ k l g n i,B k (l,g,n,i) = bif decide (i < n) then inR i (List.length l:Int) (Option.bind g fun q0=>Option.bind (q0 (ix (zd τ) l i,())) fun q1=>bif q1.1 then some (i,()) else k (l,g,n,wI (i + 1))) else some (-1,()))
    (hl:l.length ≤ Go.maxLen) (hp:∀ x ∈ l,g (x,()) = some (p x,())):zg B K0 (l,some g,(l.length:Int),0) = some (jf p l 0,()):=by
  have:=vA (α:=Unit) (B:=B) hl (fun i _=>(l,some g,(l.length:Int),i)) (fun i _=>some (jf p (l.drop i) i,())) (fun _ _=>True) (fun k i s hi _ h=>?_) (fun k s _=>?_) () trivial
  · simpa using this
  · rw [hB,ltT hi,zk hi,zG,Option.bind_some,hp _ (zV hi),Option.bind_some,h () trivial,jC (zd τ) hi]
    simp only [jf,cond_true]
    cases p (l.getD i (zd τ)) <;> rfl
  · rw [hB,ltF,List.drop_of_length_le (Nat.le_refl _)]; rfl
theorem qv {f:Fnc (.pair (.sl τ) (.pair (.fn (.pair τ .unit) (.pair .bool .unit)) .unit)) (.pair (.int .i64) .unit)} (hf:f (l,some g,()) = some (jf p l 0,())) :
    (Option.bind (f (l,some g,())) fun q0=>bif decide ((q0.1:Int) ≥ 0) then some (true,()) else some (false,())) = some (l.any p,()):=by
  rw [hf,Option.bind_some,zzC (p:=p) l 0 (Int.le_refl 0)]
  cases l.any p <;> rfl
theorem ve {α:Type} {l:List α} {p:α→Bool}:(!(l.any fun x=>!p x)) = l.all p:=by
  rw [List.not_any_eq_all_not]
  congr 1
  funext x
  simp
def eqL (τ:Ty) (a b:List τ.I):Bool:=decide (a.length = b.length) && (List.zip a b).all fun q=>eqI τ q.1 q.2
theorem ziQ (a b:Nat):((a:Int) != (b:Int)) = !decide (a = b):=by
  by_cases h:a = b
  · subst h; simp
  · have:(a:Int) ≠ (b:Int):=by omega
    simp [h,this]
theorem zzD {α β:Type} {d:α} {e:β}:∀ (a:List α) (b:List β) (i:Nat),i < a.length→i < b.length→(List.zip a b).getD i (d,e) = (a.getD i d,b.getD i e)
  | x :: a,y :: b,0,_,_=>rfl
  | x :: a,y :: b,i + 1,h1,h2=>zzD a b i (by simpa using h1) (by simpa using h2)
  | [],_,_,h,_=>by simp at h
  | _ :: _,[],_,_,h=>by simp at h
theorem yl {x:Option (List τ.I × Unit)} (h:l.length ≤ lim) (hx:x = bif decide (List.length (List.replicate 0 (zd τ)) + List.length l ≤ lim) then some (List.replicate 0 (zd τ) ++ l,()) else none) :
    (bif List.isEmpty l then zgo (some ([],())) x else x) = some (l,()):=by
  have e:x = some (l,()):=by rw [hx,decide_eq_true (by simpa using h)]; rfl
  rw [e]
  cases l with
  | nil=>exact zOo _
  | cons y l=>rfl
end
end Go.Ev
end
section
namespace Go.Proofs.YtejbgeokcpillaaGreatDoor
open Go.Ev
abbrev tMe:Ty:=.st (.pair (.int .i64) (.pair (.int .i64) (.pair (.int .i64) .unit)))
abbrev pMe:Type:=(Int × (Int × (Int × Unit)))
abbrev jb:Ty:=.st (.pair (.int .i64) (.pair (.int .i64) (.pair (.int .i64) (.pair .str .unit))))
abbrev zaL:Type:=(Int × (Int × (Int × (ByteArray × Unit))))
abbrev zt:Ty:=.st (.pair (.int .i64) (.pair (.int .u64) .unit))
abbrev zC:Type:=(Int × (Int × Unit))
abbrev ji:zC:=zd zt
abbrev zr:Ty:=.st (.pair .bool (.pair (.int .i64) (.pair (.int .i64) (.pair (.int .i64) (.pair (.int .i64) (.pair (.int .i64) (.pair (.int .u64) (.pair (.int .u64) (.pair (.int .u64) (.pair (.int .i64) .unit))))))))))
abbrev zu:Type:=(Bool × (Int × (Int × (Int × (Int × (Int × (Int × (Int × (Int × (Int × Unit))))))))))
abbrev zK:zu:=zd zr
abbrev zA:Ty:=.st (.pair (.int .u64) (.pair (.int .i64) (.pair (.int .i64) (.pair (.int .i64) (.pair (.int .i64) (.pair (.int .i64) (.pair (.int .i64) (.pair (.int .u64) (.pair (.int .u64) (.pair (.int .i64) .unit))))))))))
abbrev zJ:Type:=(Int × (Int × (Int × (Int × (Int × (Int × (Int × (Int × (Int × (Int × Unit))))))))))
abbrev vT:zJ:=zd zA
abbrev qk:Ty:=.st (.pair .bool (.pair .str .unit))
abbrev qV:Type:=(Bool × (ByteArray × Unit))
abbrev zhs:qV:=zd qk
abbrev zv:Ty:=.st (.pair (.int .i64) (.pair (.int .i64) .unit))
abbrev qy:Type:=(Int × (Int × Unit))
abbrev zzE:qy:=zd zv
abbrev zU:Ty:=.st (.pair .bool (.pair zv (.pair zv (.pair (.int .i64) .unit))))
abbrev qe:Type:=(Bool × (qy × (qy × (Int × Unit))))
abbrev qh:qe:=zd zU
abbrev zi:Ty:=.st (.pair .bool (.pair .str (.pair (.int .i64) (.pair (.int .i64) (.pair zv .unit)))))
abbrev zh:Type:=(Bool × (ByteArray × (Int × (Int × (qy × Unit)))))
abbrev zj:zh:=zd zi
abbrev zY:Ty:=.st (.pair .bool (.pair (.int .i64) (.pair (.int .i64) (.pair (.int .i64) (.pair .str .unit)))))
abbrev qr:Type:=(Bool × (Int × (Int × (Int × (ByteArray × Unit)))))
abbrev zaR:qr:=zd zY
abbrev zd0:Ty:=.st (.pair (.int .i64) (.pair (.int .u64) (.pair (.int .i64) .unit)))
abbrev zj8:Type:=(Int × (Int × (Int × Unit)))
abbrev zz:Ty:=.st (.pair .bool (.pair (.int .i64) (.pair (.int .i64) (.pair zd0 (.pair zd0 .unit)))))
abbrev zx:Type:=(Bool × (Int × (Int × (zj8 × (zj8 × Unit)))))
abbrev zR:zx:=zd zz
abbrev qm:Ty:=.st (.pair (.int .i64) (.pair (.int .i64) (.pair zv .unit)))
abbrev qS:Type:=(Int × (Int × (qy × Unit)))
abbrev zcl:Ty:=.st (.pair (.int .i64) (.pair (.int .i64) (.pair (.int .i64) (.pair (.int .i64) (.pair (.int .i64) (.pair (.int .u64) .unit))))))
abbrev zbm:Type:=(Int × (Int × (Int × (Int × (Int × (Int × Unit))))))
abbrev qt:zbm:=zd zcl
abbrev qD:Ty:=.st (.pair .str (.pair .str (.pair (.int .i64) (.pair .bool .unit))))
abbrev qA:Type:=(ByteArray × (ByteArray × (Int × (Bool × Unit))))
abbrev qQ:qA:=zd qD
abbrev jt:Ty:=.st (.pair (.int .i64) (.pair (.int .i64) .unit))
abbrev zE:Type:=(Int × (Int × Unit))
abbrev qB:zE:=zd jt
abbrev vU:Ty:=.st (.pair (.sl zz) (.pair (.fn (.pair zz .unit) (.pair .bool .unit)) .unit))
abbrev zcm:Type:=((List zx) × ((Option ((zx × Unit)→Option (Bool × Unit))) × Unit))
abbrev ym:Ty:=.st (.pair (.sl zi) (.pair (.fn (.pair zi .unit) (.pair .bool .unit)) .unit))
abbrev zcn:Type:=((List zh) × ((Option ((zh × Unit)→Option (Bool × Unit))) × Unit))
abbrev y7:Ty:=.st (.pair (.sl zr) (.pair (.fn (.pair zr .unit) (.pair .bool .unit)) .unit))
abbrev zfn:Type:=((List zu) × ((Option ((zu × Unit)→Option (Bool × Unit))) × Unit))
abbrev znO:Ty:=.st (.pair (.int .u8) (.pair (.int .u8) .unit))
abbrev zw:Ty:=.st (.pair (.sl zt) (.pair (.sl (.int .i64)) (.pair (.sl qD) (.pair (.sl jt) (.pair (.sl zcl) (.pair (.int .i64) (.pair (.int .i64) (.pair (.int .i64) (.pair (.int .i64) .unit)))))))))
abbrev ze:Type:=((List zC) × ((List Int) × ((List qA) × ((List zE) × ((List zbm) × (Int × (Int × (Int × (Int × Unit)))))))))
abbrev zy:Ty:=.st (.pair (.sl qk) (.pair (.sl zU) (.pair (.sl zi) (.pair (.sl zY) (.pair (.sl zz) (.pair (.sl (.arr 4 (.int .u64))) (.pair (.sl zv) (.pair (.arr 4 (.int .u64)) (.pair (.arr 4 (.int .u64)) .unit)))))))))
abbrev zp:Type:=((List qV) × ((List qe) × ((List zh) × ((List qr) × ((List zx) × ((List (List Int)) × ((List qy) × ((List Int) × ((List Int) × Unit)))))))))
abbrev zf:zp:=zd zy
abbrev zn:Ty:=.st (.pair (.int .u64) (.pair (.sl zy) (.pair (.sl (.sl (.int .i64))) (.pair (.sl zr) (.pair (.sl zA) (.pair (.sl (.int .i64)) .unit))))))
abbrev zb:Type:=(Int × ((List zp) × ((List (List Int)) × ((List zu) × ((List zJ) × ((List Int) × Unit))))))
abbrev qp:Ty:=.st (.pair zw (.pair zn .unit))
abbrev qW:Type:=(ze × (zb × Unit))
def types:TT:=(.node (.node (.node (.node (.node (.node (.node (.node (.node .nil 1 (.fn .unit .unit) .nil) 2 (.int .i64) .nil) 3 (.int .i64) (.node .nil 4 .bool .nil)) 5 (.int .u8) (.node (.node (.node .nil 6 (.int .u8) .nil) 7 (.st (.pair (.int .i64) (.pair (.int .i64) (.pair .bool (.pair (.int .u8) .unit))))) .nil) 8 (.st (.pair (.int .i64) (.pair (.int .i64) (.pair .bool (.pair (.int .u8) .unit))))) (.node .nil 9 .str .nil))) 10 .str (.node (.node (.node (.node .nil 11 .str .nil) 12 (.int .u64) .nil) 21 (.int .i32) (.node .nil 22 (.sl zt) .nil)) 23 (.sl (.int .i64)) (.node (.node .nil 24 (.sl qD) .nil) 25 (.sl jt) (.node .nil 26 (.sl zcl) .nil)))) 27 (.st (.pair (.sl zt) (.pair (.sl (.int .i64)) (.pair (.sl qD) (.pair (.sl jt) (.pair (.sl zcl) (.pair (.int .i64) (.pair (.int .i64) (.pair (.int .i64) (.pair (.int .i64) .unit)))))))))) (.node (.node (.node (.node (.node .nil 28 zw .nil) 29 (.int .u64) .nil) 30 (.sl zy) (.node .nil 31 (.sl (.sl (.int .i64))) .nil)) 32 (.sl zr) (.node (.node (.node .nil 33 (.sl zA) .nil) 34 (.st (.pair (.int .u64) (.pair (.sl zy) (.pair (.sl (.sl (.int .i64))) (.pair (.sl zr) (.pair (.sl zA) (.pair (.sl (.int .i64)) .unit))))))) .nil) 35 zn (.node .nil 36 (.st (.pair (.int .i64) (.pair (.int .i64) (.pair (.int .i64) .unit)))) .nil))) 37 tMe (.node (.node (.node (.node .nil 38 (.st (.pair (.int .i64) (.pair (.int .i64) (.pair (.int .i64) (.pair .str .unit))))) .nil) 39 jb .nil) 40 (.fn (.pair zn .unit) (.pair zn .unit)) (.node .nil 41 (.int .i64) .nil)) 43 (.fn (.pair zw (.pair zn (.pair tMe (.pair jb .unit)))) (.pair zn (.pair (.int .i64) (.pair (.int .i64) .unit)))) (.node (.node .nil 44 (.fn (.pair zw (.pair zn (.pair tMe (.pair (.int .i64) (.pair (.int .i64) (.pair (.int .i64) (.pair .str .unit))))))) (.pair zn (.pair (.int .i64) (.pair (.int .i64) .unit)))) .nil) 46 (.fn (.pair zw (.pair zn (.pair tMe .unit))) (.pair (.sl (.int .i64)) (.pair (.int .i64) .unit))) (.node .nil 47 (.sl zv) .nil))))) 49 (.fn (.pair zw (.pair zn (.pair tMe .unit))) (.pair (.sl zv) (.pair (.int .i64) .unit))) (.node (.node (.node (.node (.node (.node .nil 50 (.fn .unit (.pair .bool .unit)) .nil) 51 (.fn (.pair zn (.pair zn .unit)) (.pair .bool .unit)) .nil) 52 (.fn (.pair (.sl (.int .i64)) (.pair (.sl (.int .i64)) .unit)) (.pair .bool .unit)) (.node .nil 53 (.fn (.pair (.sl zv) (.pair (.sl zv) .unit)) (.pair .bool .unit)) .nil)) 54 (.fn (.pair zw (.pair zn (.pair tMe (.pair jb .unit)))) (.pair .bool .unit)) (.node (.node (.node .nil 55 (.st (.pair (.int .i64) (.pair (.int .u64) .unit))) .nil) 56 zt .nil) 57 (.fn (.pair zw (.pair zn (.pair tMe .unit))) (.pair .bool .unit)) (.node .nil 58 (.fn (.pair zw (.pair zn .unit)) (.pair .bool .unit)) .nil))) 59 (.fn (.pair zn .unit) (.pair (.int .i64) .unit)) (.node (.node (.node (.node .nil 60 (.fn (.pair zt (.pair zt .unit)) (.pair .bool .unit)) .nil) 61 (.fn (.pair zt .unit) (.pair .bool .unit)) .nil) 62 (.fn (.pair zw (.pair zn (.pair zn (.pair zt .unit)))) (.pair .bool .unit)) (.node .nil 63 (.fn (.pair zw (.pair zn (.pair tMe (.pair jb (.pair zt .unit))))) (.pair .bool .unit)) .nil)) 64 (.fn (.pair zw (.pair zn (.pair zn (.pair tMe (.pair jb (.pair zt .unit)))))) (.pair .bool .unit)) (.node (.node .nil 65 (.fn (.pair (.sl zr) .unit) (.pair (.sl zr) .unit)) .nil) 66 (.st (.pair .bool (.pair (.int .i64) (.pair (.int .i64) (.pair (.int .i64) (.pair (.int .i64) (.pair (.int .i64) (.pair (.int .u64) (.pair (.int .u64) (.pair (.int .u64) (.pair (.int .i64) .unit))))))))))) (.node .nil 67 zr .nil)))) 68 (.fn (.pair (.sl zA) .unit) (.pair (.sl zA) .unit)) (.node (.node (.node (.node (.node .nil 69 (.st (.pair (.int .u64) (.pair (.int .i64) (.pair (.int .i64) (.pair (.int .i64) (.pair (.int .i64) (.pair (.int .i64) (.pair (.int .i64) (.pair (.int .u64) (.pair (.int .u64) (.pair (.int .i64) .unit))))))))))) .nil) 70 zA .nil) 71 (.fn (.pair (.sl (.int .i64)) .unit) (.pair (.sl (.int .i64)) .unit)) (.node .nil 72 (.fn (.pair (.sl (.sl (.int .i64))) .unit) (.pair (.sl (.sl (.int .i64))) .unit)) .nil)) 73 (.fn (.pair (.sl zy) .unit) (.pair (.sl zy) .unit)) (.node (.node .nil 74 (.sl qk) .nil) 75 (.sl zU) (.node .nil 76 (.sl zi) .nil))) 77 (.sl zY) (.node (.node (.node (.node .nil 78 (.sl zz) .nil) 79 (.sl (.arr 4 (.int .u64))) .nil) 80 (.arr 4 (.int .u64)) (.node .nil 81 (.st (.pair (.sl qk) (.pair (.sl zU) (.pair (.sl zi) (.pair (.sl zY) (.pair (.sl zz) (.pair (.sl (.arr 4 (.int .u64))) (.pair (.sl zv) (.pair (.arr 4 (.int .u64)) (.pair (.arr 4 (.int .u64)) .unit)))))))))) .nil)) 82 zy (.node (.node .nil 83 (.fn (.pair (.sl qk) .unit) (.pair (.sl qk) .unit)) .nil) 84 (.st (.pair .bool (.pair .str .unit))) (.node .nil 85 qk .nil)))))) 86 (.fn (.pair (.sl zU) .unit) (.pair (.sl zU) .unit)) (.node (.node (.node (.node (.node (.node (.node .nil 87 (.st (.pair (.int .i64) (.pair (.int .i64) .unit))) .nil) 88 zv .nil) 89 (.st (.pair .bool (.pair zv (.pair zv (.pair (.int .i64) .unit))))) (.node .nil 90 zU .nil)) 91 (.fn (.pair (.sl zi) .unit) (.pair (.sl zi) .unit)) (.node (.node (.node .nil 92 (.st (.pair .bool (.pair .str (.pair (.int .i64) (.pair (.int .i64) (.pair zv .unit)))))) .nil) 93 zi .nil) 94 (.fn (.pair (.sl zY) .unit) (.pair (.sl zY) .unit)) (.node .nil 95 (.st (.pair .bool (.pair (.int .i64) (.pair (.int .i64) (.pair (.int .i64) (.pair .str .unit)))))) .nil))) 96 zY (.node (.node (.node (.node .nil 97 (.fn (.pair (.sl zz) .unit) (.pair (.sl zz) .unit)) .nil) 98 (.st (.pair (.int .i64) (.pair (.int .u64) (.pair (.int .i64) .unit)))) .nil) 99 zd0 (.node .nil 100 (.st (.pair .bool (.pair (.int .i64) (.pair (.int .i64) (.pair zd0 (.pair zd0 .unit)))))) .nil)) 101 zz (.node (.node .nil 102 (.fn (.pair (.sl (.arr 4 (.int .u64))) .unit) (.pair (.sl (.arr 4 (.int .u64))) .unit)) .nil) 103 (.fn (.pair (.sl zv) .unit) (.pair (.sl zv) .unit)) (.node .nil 104 (.fn (.pair zw (.pair zn (.pair tMe (.pair .str .unit)))) (.pair zn (.pair (.int .i64) (.pair (.int .i64) .unit)))) .nil)))) 106 (.fn (.pair zw (.pair zn (.pair tMe (.pair (.int .i64) .unit)))) (.pair zn (.pair (.int .i64) .unit))) (.node (.node (.node (.node (.node .nil 107 (.fn (.pair zw (.pair zn (.pair tMe (.pair (.int .i64) (.pair (.int .i64) .unit))))) (.pair zn (.pair (.int .i64) .unit))) .nil) 109 (.fn (.pair (.sl zi) (.pair .str (.pair (.int .i64) .unit))) (.pair (.sl zi) (.pair (.int .i64) (.pair (.int .i64) .unit)))) .nil) 111 (.fn (.pair (.sl zi) (.pair (.int .i64) (.pair (.int .i64) .unit))) (.pair (.sl zi) (.pair (.int .i64) .unit))) (.node .nil 112 (.fn (.pair (.sl zi) (.pair (.int .i64) (.pair (.int .i64) (.pair zv .unit)))) (.pair (.sl zi) (.pair (.int .i64) .unit))) .nil)) 113 (.fn (.pair zn (.pair tMe .unit)) (.pair zv .unit)) (.node (.node (.node .nil 114 (.fn (.pair (.sl zi) (.pair (.int .i64) (.pair (.int .i64) .unit))) (.pair .bool .unit)) .nil) 115 (.fn (.pair (.sl zi) (.pair (.int .i64) (.pair (.int .i64) (.pair (.int .i64) (.pair (.int .i64) .unit))))) (.pair (.sl zi) (.pair (.int .i64) .unit))) .nil) 116 (.fn (.pair zn (.pair (.int .i64) (.pair zy .unit))) (.pair zn .unit)) (.node .nil 117 (.fn (.pair (.sl zi) (.pair (.int .i64) .unit)) (.pair (.sl (.int .i64)) .unit)) .nil))) 118 (.fn (.pair zn (.pair tMe .unit)) (.pair (.sl zi) .unit)) (.node (.node (.node (.node .nil 119 (.fn (.pair zw (.pair (.int .i64) (.pair (.int .i64) .unit))) (.pair .bool .unit)) .nil) 120 (.fn (.pair (.sl zi) (.pair zv .unit)) (.pair (.sl (.int .i64)) .unit)) .nil) 121 (.fn .unit (.pair zw .unit)) (.node .nil 122 (.fn (.pair zw .unit) (.pair zn (.pair (.int .i64) .unit))) .nil)) 123 (.fn (.pair (.sl (.sl (.int .i64))) (.pair (.sl (.sl (.int .i64))) .unit)) (.pair .bool .unit)) (.node (.node .nil 124 (.fn (.pair (.sl zr) (.pair (.sl zr) .unit)) (.pair .bool .unit)) .nil) 125 (.fn (.pair (.sl zA) (.pair (.sl zA) .unit)) (.pair .bool .unit)) (.node .nil 126 (.fn (.pair zy (.pair zy .unit)) (.pair .bool .unit)) .nil))))) 127 (.st (.pair zw (.pair zn .unit))) (.node (.node (.node (.node (.node (.node .nil 128 qp .nil) 129 (.sl (.fn .unit (.pair .bool .unit))) .nil) 130 (.fn (.pair zw (.pair zn (.pair zt .unit))) (.pair zn (.pair (.int .i64) .unit))) (.node .nil 131 (.fn (.pair zw (.pair zn (.pair tMe (.pair (.fn (.pair (.sl zi) .unit) (.pair (.sl zi) (.pair (.int .i64) .unit))) .unit)))) (.pair zn (.pair (.int .i64) .unit))) .nil)) 132 (.fn (.pair (.sl zi) .unit) (.pair (.sl zi) (.pair (.int .i64) .unit))) (.node (.node (.node .nil 133 (.fn (.pair (.sl zi) (.pair (.int .i64) (.pair (.int .i64) (.pair (.int .i64) .unit)))) (.pair (.sl zi) (.pair (.int .i64) .unit))) .nil) 134 (.fn (.pair zw (.pair tMe .unit)) (.pair .bool .unit)) .nil) 135 (.fn (.pair (.sl zi) .unit) (.pair .bool .unit)) (.node .nil 136 (.fn (.pair (.int .i64) .unit) (.pair .bool .unit)) .nil))) 137 (.fn (.pair .str .unit) (.pair .bool .unit)) (.node (.node (.node (.node .nil 138 (.fn (.pair (.sl zi) (.pair (.int .i64) (.pair zi .unit))) (.pair (.sl zi) .unit)) .nil) 139 (.fn (.pair zv .unit) (.pair .bool .unit)) .nil) 140 (.fn (.pair (.sl zi) (.pair qm .unit)) (.pair (.sl (.int .i64)) .unit)) (.node .nil 141 (.st (.pair (.int .i64) (.pair (.int .i64) (.pair zv .unit)))) .nil)) 142 qm (.node (.node .nil 143 (.fn (.pair (.int .i64) .unit) (.pair qm .unit)) .nil) 144 (.fn (.pair zw (.pair (.int .i64) .unit)) (.pair .bool .unit)) (.node .nil 145 (.fn (.pair zv .unit) (.pair qm .unit)) .nil)))) 146 (.st (.pair (.int .i64) (.pair (.int .i64) (.pair (.int .i64) (.pair (.int .i64) (.pair (.int .i64) (.pair (.int .u64) .unit))))))) (.node (.node (.node (.node (.node .nil 147 zcl .nil) 148 (.st (.pair .str (.pair .str (.pair (.int .i64) (.pair .bool .unit))))) .nil) 149 qD (.node .nil 150 (.st (.pair (.int .i64) (.pair (.int .i64) .unit))) .nil)) 151 jt (.node (.node .nil 152 (.fn (.pair zw .unit) (.pair .bool .unit)) .nil) 153 (.fn (.pair zw .unit) (.pair (.sl (.sl (.int .i64))) .unit)) (.node .nil 154 (.fn (.pair zw (.pair zcl .unit)) (.pair zy .unit)) .nil))) 155 (.fn (.pair (.sl qk) (.pair (.sl qk) .unit)) (.pair .bool .unit)) (.node (.node (.node (.node .nil 156 (.fn (.pair (.sl zU) (.pair (.sl zU) .unit)) (.pair .bool .unit)) .nil) 157 (.fn (.pair (.sl zi) (.pair (.sl zi) .unit)) (.pair .bool .unit)) .nil) 158 (.fn (.pair (.sl zY) (.pair (.sl zY) .unit)) (.pair .bool .unit)) (.node .nil 159 (.fn (.pair (.sl zz) (.pair (.sl zz) .unit)) (.pair .bool .unit)) .nil)) 160 (.fn (.pair (.sl zy) (.pair (.fn (.pair zy .unit) (.pair .bool .unit)) .unit)) (.pair .bool .unit)) (.node (.node .nil 161 (.fn (.pair (.sl qk) .unit) (.pair .bool .unit)) .nil) 162 (.fn (.pair (.sl zU) .unit) (.pair .bool .unit)) (.node .nil 163 (.fn (.pair (.sl zY) .unit) (.pair .bool .unit)) .nil))))))) 164 (.fn (.pair (.sl zz) .unit) (.pair .bool .unit)) (.node (.node (.node (.node (.node (.node (.node (.node .nil 165 (.fn (.pair zy .unit) (.pair .bool .unit)) .nil) 166 (.fn (.pair zw (.pair (.sl (.sl (.int .i64))) .unit)) (.pair .bool .unit)) .nil) 167 (.fn (.pair (.sl zr) .unit) (.pair .bool .unit)) (.node .nil 168 (.fn (.pair (.sl zA) .unit) (.pair .bool .unit)) .nil)) 169 (.fn (.pair zn (.pair zv .unit)) (.pair .bool .unit)) (.node (.node (.node .nil 170 (.fn (.pair (.sl zr) (.pair (.fn (.pair zr .unit) (.pair .bool .unit)) .unit)) (.pair .bool .unit)) .nil) 171 (.fn (.pair zr .unit) (.pair .bool .unit)) .nil) 172 (.fn (.pair (.sl zA) (.pair (.fn (.pair zA .unit) (.pair .bool .unit)) .unit)) (.pair .bool .unit)) (.node .nil 173 (.fn (.pair zA .unit) (.pair .bool .unit)) .nil))) 174 (.fn (.pair (.sl (.int .i64)) (.pair (.fn (.pair (.int .i64) .unit) (.pair .bool .unit)) .unit)) (.pair .bool .unit)) (.node (.node (.node (.node .nil 175 (.fn (.pair (.int .i64) .unit) (.pair (.fn (.pair zv .unit) (.pair .bool .unit)) .unit)) .nil) 176 (.fn (.pair (.sl zU) (.pair (.fn (.pair zU .unit) (.pair .bool .unit)) .unit)) (.pair .bool .unit)) .nil) 177 (.fn (.pair zU .unit) (.pair .bool .unit)) (.node .nil 178 (.fn (.pair (.sl zi) (.pair (.fn (.pair zi .unit) (.pair .bool .unit)) .unit)) (.pair .bool .unit)) .nil)) 179 (.fn (.pair zi .unit) (.pair .bool .unit)) (.node (.node .nil 180 (.fn (.pair (.sl zv) (.pair (.fn (.pair zv .unit) (.pair .bool .unit)) .unit)) (.pair .bool .unit)) .nil) 181 (.fn (.pair (.sl zY) (.pair (.fn (.pair zY .unit) (.pair .bool .unit)) .unit)) (.pair .bool .unit)) (.node .nil 182 (.fn (.pair (.int .i64) (.pair (.int .i64) .unit)) (.pair .bool .unit)) .nil)))) 183 (.fn (.pair zY .unit) (.pair .bool .unit)) (.node (.node (.node (.node (.node .nil 184 (.fn (.pair (.sl zz) (.pair (.fn (.pair zz .unit) (.pair .bool .unit)) .unit)) (.pair .bool .unit)) .nil) 185 (.fn (.pair zz .unit) (.pair .bool .unit)) .nil) 186 (.ptr vU) (.node .nil 187 (.fn (.pair (.sl zz) (.pair (.fn (.pair zz .unit) (.pair .bool .unit)) .unit)) (.pair (.ptr vU) .unit)) .nil)) 188 (.fn .unit (.pair (.sl (.int .i64)) .unit)) (.node (.node (.node .nil 190 (.fn (.pair zn (.pair (.int .i64) .unit)) (.pair (.int .u64) (.pair (.int .i64) .unit))) .nil) 192 (.fn (.pair (.int .i64) .unit) (.pair zt (.pair (.int .i64) .unit))) .nil) 193 (.fn (.pair (.sl zy) (.pair (.sl zy) (.pair (.fn (.pair (.int .i64) .unit) (.pair .bool .unit)) .unit))) (.pair (.sl zy) .unit)) (.node .nil 194 (.fn (.pair (.sl (.sl (.int .i64))) (.pair (.sl (.sl (.int .i64))) (.pair (.fn (.pair (.int .i64) .unit) (.pair .bool .unit)) .unit))) (.pair (.sl (.sl (.int .i64))) .unit)) .nil))) 195 (.fn (.pair (.sl (.int .i64)) (.pair (.sl (.int .i64)) (.pair (.fn (.pair (.int .i64) .unit) (.pair .bool .unit)) .unit))) (.pair (.sl (.int .i64)) .unit)) (.node (.node (.node (.node .nil 196 (.fn (.pair (.sl zy) (.pair (.sl zy) (.pair (.fn (.pair zy (.pair zy .unit)) (.pair .bool .unit)) .unit))) (.pair .bool .unit)) .nil) 197 (.fn (.pair (.sl (.sl (.int .i64))) (.pair (.sl (.sl (.int .i64))) (.pair (.fn (.pair (.sl (.int .i64)) (.pair (.sl (.int .i64)) .unit)) (.pair .bool .unit)) .unit))) (.pair .bool .unit)) .nil) 198 (.ptr ym) (.node .nil 199 (.fn (.pair (.sl zi) .unit) (.pair (.ptr ym) .unit)) .nil)) 200 (.fn (.pair zi .unit) (.pair (.sl zi) (.pair (.int .i64) (.pair (.int .i64) .unit)))) (.node (.node .nil 201 (.fn (.pair zi (.pair qm .unit)) (.pair zi .unit)) .nil) 202 (.fn (.pair (.sl zi) (.pair (.int .i64) (.pair qm (.pair qm .unit)))) (.pair (.sl zi) (.pair (.int .i64) .unit))) (.node .nil 203 (.fn (.pair (.int .i64) (.pair zi .unit)) (.pair (.sl zi) (.pair (.int .i64) .unit))) .nil))))) 204 (.fn (.pair zw (.pair zn (.pair (.int .i64) .unit))) (.pair .bool .unit)) (.node (.node (.node (.node (.node (.node .nil 205 (.fn (.pair zi .unit) (.pair qm .unit)) .nil) 206 (.fn (.pair (.int .i64) (.pair (.int .i64) (.pair (.int .i64) .unit))) (.pair .bool .unit)) .nil) 207 (.fn (.pair zt (.pair (.int .i64) .unit)) (.pair .bool .unit)) (.node .nil 208 (.sl (.fn (.pair zw .unit) (.pair .bool .unit))) .nil)) 209 (.fn (.pair (.sl qk) (.pair (.fn (.pair qk .unit) (.pair .bool .unit)) .unit)) (.pair .bool .unit)) (.node (.node (.node .nil 210 (.fn (.pair qk .unit) (.pair .bool .unit)) .nil) 211 (.fn (.pair (.sl zU) (.pair zv (.pair (.int .i64) .unit))) (.pair (.int .i64) .unit)) .nil) 212 (.pair (.int .i64) (.int .i64)) (.node .nil 213 (.fn (.pair zA (.pair zA .unit)) (.pair (.int .i64) .unit)) .nil))) 214 (.st (.pair (.sl zz) (.pair (.fn (.pair zz .unit) (.pair .bool .unit)) .unit))) (.node (.node (.node (.node .nil 215 vU .nil) 216 (.fn (.pair (.sl zr) (.pair (.int .i64) .unit)) (.pair (.int .u64) (.pair (.int .i64) .unit))) .nil) 217 (.sl (.int .u64)) (.node .nil 218 (.fn (.pair (.sl zz) (.pair (.int .i64) .unit)) (.pair (.int .u64) (.pair (.int .i64) .unit))) .nil)) 219 (.fn (.pair (.sl (.int .u64)) .unit) (.pair (.int .u64) (.pair (.int .i64) .unit))) (.node (.node .nil 220 (.fn (.pair zn (.pair (.int .i64) (.pair (.fn (.pair zy .unit) (.pair (.arr 4 (.int .u64)) .unit)) .unit))) (.pair (.int .u64) (.pair (.int .i64) .unit))) .nil) 221 (.fn (.pair zy .unit) (.pair (.arr 4 (.int .u64)) .unit)) (.node .nil 222 (.fn (.pair (.int .u64) (.pair (.int .u64) .unit)) (.pair (.int .u64) (.pair (.int .i64) .unit))) .nil)))) 223 (.fn (.pair (.sl (.arr 4 (.int .u64))) (.pair (.sl (.arr 4 (.int .u64))) .unit)) (.pair .bool .unit)) (.node (.node (.node (.node (.node .nil 224 (.fn (.pair (.int .u8) .unit) (.pair .bool .unit)) .nil) 225 (.fn (.pair .str (.pair (.fn (.pair (.int .u8) .unit) (.pair .bool .unit)) .unit)) (.pair .bool .unit)) .nil) 226 (.fn (.pair (.sl zi) (.pair (.fn (.pair zi .unit) (.pair .bool .unit)) .unit)) (.pair (.ptr ym) .unit)) (.node .nil 228 (.fn .unit (.pair (.int .i64) (.pair (.int .i64) .unit))) .nil)) 229 (.st (.pair (.sl zi) (.pair (.fn (.pair zi .unit) (.pair .bool .unit)) .unit))) (.node (.node .nil 230 ym .nil) 231 (.fn (.pair (.sl zt) .unit) (.pair .bool .unit)) (.node .nil 232 (.fn (.pair (.sl qD) .unit) (.pair .bool .unit)) .nil))) 233 (.fn (.pair (.sl jt) (.pair (.sl zt) (.pair (.int .i64) .unit))) (.pair .bool .unit)) (.node (.node (.node (.node .nil 234 (.fn (.pair (.sl zcl) .unit) (.pair .bool .unit)) .nil) 235 (.fn (.pair zw (.pair zn (.pair zv (.pair (.int .i64) .unit)))) (.pair .bool .unit)) .nil) 236 (.fn (.pair zw (.pair zn (.pair (.int .i64) (.pair (.int .i64) .unit)))) (.pair .bool .unit)) (.node .nil 237 (.fn (.pair zw (.pair zy (.pair (.int .i64) .unit))) (.pair .bool .unit)) .nil)) 238 (.int .u64) (.node (.node .nil 239 (.fn (.pair (.sl zt) (.pair (.fn (.pair zt .unit) (.pair .bool .unit)) .unit)) (.pair .bool .unit)) .nil) 240 (.fn (.pair zt (.pair zt .unit)) (.pair (.int .i64) .unit)) (.node .nil 241 (.fn (.pair qD .unit) (.pair .bool .unit)) .nil)))))) 242 (.fn (.pair (.sl qD) (.pair (.fn (.pair qD .unit) (.pair .bool .unit)) .unit)) (.pair .bool .unit)) (.node (.node (.node (.node (.node (.node (.node .nil 243 (.fn (.pair (.sl .str) .unit) (.pair .bool .unit)) .nil) 244 (.sl .str) .nil) 245 (.fn (.pair zw .unit) (.pair (.sl .str) .unit)) (.node .nil 246 (.fn (.pair (.sl zt) (.pair zt .unit)) (.pair .bool .unit)) .nil)) 247 (.fn (.pair zcl .unit) (.pair (.sl (.int .i64)) .unit)) (.node (.node (.node .nil 248 (.fn (.pair (.sl zy) (.pair (.fn (.pair zy .unit) (.pair .bool .unit)) .unit)) (.pair (.int .i64) .unit)) .nil) 249 (.fn (.pair (.sl qk) (.pair (.fn (.pair qk .unit) (.pair .bool .unit)) .unit)) (.pair (.int .i64) .unit)) .nil) 250 (.fn (.pair (.sl zU) (.pair (.fn (.pair zU .unit) (.pair .bool .unit)) .unit)) (.pair (.int .i64) .unit)) (.node .nil 251 (.fn (.pair (.sl zi) (.pair (.fn (.pair zi .unit) (.pair .bool .unit)) .unit)) (.pair (.int .i64) .unit)) .nil))) 252 (.fn (.pair (.sl zY) (.pair (.fn (.pair zY .unit) (.pair .bool .unit)) .unit)) (.pair (.int .i64) .unit)) (.node (.node (.node (.node .nil 253 (.fn (.pair (.sl zz) (.pair (.fn (.pair zz .unit) (.pair .bool .unit)) .unit)) (.pair (.int .i64) .unit)) .nil) 254 (.fn (.pair zd0 .unit) (.pair .bool .unit)) .nil) 255 (.fn (.pair (.sl (.int .i64)) (.pair (.fn (.pair (.int .i64) .unit) (.pair .bool .unit)) .unit)) (.pair (.int .i64) .unit)) (.node .nil 256 (.fn (.pair (.int .i64) (.pair (.int .u64) (.pair (.int .u64) .unit))) (.pair (.int .u64) (.pair (.int .i64) .unit))) .nil)) 257 (.fn (.pair (.sl (.int .i64)) .unit) (.pair (.int .i64) .unit)) (.node (.node .nil 258 (.fn (.pair (.int .u64) (.pair (.int .u64) .unit)) (.pair (.int .i64) .unit)) .nil) 259 (.fn (.pair (.int .i64) (.pair (.int .i64) .unit)) (.pair (.int .i64) .unit)) (.node .nil 260 (.fn (.pair (.sl zr) (.pair (.fn (.pair zr .unit) (.pair .bool .unit)) .unit)) (.pair (.int .i64) .unit)) .nil)))) 261 (.fn (.pair (.sl zA) (.pair (.fn (.pair zA .unit) (.pair .bool .unit)) .unit)) (.pair (.int .i64) .unit)) (.node (.node (.node (.node (.node .nil 262 (.fn (.pair (.sl zv) (.pair (.fn (.pair zv .unit) (.pair .bool .unit)) .unit)) (.pair (.int .i64) .unit)) .nil) 263 (.fn (.pair (.sl zr) .unit) (.pair (.sl (.int .i64)) .unit)) .nil) 264 (.fn (.pair zr .unit) (.pair (.int .i64) .unit)) (.node .nil 265 (.fn (.pair (.sl zz) .unit) (.pair (.ptr vU) .unit)) .nil)) 267 (.fn (.pair (.int .u64) (.pair (.int .u64) (.pair (.int .u64) .unit))) (.pair (.int .u64) (.pair (.int .u64) .unit))) (.node (.node .nil 268 (.fn (.pair (.sl (.int .u8)) (.pair (.fn (.pair (.int .u8) .unit) (.pair .bool .unit)) .unit)) (.pair .bool .unit)) .nil) 269 (.sl (.int .u8)) (.node .nil 270 (.fn (.pair (.sl zt) (.pair zt .unit)) (.pair (.int .i64) .unit)) .nil))) 271 (.fn (.pair (.int .i64) .unit) (.pair zt .unit)) (.node (.node (.node (.node .nil 272 (.fn (.pair (.sl jt) (.pair (.int .i64) .unit)) (.pair .bool .unit)) .nil) 273 (.fn (.pair (.sl zr) (.pair (.int .i64) (.pair (.int .i64) .unit))) (.pair .bool .unit)) .nil) 274 (.fn (.pair zA (.pair zA .unit)) (.pair .bool .unit)) (.node .nil 275 (.fn (.pair zr (.pair (.int .i64) .unit)) (.pair (.int .u64) .unit)) .nil)) 276 (.fn (.pair (.sl zt) (.pair (.fn (.pair zt .unit) (.pair .bool .unit)) .unit)) (.pair (.int .i64) .unit)) (.node (.node .nil 277 (.fn (.pair (.sl qD) (.pair (.fn (.pair qD .unit) (.pair .bool .unit)) .unit)) (.pair (.int .i64) .unit)) .nil) 278 (.pair .str (.int .i64)) (.node .nil 279 (.fn (.pair .str (.pair .str .unit)) (.pair .str .unit)) .nil))))) 280 (.fn (.pair (.int .u64) .unit) (.pair .bool .unit)) (.node (.node (.node (.node (.node (.node .nil 281 (.ptr y7) .nil) 282 (.fn (.pair (.sl zr) .unit) (.pair (.ptr y7) .unit)) .nil) 283 (.fn (.pair (.sl (.int .u8)) (.pair (.fn (.pair (.int .u8) .unit) (.pair .bool .unit)) .unit)) (.pair (.int .i64) .unit)) (.node .nil 284 (.fn (.pair .str (.pair (.int .u8) .unit)) (.pair .str .unit)) .nil)) 285 (.arr 256 .bool) (.node (.node (.node .nil 286 (.arr 256 .bool) .nil) 288 (.fn (.pair .str .unit) (.pair (.arr 256 .bool) (.pair .bool .unit))) .nil) 289 (.fn (.pair .str (.pair (.ptr (.arr 256 .bool)) .unit)) (.pair .str .unit)) (.node .nil 290 (.ptr (.arr 256 .bool)) .nil))) 291 (.fn (.pair (.int .u64) (.pair (.int .u64) .unit)) (.pair (.int .u64) (.pair (.int .u64) .unit))) (.node (.node (.node (.node .nil 292 (.fn (.pair (.sl zr) (.pair (.fn (.pair zr .unit) (.pair .bool .unit)) .unit)) (.pair (.ptr y7) .unit)) .nil) 293 (.st (.pair (.sl zr) (.pair (.fn (.pair zr .unit) (.pair .bool .unit)) .unit))) .nil) 294 y7 (.node .nil 296 (.fn (.pair .str .unit) (.pair (.int .i32) (.pair (.int .i64) .unit))) .nil)) 297 (.fn (.pair .str (.pair (.int .i32) .unit)) (.pair .bool .unit)) (.node (.node .nil 298 (.fn (.pair .str (.pair (.int .i32) .unit)) (.pair (.int .i64) .unit)) .nil) 299 (.arr 256 (.int .u8)) (.node .nil 300 (.st (.pair (.int .u8) (.pair (.int .u8) .unit))) .nil)))) 301 znO (.node (.node (.node (.node (.node .nil 302 (.arr 16 znO) .nil) 303 (.fn (.pair .str (.pair (.int .u8) .unit)) (.pair (.int .i64) .unit)) .nil) 304 (.fn (.pair (.int .i32) .unit) (.pair .bool .unit)) (.node .nil 305 (.fn (.pair (.int .i64) .unit) (.pair (.int .i64) .unit)) .nil)) 306 (.fn (.pair .str (.pair .str .unit)) (.pair (.int .i64) .unit)) (.node (.node .nil 307 (.fn .unit (.pair .str .unit)) .nil) 313 (.fn .unit (.pair (.int .i64) .unit)) (.node .nil 314 (.int .u32) .nil))) 315 (.int .u8) (.node (.node (.node (.node .nil 316 (.int .u8) .nil) 318 (.ptr (.int .u8)) .nil) 319 (.int .i32) (.node .nil 320 (.int .i32) .nil)) 323 (.fn (.pair zz .unit) (.pair (.sl zz) (.pair (.int .i64) (.pair (.int .i64) .unit)))) (.node (.node .nil 324 (.fn (.pair (.int .i64) (.pair zz .unit)) (.pair (.sl zz) (.pair (.int .i64) .unit))) .nil) 325 (.fn (.pair zr .unit) (.pair (.sl zr) (.pair (.int .i64) (.pair (.int .i64) .unit)))) (.node .nil 326 (.fn (.pair (.int .i64) (.pair zr .unit)) (.pair (.sl zr) (.pair (.int .i64) .unit))) .nil))))))))
def glob:List (Nat × AV):=[]
abbrev zgV:Ty:=(.pair zw (.pair zn (.pair tMe (.pair jb .unit))))
def ext:List (Nat × Bool):=[(292,false),(322,true)]
def E0:Env:=⟨types,[],glob,0,false,ext,[],fun _=>none,false,false⟩
theorem zNa:Tryz.prog.follows .mixedOrders = true:=by kernel_rfl
theorem mkS {l:List Fun} {d:Bool} {F:Fun} {f:Go.Func} {K:Nat} (hl:Sds Tryz.prog E0 l) (hf:Tryz.prog.funcs[F.id]? = some f) (ho:jq f = true) (h:evF (En E0 d l) K f F.md F.a F.r = F.spec):Sd Tryz.prog E0 F:=Sd.mk zNa hl hf ho h
theorem zQ6 {l:List Fun} {d:Bool} {js:List Nat} {F:Fun} {f:Go.Func} {K:Nat} (hl:Sds Tryz.prog E0 l) (hf:Tryz.prog.funcs[F.id]? = some f) (ho:jq f = true) (h:evF (Ej E0 d js l) K f F.md F.a F.r = F.spec):Sd Tryz.prog E0 F:=Sd.mkJ zNa hl hf ho h
end Go.Proofs.YtejbgeokcpillaaGreatDoor
end
section
namespace Go.Proofs.YtejbgeokcpillaaGreatDoor
open Go.Ev
noncomputable section
abbrev Sq (F:Fun):Prop:=Sd Tryz.prog E0 F
def L0:List Fun:=[]
theorem h0:Sds Tryz.prog E0 L0:=trivial
theorem ms0 {d:Bool} {F:Fun} {f:Go.Func} {K:Nat} (hf:Tryz.prog.funcs[F.id]? = some f) (ho:jq f = true) (h:evF (En E0 d L0) K f F.md F.a F.r = F.spec):Sd Tryz.prog E0 F:=mkS h0 hf ho h
theorem ml0 {d:Bool} {F:Fun} {f:Go.Func} {S:Nat→F.a.I→Option F.r.I} (hf:Tryz.prog.funcs[F.id]? = some f) (ho:jq f = true) (h:∀ K,evF (En E0 d L0) K f F.md F.a F.r = S K) (e:S K0 = F.spec):Sd Tryz.prog E0 F:=mkS h0 hf ho ((h K0).trans e)
abbrev Es0:Env:=En E0 false L0
def zfo:((List zu) × Unit)→Option ((List zu) × Unit):=fun (x0,()) =>
  bif List.isEmpty x0 then zgo (some ([],())) (bif decide (List.length (List.replicate 0 (zd zr)) + List.length x0 ≤ lim) then some (List.replicate 0 (zd zr) ++ x0,()) else none) else bif decide (List.length (List.replicate 0 (zd zr)) + List.length x0 ≤ lim) then some (List.replicate 0 (zd zr) ++ x0,()) else none
abbrev zoA:Fun:=⟨23,(ch [(.sl zr)]),(ch [(.sl zr)]),1,zfo⟩
theorem zzF:Sq zoA:=ms0 (d:=false) (K:=0) Tryz.func23 (by kernel_rfl) (funext fun (x0,())=>by kernel_rfl)
def zjp:((List zJ) × Unit)→Option ((List zJ) × Unit):=fun (x0,()) =>
  bif List.isEmpty x0 then zgo (some ([],())) (bif decide (List.length (List.replicate 0 (zd zA)) + List.length x0 ≤ lim) then some (List.replicate 0 (zd zA) ++ x0,()) else none) else bif decide (List.length (List.replicate 0 (zd zA)) + List.length x0 ≤ lim) then some (List.replicate 0 (zd zA) ++ x0,()) else none
abbrev zoB:Fun:=⟨24,(ch [(.sl zA)]),(ch [(.sl zA)]),1,zjp⟩
theorem zzG:Sq zoB:=ms0 (d:=false) (K:=0) Tryz.func24 (by kernel_rfl) (funext fun (x0,())=>by kernel_rfl)
def zht:((List Int) × Unit)→Option ((List Int) × Unit):=fun (x0,()) =>
  bif List.isEmpty x0 then zgo (some ([],())) (bif decide (List.length (List.replicate 0 (0:Int)) + List.length x0 ≤ lim) then some (List.replicate 0 (0:Int) ++ x0,()) else none) else bif decide (List.length (List.replicate 0 (0:Int)) + List.length x0 ≤ lim) then some (List.replicate 0 (0:Int) ++ x0,()) else none
abbrev zr4:Fun:=⟨25,(ch [(.sl tI)]),(ch [(.sl tI)]),1,zht⟩
theorem zDu:Sq zr4:=ms0 (d:=false) (K:=0) Tryz.func25 (by kernel_rfl) (funext fun (x0,())=>by kernel_rfl)
def zj9:((List (List Int)) × Unit)→Option ((List (List Int)) × Unit):=fun (x0,()) =>
  bif List.isEmpty x0 then zgo (some ([],())) (bif decide (List.length (List.replicate 0 ([]:List Int)) + List.length x0 ≤ lim) then some (List.replicate 0 ([]:List Int) ++ x0,()) else none) else bif decide (List.length (List.replicate 0 ([]:List Int)) + List.length x0 ≤ lim) then some (List.replicate 0 ([]:List Int) ++ x0,()) else none
abbrev zqj:Fun:=⟨26,(ch [(.sl (.sl tI))]),(ch [(.sl (.sl tI))]),1,zj9⟩
theorem zBr:Sq zqj:=ms0 (d:=false) (K:=0) Tryz.func26 (by kernel_rfl) (funext fun (x0,())=>by kernel_rfl)
def zjq:((List zp) × Unit)→Option ((List zp) × Unit):=fun (x0,()) =>
  bif List.isEmpty x0 then zgo (some ([],())) (bif decide (List.length (List.replicate 0 (zd zy)) + List.length x0 ≤ lim) then some (List.replicate 0 (zd zy) ++ x0,()) else none) else bif decide (List.length (List.replicate 0 (zd zy)) + List.length x0 ≤ lim) then some (List.replicate 0 (zd zy) ++ x0,()) else none
abbrev zoC:Fun:=⟨27,(ch [(.sl zy)]),(ch [(.sl zy)]),1,zjq⟩
theorem zzH:Sq zoC:=ms0 (d:=false) (K:=0) Tryz.func27 (by kernel_rfl) (funext fun (x0,())=>by kernel_rfl)
def zka:((List qV) × Unit)→Option ((List qV) × Unit):=fun (x0,()) =>
  bif List.isEmpty x0 then zgo (some ([],())) (bif decide (List.length (List.replicate 0 (zd qk)) + List.length x0 ≤ lim) then some (List.replicate 0 (zd qk) ++ x0,()) else none) else bif decide (List.length (List.replicate 0 (zd qk)) + List.length x0 ≤ lim) then some (List.replicate 0 (zd qk) ++ x0,()) else none
abbrev zqk:Fun:=⟨28,(ch [(.sl qk)]),(ch [(.sl qk)]),1,zka⟩
theorem zBs:Sq zqk:=ms0 (d:=false) (K:=0) Tryz.func28 (by kernel_rfl) (funext fun (x0,())=>by kernel_rfl)
def zkb:((List qe) × Unit)→Option ((List qe) × Unit):=fun (x0,()) =>
  bif List.isEmpty x0 then zgo (some ([],())) (bif decide (List.length (List.replicate 0 (zd zU)) + List.length x0 ≤ lim) then some (List.replicate 0 (zd zU) ++ x0,()) else none) else bif decide (List.length (List.replicate 0 (zd zU)) + List.length x0 ≤ lim) then some (List.replicate 0 (zd zU) ++ x0,()) else none
abbrev zql:Fun:=⟨29,(ch [(.sl zU)]),(ch [(.sl zU)]),1,zkb⟩
theorem zBt:Sq zql:=ms0 (d:=false) (K:=0) Tryz.func29 (by kernel_rfl) (funext fun (x0,())=>by kernel_rfl)
def zco:((List zh) × Unit)→Option ((List zh) × Unit):=fun (x0,()) =>
  bif List.isEmpty x0 then zgo (some ([],())) (bif decide (List.length (List.replicate 0 (zd zi)) + List.length x0 ≤ lim) then some (List.replicate 0 (zd zi) ++ x0,()) else none) else bif decide (List.length (List.replicate 0 (zd zi)) + List.length x0 ≤ lim) then some (List.replicate 0 (zd zi) ++ x0,()) else none
abbrev zqm:Fun:=⟨30,(ch [(.sl zi)]),(ch [(.sl zi)]),1,zco⟩
theorem zBu:Sq zqm:=ms0 (d:=false) (K:=0) Tryz.func30 (by kernel_rfl) (funext fun (x0,())=>by kernel_rfl)
def zkc:((List qr) × Unit)→Option ((List qr) × Unit):=fun (x0,()) =>
  bif List.isEmpty x0 then zgo (some ([],())) (bif decide (List.length (List.replicate 0 (zd zY)) + List.length x0 ≤ lim) then some (List.replicate 0 (zd zY) ++ x0,()) else none) else bif decide (List.length (List.replicate 0 (zd zY)) + List.length x0 ≤ lim) then some (List.replicate 0 (zd zY) ++ x0,()) else none
abbrev zqn:Fun:=⟨31,(ch [(.sl zY)]),(ch [(.sl zY)]),1,zkc⟩
theorem zBv:Sq zqn:=ms0 (d:=false) (K:=0) Tryz.func31 (by kernel_rfl) (funext fun (x0,())=>by kernel_rfl)
def zfp:((List zx) × Unit)→Option ((List zx) × Unit):=fun (x0,()) =>
  bif List.isEmpty x0 then zgo (some ([],())) (bif decide (List.length (List.replicate 0 (zd zz)) + List.length x0 ≤ lim) then some (List.replicate 0 (zd zz) ++ x0,()) else none) else bif decide (List.length (List.replicate 0 (zd zz)) + List.length x0 ≤ lim) then some (List.replicate 0 (zd zz) ++ x0,()) else none
abbrev zoD:Fun:=⟨32,(ch [(.sl zz)]),(ch [(.sl zz)]),1,zfp⟩
theorem zzI:Sq zoD:=ms0 (d:=false) (K:=0) Tryz.func32 (by kernel_rfl) (funext fun (x0,())=>by kernel_rfl)
def zng:((List (List Int)) × Unit)→Option ((List (List Int)) × Unit):=fun (x0,()) =>
  bif List.isEmpty x0 then zgo (some ([],())) (bif decide (List.length (List.replicate 0 (zd (.arr 4 tU))) + List.length x0 ≤ lim) then some (List.replicate 0 (zd (.arr 4 tU)) ++ x0,()) else none) else bif decide (List.length (List.replicate 0 (zd (.arr 4 tU))) + List.length x0 ≤ lim) then some (List.replicate 0 (zd (.arr 4 tU)) ++ x0,()) else none
abbrev zuk:Fun:=⟨33,(ch [(.sl (.arr 4 tU))]),(ch [(.sl (.arr 4 tU))]),1,zng⟩
theorem zFP:Sq zuk:=ms0 (d:=false) (K:=0) Tryz.func33 (by kernel_rfl) (funext fun (x0,())=>by kernel_rfl)
def zlW:((List zE) × Unit)→Option ((List zE) × Unit):=fun (x0,()) =>
  bif List.isEmpty x0 then zgo (some ([],())) (bif decide (List.length (List.replicate 0 (zd zv)) + List.length x0 ≤ lim) then some (List.replicate 0 (zd zv) ++ x0,()) else none) else bif decide (List.length (List.replicate 0 (zd zv)) + List.length x0 ≤ lim) then some (List.replicate 0 (zd zv) ++ x0,()) else none
abbrev zr5:Fun:=⟨34,(ch [(.sl zv)]),(ch [(.sl zv)]),1,zlW⟩
theorem zDv:Sq zr5:=ms0 (d:=false) (K:=0) Tryz.func34 (by kernel_rfl) (funext fun (x0,())=>by kernel_rfl)
def ziR:(zC × Unit)→Option (Bool × Unit):=fun (x0,()) =>
  bif decide (x0.1 ≥ 0) then bif decide (x0.1 < 4) then some (true,()) else some (false,()) else some (false,())
abbrev zul:Fun:=⟨21,(ch [zt]),(ch [.bool]),0,ziR⟩
theorem zFQ:Sq zul:=ms0 (d:=false) (K:=0) Tryz.func21 (by kernel_rfl) (funext fun (x0,())=>by kernel_rfl)
def qw:(Int × (Int × (Int × Unit)))→Option (Bool × Unit):=fun (x0,x1,x2,()) =>
  bif decide (x0 ≥ x1) then bif decide (x0 ≤ x2) then some (true,()) else some (false,()) else some (false,())
abbrev zr6:Fun:=⟨168,(ch [tI,tI,tI]),(ch [.bool]),0,qw⟩
theorem zDw:Sq zr6:=ms0 (d:=false) (K:=0) Tryz.func168 (by kernel_rfl) (funext fun (x0,x1,x2,())=>by kernel_rfl)
abbrev vi:Type:=(List zC) × (Option ((zC × Unit)→Option (Bool × Unit))) × Int × Int
abbrev zrr:vi→St:=fun (v0,v1,v7,v8)=>St.mk [(0,.dat (.sl zt) v0),(1,.dat (.fn (.pair zt .unit) (.pair .bool .unit)) v1),(7,.dat tI v7),(8,.dat tI v8)] []
def zdI (k0:vi→Option (Int × Unit)):vi→Option (Int × Unit):=fun (v0,v1,v7,v8) =>
  bif decide (v8 < v7) then inR v8 ((List.length v0):Int) (Option.bind v1 fun q0=>Option.bind (q0 (ix ji v0 v8,())) fun q1=>bif q1.1 then some (v8,()) else k0 (v0,v1,v7,wI (v8 + 1))) else some ((-1),())
abbrev zio (K:Nat):vi→Option (Int × Unit):=zg zdI K
theorem zrs (K:Nat):∀ n,evV Es0 K Tryz.f310 0 (ch [tI]) [1,0,1,0] [] zrr n = zg zdI n:=zq fun n0 (v0,v1,v7,v8)=>by kernel_rfl
def zfq (L0:vi→Option (Int × Unit)):((List zC) × ((Option ((zC × Unit)→Option (Bool × Unit))) × Unit))→Option (Int × Unit):=fun (x0,x1,()) =>
  L0 (x0,x1,((List.length x0):Int),0)
def zaS:((List zC) × ((Option ((zC × Unit)→Option (Bool × Unit))) × Unit))→Option (Int × Unit):=zfq (zio K0)
abbrev zkd:Fun:=⟨310,(ch [(.sl zt),(.fn (ch [zt]) (ch [.bool]))]),(ch [tI]),0,zaS⟩
theorem ztP:Sq zkd:=ml0 (d:=false) (S:=fun K=>zfq (zio K)) Tryz.func310 (by kernel_rfl) (fun K=>tr1 (T:=zfq) (zrs K K) fun (x0,x1,())=>by kernel_rfl) rfl
def zaq:(Int × Unit)→Option (Bool × Unit):=fun (x0,()) =>
  bif x0 != x0 then some (true,()) else some (false,())
abbrev zqo:Fun:=⟨318,(ch [tI]),(ch [.bool]),0,zaq⟩
theorem zBw:Sq zqo:=ms0 (d:=false) (K:=0) Tryz.func318 (by kernel_rfl) (funext fun (x0,())=>by kernel_rfl)
def vB:(Int × Unit)→Option (Bool × Unit):=fun (x0,()) =>
  bif x0 != x0 then some (true,()) else some (false,())
abbrev zmQ:Fun:=⟨317,(ch [tU]),(ch [.bool]),0,vB⟩
theorem zwf:Sq zmQ:=ms0 (d:=false) (K:=0) Tryz.func317 (by kernel_rfl) (funext fun (x0,())=>by kernel_rfl)
abbrev zef:Type:=Int × (List Int) × Int × Int
abbrev zDx:zef→St:=fun (v3,v6,v7,v8)=>St.mk [(3,.dat tI v3),(6,.dat (.sl tI) v6),(7,.dat tI v7),(8,.dat tI v8)] []
def jg (k0:zef→Option (Int × Unit)):zef→Option (Int × Unit):=fun (v3,v6,v7,v8) =>
  bif decide (v8 < v7) then inR v8 ((List.length v6):Int) (bif ix (0:Int) v6 v8 != v3 then some (ix (0:Int) v6 v8,()) else k0 (v3,v6,v7,wI (v8 + 1))) else some (v3,())
abbrev zr7 (K:Nat):zef→Option (Int × Unit):=zg jg K
theorem zDy (K:Nat):∀ n,evV Es0 K Tryz.f282 0 (ch [tI]) [1,1,0,1,0] [] zDx n = zg jg n:=zq fun n0 (v3,v6,v7,v8)=>by kernel_rfl
def zoE (L0:zef→Option (Int × Unit)):((List Int) × Unit)→Option (Int × Unit):=fun (x0,()) =>
  L0 (0,x0,((List.length x0):Int),0)
def zeg:((List Int) × Unit)→Option (Int × Unit):=zoE (zr7 K0)
abbrev zwg:Fun:=⟨282,(ch [(.sl tI)]),(ch [tI]),0,zeg⟩
theorem zIn:Sq zwg:=ml0 (d:=false) (S:=fun K=>zoE (zr7 K)) Tryz.func282 (by kernel_rfl) (fun K=>tr1 (T:=zoE) (zDy K K) fun (x0,())=>by kernel_rfl) rfl
abbrev vV:Type:=(List Int) × (Option ((Int × Unit)→Option (Bool × Unit))) × Int × Int
abbrev ztQ:vV→St:=fun (v0,v1,v7,v8)=>St.mk [(0,.dat (.sl tI) v0),(1,.dat (.fn (.pair tI .unit) (.pair .bool .unit)) v1),(7,.dat tI v7),(8,.dat tI v8)] []
def zfr (k0:vV→Option (Int × Unit)):vV→Option (Int × Unit):=fun (v0,v1,v7,v8) =>
  bif decide (v8 < v7) then inR v8 ((List.length v0):Int) (Option.bind v1 fun q0=>Option.bind (q0 (ix (0:Int) v0 v8,())) fun q1=>bif q1.1 then some (v8,()) else k0 (v0,v1,v7,wI (v8 + 1))) else some ((-1),())
abbrev zke (K:Nat):vV→Option (Int × Unit):=zg zfr K
theorem ztR (K:Nat):∀ n,evV Es0 K Tryz.f278 0 (ch [tI]) [1,0,1,0] [] ztQ n = zg zfr n:=zq fun n0 (v0,v1,v7,v8)=>by kernel_rfl
def zgW (L0:vV→Option (Int × Unit)):((List Int) × ((Option ((Int × Unit)→Option (Bool × Unit))) × Unit))→Option (Int × Unit):=fun (x0,x1,()) =>
  L0 (x0,x1,((List.length x0):Int),0)
def zcp:((List Int) × ((Option ((Int × Unit)→Option (Bool × Unit))) × Unit))→Option (Int × Unit):=zgW (zke K0)
abbrev zmR:Fun:=⟨278,(ch [(.sl tI),(.fn (ch [tI]) (ch [.bool]))]),(ch [tI]),0,zcp⟩
theorem zwh:Sq zmR:=ml0 (d:=false) (S:=fun K=>zgW (zke K)) Tryz.func278 (by kernel_rfl) (fun K=>tr1 (T:=zgW) (ztR K K) fun (x0,x1,())=>by kernel_rfl) rfl
def zgX:(Int × Unit)→Option (Bool × Unit):=fun (x0,()) =>
  bif decide (x0 ≥ 97) then bif decide (x0 ≤ 122) then some (true,()) else some (false,()) else some (false,())
abbrev zwi:Fun:=⟨224,(ch [(.int .u8)]),(ch [.bool]),0,zgX⟩
theorem zIo:Sq zwi:=ms0 (d:=false) (K:=0) Tryz.func224 (by kernel_rfl) (funext fun (x0,())=>by kernel_rfl)
def zkf:(Int × ((Option (Option ((Int × Unit)→Option (Bool × Unit)))) × Unit))→Option (Bool × Unit):=fun (x0,x1,()) =>
  Option.bind x1 fun q0=>Option.bind q0 fun q1=>Option.bind (q1 (x0,())) fun q2=>bif q2.1 then some (false,()) else some (true,())
abbrev zwj:Fun:=⟨293,(ch [(.int .u8),(.ptr (.fn (ch [(.int .u8)]) (ch [.bool])))]),(ch [.bool]),0,zkf⟩
theorem zIp:Sq zwj:=ms0 (d:=false) (K:=0) Tryz.func293 (by kernel_rfl) (funext fun (x0,x1,())=>by kernel_rfl)
abbrev vC:Type:=(List Int) × (Option ((Int × Unit)→Option (Bool × Unit))) × Int × Int
abbrev zr8:vC→St:=fun (v0,v1,v7,v8)=>St.mk [(0,.dat (.sl (.int IntKind.u8)) v0),(1,.dat (.fn (.pair (.int IntKind.u8) .unit) (.pair .bool .unit)) v1),(7,.dat tI v7),(8,.dat tI v8)] []
def zeh (k0:vC→Option (Int × Unit)):vC→Option (Int × Unit):=fun (v0,v1,v7,v8) =>
  bif decide (v8 < v7) then inR v8 ((List.length v0):Int) (Option.bind v1 fun q0=>Option.bind (q0 (ix (zd (.int IntKind.u8)) v0 v8,())) fun q1=>bif q1.1 then some (v8,()) else k0 (v0,v1,v7,wI (v8 + 1))) else some ((-1),())
abbrev zjP (K:Nat):vC→Option (Int × Unit):=zg zeh K
theorem zr9 (K:Nat):∀ n,evV Es0 K Tryz.f323 0 (ch [tI]) [1,0,1,0] [] zr8 n = zg zeh n:=zq fun n0 (v0,v1,v7,v8)=>by kernel_rfl
def zgq (L0:vC→Option (Int × Unit)):((List Int) × ((Option ((Int × Unit)→Option (Bool × Unit))) × Unit))→Option (Int × Unit):=fun (x0,x1,()) =>
  L0 (x0,x1,((List.length x0):Int),0)
def zbS:((List Int) × ((Option ((Int × Unit)→Option (Bool × Unit))) × Unit))→Option (Int × Unit):=zgq (zjP K0)
abbrev zlw:Fun:=⟨323,(ch [(.sl (.int .u8)),(.fn (ch [(.int .u8)]) (ch [.bool]))]),(ch [tI]),0,zbS⟩
theorem zvt:Sq zlw:=ml0 (d:=false) (S:=fun K=>zgq (zjP K)) Tryz.func323 (by kernel_rfl) (fun K=>tr1 (T:=zgq) (zr9 K K) fun (x0,x1,())=>by kernel_rfl) rfl
def zkg:(Int × Unit)→Option (Bool × Unit):=fun (x0,()) =>
  bif decide (x0 ≥ 48) then bif decide (x0 ≤ 57) then some (true,()) else some (false,()) else some (false,())
abbrev zwk:Fun:=⟨227,(ch [(.int .u8)]),(ch [.bool]),0,zkg⟩
theorem zIq:Sq zwk:=ms0 (d:=false) (K:=0) Tryz.func227 (by kernel_rfl) (funext fun (x0,())=>by kernel_rfl)
abbrev jS:Type:=(List qA) × (Option ((qA × Unit)→Option (Bool × Unit))) × Int × Int
abbrev zoF:jS→St:=fun (v0,v1,v7,v8)=>St.mk [(0,.dat (.sl qD) v0),(1,.dat (.fn (.pair qD .unit) (.pair .bool .unit)) v1),(7,.dat tI v7),(8,.dat tI v8)] []
def zbn (k0:jS→Option (Int × Unit)):jS→Option (Int × Unit):=fun (v0,v1,v7,v8) =>
  bif decide (v8 < v7) then inR v8 ((List.length v0):Int) (Option.bind v1 fun q0=>Option.bind (q0 (ix qQ v0 v8,())) fun q1=>bif q1.1 then some (v8,()) else k0 (v0,v1,v7,wI (v8 + 1))) else some ((-1),())
abbrev zgY (K:Nat):jS→Option (Int × Unit):=zg zbn K
theorem zoG (K:Nat):∀ n,evV Es0 K Tryz.f311 0 (ch [tI]) [1,0,1,0] [] zoF n = zg zbn n:=zq fun n0 (v0,v1,v7,v8)=>by kernel_rfl
def zdJ (L0:jS→Option (Int × Unit)):((List qA) × ((Option ((qA × Unit)→Option (Bool × Unit))) × Unit))→Option (Int × Unit):=fun (x0,x1,()) =>
  L0 (x0,x1,((List.length x0):Int),0)
def y8:((List qA) × ((Option ((qA × Unit)→Option (Bool × Unit))) × Unit))→Option (Int × Unit):=zdJ (zgY K0)
abbrev ziq:Fun:=⟨311,(ch [(.sl qD),(.fn (ch [qD]) (ch [.bool]))]),(ch [tI]),0,y8⟩
theorem zrt:Sq ziq:=ml0 (d:=false) (S:=fun K=>zdJ (zgY K)) Tryz.func311 (by kernel_rfl) (fun K=>tr1 (T:=zdJ) (zoG K K) fun (x0,x1,())=>by kernel_rfl) rfl
abbrev yz:Type:=(List qA) × Int × Int × List ByteArray
abbrev zvu:yz→St:=fun (v7,v8,v9,o0)=>St.mk [(3,.ow 0),(7,.dat (.sl qD) v7),(8,.dat tI v8),(9,.dat tI v9)] [.row .str o0 false]
def yA (k0:yz→Option ((List ByteArray) × Unit)):yz→Option ((List ByteArray) × Unit):=fun (v7,v8,v9,o0) =>
  bif decide (v9 < v8) then inR v9 ((List.length v7):Int) (bif decide (List.length o0 + List.length (zm (List.replicate 1 (zd .str)) 0 (ix qQ v7 v9).1) ≤ lim) then k0 (v7,v8,wI (v9 + 1),o0 ++ zm (List.replicate 1 (zd .str)) 0 (ix qQ v7 v9).1) else none) else some (o0,())
abbrev zlx (K:Nat):yz→Option ((List ByteArray) × Unit):=zg yA K
theorem zvv (K:Nat):∀ n,evV Es0 K Tryz.f259 0 (ch [(.sl .str)]) [1,1,0,1,0] [] zvu n = zg yA n:=zq fun n0 (v7,v8,v9,o0)=>by kernel_rfl
def zh9 (L0:yz→Option ((List ByteArray) × Unit)):(ze × Unit)→Option ((List ByteArray) × Unit):=fun (x0,()) =>
  L0 (x0.2.2.1,((List.length x0.2.2.1):Int),0,[])
def zia:(ze × Unit)→Option ((List ByteArray) × Unit):=zh9 (zlx K0)
abbrev znP:Fun:=⟨259,(ch [zw]),(ch [(.sl .str)]),0,zia⟩
theorem zyb:Sq znP:=ml0 (d:=false) (S:=fun K=>zh9 (zlx K)) Tryz.func259 (by kernel_rfl) (fun K=>tr1 (T:=zh9) (zvv K K) fun (x0,())=>by kernel_rfl) rfl
abbrev zei:Type:=(List ByteArray) × (List ByteArray) × Int × Int × List (ByteArray × Int)
abbrev zDz:zei→St:=fun (v0,v7,v8,v9,o0)=>St.mk [(0,.dat (.sl .str) v0),(3,.om 0),(7,.dat (.sl .str) v7),(8,.dat tI v8),(9,.dat tI v9)] [.mp .str tI o0]
def zej (k0:zei→Option (Bool × Unit)):zei→Option (Bool × Unit):=fun (v0,v7,v8,v9,o0) =>
  bif decide (v9 < v8) then inR v9 ((List.length v7):Int) (k0 (v0,v7,v8,wI (v9 + 1),jP .str o0 (List.getD v7 (Int.toNat v9) (zd .str)) (wI (zaP .str (0:Int) o0 (List.getD v7 (Int.toNat v9) (zd .str)) + 1)))) else bif ((List.length o0):Int) == ((List.length v0):Int) then some (true,()) else some (false,())
abbrev zsa (K:Nat):zei→Option (Bool × Unit):=zg zej K
theorem zDA (K:Nat):∀ n,evV Es0 K Tryz.f258 0 (ch [.bool]) [1,1,0,1,0] [] zDz n = zg zej n:=zq fun n0 (v0,v7,v8,v9,o0)=>by kernel_rfl
def zoH (L0:zei→Option (Bool × Unit)):((List ByteArray) × Unit)→Option (Bool × Unit):=fun (x0,()) =>
  L0 (x0,x0,((List.length x0):Int),0,[])
def zoI:((List ByteArray) × Unit)→Option (Bool × Unit):=zoH (zsa K0)
abbrev zwl:Fun:=⟨258,(ch [(.sl .str)]),(ch [.bool]),0,zoI⟩
theorem zIr:Sq zwl:=ml0 (d:=false) (S:=fun K=>zoH (zsa K)) Tryz.func258 (by kernel_rfl) (fun K=>tr1 (T:=zoH) (zDA K K) fun (x0,())=>by kernel_rfl) rfl
def zkh:(Int × Unit)→Option (zC × (Int × Unit)):=fun (x0,()) =>
  bif decide (x0 < 0) then some ((0,0,()),1,()) else bif decide (x0 ≥ 64) then some ((0,0,()),1,()) else bif decide (x0 < 0) then none else some ((0,wU (1 * 2 ^ min (Int.toNat x0) (IntKind.bits IntKind.u64)),()),0,())
abbrev zwm:Fun:=⟨142,(ch [tI]),(ch [zt,tI]),0,zkh⟩
theorem zIs:Sq zwm:=ms0 (d:=false) (K:=0) Tryz.func142 (by kernel_rfl) (funext fun (x0,())=>by kernel_rfl)
abbrev zad:Type:=(List zC) × Int × Int × zC
abbrev zwn:zad→St:=fun (v0,v7,v8,o0)=>St.mk [(0,.dat (.sl zt) v0),(3,.bp 0 []),(7,.dat tI v7),(8,.dat tI v8)] [.bx (.dat zt o0) false]
def zae (k0:zad→Option (Int × Unit)):zad→Option (Int × Unit):=fun (v0,v7,v8,o0) =>
  bif decide (v8 < v7) then inR v8 ((List.length v0):Int) (bif eqI zt o0 (ix ji v0 v8) then some (v8,()) else k0 (v0,v7,wI (v8 + 1),o0)) else some ((-1),())
abbrev zmS (K:Nat):zad→Option (Int × Unit):=zg zae K
theorem zwo (K:Nat):∀ n,evV Es0 K Tryz.f312 0 (ch [tI]) [1,0,1,0] [] zwn n = zg zae n:=zq fun n0 (v0,v7,v8,o0)=>by kernel_rfl
def zjr (L0:zad→Option (Int × Unit)):((List zC) × (zC × Unit))→Option (Int × Unit):=fun (x0,x1,()) =>
  L0 (x0,((List.length x0):Int),0,x1)
def zjs:((List zC) × zC × Unit)→Option (Int × Unit):=zjr (zmS K0)
abbrev zoJ:Fun:=⟨312,(ch [(.sl zt),zt]),(ch [tI]),0,zjs⟩
theorem zzJ:Sq zoJ:=ml0 (d:=false) (S:=fun K=>zjr (zmS K)) Tryz.func312 (by kernel_rfl) (fun K=>tr1 (T:=zjr) (zwo K K) fun (x0,x1,())=>by kernel_rfl) rfl
def zjt:(zC × ((Option Int) × Unit))→Option (Bool × Unit):=fun (x0,x1,()) =>
  Option.bind x1 fun q0=>bif wU (↑(BitVec.toNat (BitVec.ofInt (IntKind.bits IntKind.u64) x0.2.1 &&& ~~~BitVec.ofInt (IntKind.bits IntKind.u64) q0)):Int) != 0 then some (true,()) else some (false,())
abbrev zoK:Fun:=⟨261,(ch [zt,(.ptr tU)]),(ch [.bool]),0,zjt⟩
theorem zzK:Sq zoK:=ms0 (d:=false) (K:=0) Tryz.func261 (by kernel_rfl) (funext fun (x0,x1,())=>by kernel_rfl)
def zki:(zbm × Unit)→Option ((List Int) × Unit):=fun (x0,()) =>
  some ([x0.1,x0.2.1,x0.2.2.1,x0.2.2.2.1,x0.2.2.2.2.1],())
abbrev zqp:Fun:=⟨263,(ch [zcl]),(ch [(.sl tI)]),0,zki⟩
theorem zBx:Sq zqp:=ms0 (d:=false) (K:=0) Tryz.func263 (by kernel_rfl) (funext fun (x0,())=>by kernel_rfl)
def zbT:(zp × ((Option (Option ((zp × Unit)→Option (Bool × Unit)))) × Unit))→Option (Bool × Unit):=fun (x0,x1,()) =>
  Option.bind x1 fun q0=>Option.bind q0 fun q1=>Option.bind (q1 (x0,())) fun q2=>bif q2.1 then some (false,()) else some (true,())
abbrev zly:Fun:=⟨177,(ch [zy,(.ptr (.fn (ch [zy]) (ch [.bool])))]),(ch [.bool]),0,zbT⟩
theorem zvw:Sq zly:=ms0 (d:=false) (K:=0) Tryz.func177 (by kernel_rfl) (funext fun (x0,x1,())=>by kernel_rfl)
abbrev vj:Type:=(List zp) × (Option ((zp × Unit)→Option (Bool × Unit))) × Int × Int
abbrev zru:vj→St:=fun (v0,v1,v7,v8)=>St.mk [(0,.dat (.sl zy) v0),(1,.dat (.fn (.pair zy .unit) (.pair .bool .unit)) v1),(7,.dat tI v7),(8,.dat tI v8)] []
def zdK (k0:vj→Option (Int × Unit)):vj→Option (Int × Unit):=fun (v0,v1,v7,v8) =>
  bif decide (v8 < v7) then inR v8 ((List.length v0):Int) (Option.bind v1 fun q0=>Option.bind (q0 (ix zf v0 v8,())) fun q1=>bif q1.1 then some (v8,()) else k0 (v0,v1,v7,wI (v8 + 1))) else some ((-1),())
abbrev zir (K:Nat):vj→Option (Int × Unit):=zg zdK K
theorem zrv (K:Nat):∀ n,evV Es0 K Tryz.f264 0 (ch [tI]) [1,0,1,0] [] zru n = zg zdK n:=zq fun n0 (v0,v1,v7,v8)=>by kernel_rfl
def zfs (L0:vj→Option (Int × Unit)):((List zp) × ((Option ((zp × Unit)→Option (Bool × Unit))) × Unit))→Option (Int × Unit):=fun (x0,x1,()) =>
  L0 (x0,x1,((List.length x0):Int),0)
def zaT:((List zp) × ((Option ((zp × Unit)→Option (Bool × Unit))) × Unit))→Option (Int × Unit):=zfs (zir K0)
abbrev zkj:Fun:=⟨264,(ch [(.sl zy),(.fn (ch [zy]) (ch [.bool]))]),(ch [tI]),0,zaT⟩
theorem ztS:Sq zkj:=ml0 (d:=false) (S:=fun K=>zfs (zir K)) Tryz.func264 (by kernel_rfl) (fun K=>tr1 (T:=zfs) (zrv K K) fun (x0,x1,())=>by kernel_rfl) rfl
abbrev vD:Type:=(List qV) × (Option ((qV × Unit)→Option (Bool × Unit))) × Int × Int
abbrev zsb:vD→St:=fun (v0,v1,v7,v8)=>St.mk [(0,.dat (.sl qk) v0),(1,.dat (.fn (.pair qk .unit) (.pair .bool .unit)) v1),(7,.dat tI v7),(8,.dat tI v8)] []
def zek (k0:vD→Option (Int × Unit)):vD→Option (Int × Unit):=fun (v0,v1,v7,v8) =>
  bif decide (v8 < v7) then inR v8 ((List.length v0):Int) (Option.bind v1 fun q0=>Option.bind (q0 (ix zhs v0 v8,())) fun q1=>bif q1.1 then some (v8,()) else k0 (v0,v1,v7,wI (v8 + 1))) else some ((-1),())
abbrev zjQ (K:Nat):vD→Option (Int × Unit):=zg zek K
theorem zsc (K:Nat):∀ n,evV Es0 K Tryz.f265 0 (ch [tI]) [1,0,1,0] [] zsb n = zg zek n:=zq fun n0 (v0,v1,v7,v8)=>by kernel_rfl
def zgr (L0:vD→Option (Int × Unit)):((List qV) × ((Option ((qV × Unit)→Option (Bool × Unit))) × Unit))→Option (Int × Unit):=fun (x0,x1,()) =>
  L0 (x0,x1,((List.length x0):Int),0)
def zbU:((List qV) × ((Option ((qV × Unit)→Option (Bool × Unit))) × Unit))→Option (Int × Unit):=zgr (zjQ K0)
abbrev zlz:Fun:=⟨265,(ch [(.sl qk),(.fn (ch [qk]) (ch [.bool]))]),(ch [tI]),0,zbU⟩
theorem zvx:Sq zlz:=ml0 (d:=false) (S:=fun K=>zgr (zjQ K)) Tryz.func265 (by kernel_rfl) (fun K=>tr1 (T:=zgr) (zsc K K) fun (x0,x1,())=>by kernel_rfl) rfl
def zgZ:(zE × Unit)→Option (Bool × Unit):=fun (x0,()) =>
  bif decide (x0.1 ≥ 0) then bif decide (x0.1 ≤ 127) then bif decide (x0.2.1 ≥ 0) then bif decide (x0.2.1 ≤ 127) then some (true,()) else some (false,()) else some (false,()) else some (false,()) else some (false,())
abbrev zwp:Fun:=⟨266,(ch [zv]),(ch [.bool]),0,zgZ⟩
theorem zIt:Sq zwp:=ms0 (d:=false) (K:=0) Tryz.func266 (by kernel_rfl) (funext fun (x0,())=>by kernel_rfl)
def zkk:(Int × Unit)→Option (Bool × Unit):=fun (x0,()) =>
  bif decide (x0 ≥ 0) then bif decide (x0 < 6) then some (true,()) else some (false,()) else some (false,())
abbrev zwq:Fun:=⟨267,(ch [tI]),(ch [.bool]),0,zkk⟩
theorem zIu:Sq zwq:=ms0 (d:=false) (K:=0) Tryz.func267 (by kernel_rfl) (funext fun (x0,())=>by kernel_rfl)
def zhu:(qe × ((Option zE) × ((Option Int) × Unit)))→Option (Bool × Unit):=fun (x0,x1,x2,()) =>
  bif x0.1 then Option.bind x1 fun q0=>bif eqI zv x0.2.1 q0 then Option.bind x2 fun q1=>bif x0.2.2.2.1 == q1 then some (true,()) else some (false,()) else some (false,()) else some (false,())
abbrev zsd:Fun:=⟨269,(ch [zU,(.ptr zv),(.ptr tI)]),(ch [.bool]),0,zhu⟩
theorem zDB:Sq zsd:=ms0 (d:=false) (K:=0) Tryz.func269 (by kernel_rfl) (funext fun (x0,x1,x2,())=>by kernel_rfl)
abbrev vE:Type:=(List qe) × (Option ((qe × Unit)→Option (Bool × Unit))) × Int × Int
abbrev zse:vE→St:=fun (v0,v1,v7,v8)=>St.mk [(0,.dat (.sl zU) v0),(1,.dat (.fn (.pair zU .unit) (.pair .bool .unit)) v1),(7,.dat tI v7),(8,.dat tI v8)] []
def zel (k0:vE→Option (Int × Unit)):vE→Option (Int × Unit):=fun (v0,v1,v7,v8) =>
  bif decide (v8 < v7) then inR v8 ((List.length v0):Int) (Option.bind v1 fun q0=>Option.bind (q0 (ix qh v0 v8,())) fun q1=>bif q1.1 then some (v8,()) else k0 (v0,v1,v7,wI (v8 + 1))) else some ((-1),())
abbrev zjR (K:Nat):vE→Option (Int × Unit):=zg zel K
theorem zsf (K:Nat):∀ n,evV Es0 K Tryz.f268 0 (ch [tI]) [1,0,1,0] [] zse n = zg zel n:=zq fun n0 (v0,v1,v7,v8)=>by kernel_rfl
def zgs (L0:vE→Option (Int × Unit)):((List qe) × ((Option ((qe × Unit)→Option (Bool × Unit))) × Unit))→Option (Int × Unit):=fun (x0,x1,()) =>
  L0 (x0,x1,((List.length x0):Int),0)
def yB:((List qe) × ((Option ((qe × Unit)→Option (Bool × Unit))) × Unit))→Option (Int × Unit):=zgs (zjR K0)
abbrev zlA:Fun:=⟨268,(ch [(.sl zU),(.fn (ch [zU]) (ch [.bool]))]),(ch [tI]),0,yB⟩
theorem zvy:Sq zlA:=ml0 (d:=false) (S:=fun K=>zgs (zjR K)) Tryz.func268 (by kernel_rfl) (fun K=>tr1 (T:=zgs) (zsf K K) fun (x0,x1,())=>by kernel_rfl) rfl
abbrev vF:Type:=(List zh) × (Option ((zh × Unit)→Option (Bool × Unit))) × Int × Int
abbrev zsg:vF→St:=fun (v0,v1,v7,v8)=>St.mk [(0,.dat (.sl zi) v0),(1,.dat (.fn (.pair zi .unit) (.pair .bool .unit)) v1),(7,.dat tI v7),(8,.dat tI v8)] []
def zem (k0:vF→Option (Int × Unit)):vF→Option (Int × Unit):=fun (v0,v1,v7,v8) =>
  bif decide (v8 < v7) then inR v8 ((List.length v0):Int) (Option.bind v1 fun q0=>Option.bind (q0 (ix zj v0 v8,())) fun q1=>bif q1.1 then some (v8,()) else k0 (v0,v1,v7,wI (v8 + 1))) else some ((-1),())
abbrev zjS (K:Nat):vF→Option (Int × Unit):=zg zem K
theorem zsh (K:Nat):∀ n,evV Es0 K Tryz.f270 0 (ch [tI]) [1,0,1,0] [] zsg n = zg zem n:=zq fun n0 (v0,v1,v7,v8)=>by kernel_rfl
def zgt (L0:vF→Option (Int × Unit)):((List zh) × ((Option ((zh × Unit)→Option (Bool × Unit))) × Unit))→Option (Int × Unit):=fun (x0,x1,()) =>
  L0 (x0,x1,((List.length x0):Int),0)
def yC:((List zh) × ((Option ((zh × Unit)→Option (Bool × Unit))) × Unit))→Option (Int × Unit):=zgt (zjS K0)
abbrev zlB:Fun:=⟨270,(ch [(.sl zi),(.fn (ch [zi]) (ch [.bool]))]),(ch [tI]),0,yC⟩
theorem zvz:Sq zlB:=ml0 (d:=false) (S:=fun K=>zgt (zjS K)) Tryz.func270 (by kernel_rfl) (fun K=>tr1 (T:=zgt) (zsh K K) fun (x0,x1,())=>by kernel_rfl) rfl
def zhv:(zh × Unit)→Option (qS × Unit):=fun (x0,()) =>
  some (x0.2.2,())
abbrev zBy:Fun:=⟨167,(ch [zi]),(ch [qm]),0,zhv⟩
theorem zNb:Sq zBy:=ms0 (d:=false) (K:=0) Tryz.func167 (by kernel_rfl) (funext fun (x0,())=>by kernel_rfl)
def zft:(Int × Unit)→Option (Bool × Unit):=fun (x0,()) =>
  bif decide (x0 ≥ 0) then bif decide (x0 ≤ 127) then some (true,()) else some (false,()) else some (false,())
abbrev zBz:Fun:=⟨223,(ch [tI]),(ch [.bool]),0,zft⟩
theorem zNc:Sq zBz:=ms0 (d:=false) (K:=0) Tryz.func223 (by kernel_rfl) (funext fun (x0,())=>by kernel_rfl)
abbrev vG:Type:=(List qr) × (Option ((qr × Unit)→Option (Bool × Unit))) × Int × Int
abbrev zsi:vG→St:=fun (v0,v1,v7,v8)=>St.mk [(0,.dat (.sl zY) v0),(1,.dat (.fn (.pair zY .unit) (.pair .bool .unit)) v1),(7,.dat tI v7),(8,.dat tI v8)] []
def zen (k0:vG→Option (Int × Unit)):vG→Option (Int × Unit):=fun (v0,v1,v7,v8) =>
  bif decide (v8 < v7) then inR v8 ((List.length v0):Int) (Option.bind v1 fun q0=>Option.bind (q0 (ix zaR v0 v8,())) fun q1=>bif q1.1 then some (v8,()) else k0 (v0,v1,v7,wI (v8 + 1))) else some ((-1),())
abbrev zjT (K:Nat):vG→Option (Int × Unit):=zg zen K
theorem zsj (K:Nat):∀ n,evV Es0 K Tryz.f271 0 (ch [tI]) [1,0,1,0] [] zsi n = zg zen n:=zq fun n0 (v0,v1,v7,v8)=>by kernel_rfl
def zgu (L0:vG→Option (Int × Unit)):((List qr) × ((Option ((qr × Unit)→Option (Bool × Unit))) × Unit))→Option (Int × Unit):=fun (x0,x1,()) =>
  L0 (x0,x1,((List.length x0):Int),0)
def zbV:((List qr) × ((Option ((qr × Unit)→Option (Bool × Unit))) × Unit))→Option (Int × Unit):=zgu (zjT K0)
abbrev zlC:Fun:=⟨271,(ch [(.sl zY),(.fn (ch [zY]) (ch [.bool]))]),(ch [tI]),0,zbV⟩
theorem zvA:Sq zlC:=ml0 (d:=false) (S:=fun K=>zgu (zjT K)) Tryz.func271 (by kernel_rfl) (fun K=>tr1 (T:=zgu) (zsj K K) fun (x0,x1,())=>by kernel_rfl) rfl
def zjU:(Int × Unit)→Option (Bool × Unit):=fun (x0,()) =>
  bif decide (x0 ≥ 0) then bif decide (x0 ≤ 127) then some (true,()) else some (false,()) else some (false,())
abbrev zFx:Fun:=⟨313,(ch [tI]),(ch [.bool]),0,zjU⟩
theorem zOF:Sq zFx:=ms0 (d:=false) (K:=0) Tryz.func313 (by kernel_rfl) (funext fun (x0,())=>by kernel_rfl)
def zkl:(Int × Unit)→Option (Bool × Unit):=fun (x0,()) =>
  bif decide (x0 ≥ 32) then bif decide (x0 ≤ 126) then some (true,()) else some (false,()) else some (false,())
abbrev zwr:Fun:=⟨314,(ch [(.int .u8)]),(ch [.bool]),0,zkl⟩
theorem zIv:Sq zwr:=ms0 (d:=false) (K:=0) Tryz.func314 (by kernel_rfl) (funext fun (x0,())=>by kernel_rfl)
abbrev jI:Type:=ByteArray × Int
abbrev zn7:jI→St:=fun (v0,v1)=>St.mk [(0,.dat .str v0),(1,.dat (.int IntKind.u8) v1)] []
def zP (k0:jI→Option (ByteArray × Unit)):jI→Option (ByteArray × Unit):=fun (v0,v1) =>
  bif decide ((↑(ByteArray.size v0):Int) > 0) then inR (wI ((↑(ByteArray.size v0):Int) - 1)) (↑(ByteArray.size v0):Int) (bif (↑(UInt8.toNat (List.getD (Array.toList (ByteArray.data v0)) (Int.toNat (wI ((↑(ByteArray.size v0):Int) - 1))) 0)):Int) == v1 then bif decide (0 ≤ wI ((↑(ByteArray.size v0):Int) - 1)) then bif decide (wI ((↑(ByteArray.size v0):Int) - 1) ≤ (↑(ByteArray.size v0):Int)) then k0 (ByteArray.extract v0 0 (Int.toNat (wI ((↑(ByteArray.size v0):Int) - 1))),v1) else none else none else some (v0,())) else some (v0,())
abbrev zgy (K:Nat):jI→Option (ByteArray × Unit):=zg zP K
theorem zn8 (K:Nat):∀ n,evV Es0 K Tryz.f331 0 (ch [.str]) [1,0,0] [] zn7 n = zg zP n:=zq fun n0 (v0,v1)=>by kernel_rfl
def zb2 (L0:jI→Option (ByteArray × Unit)):(ByteArray × (Int × Unit))→Option (ByteArray × Unit):=fun (x0,x1,()) =>
  L0 (x0,x1)
def zb3:(ByteArray × Int × Unit)→Option (ByteArray × Unit):=zb2 (zgy K0)
abbrev zh3:Fun:=⟨331,(ch [.str,(.int .u8)]),(ch [.str]),0,zb3⟩
theorem zpU:Sq zh3:=ml0 (d:=false) (S:=fun K=>zb2 (zgy K)) Tryz.func331 (by kernel_rfl) (fun K=>tr1 (T:=zb2) (zn8 K K) fun (x0,x1,())=>by kernel_rfl) rfl
abbrev jT:Type:=ByteArray × Int
abbrev zoL:jT→St:=fun (v0,v1)=>St.mk [(0,.dat .str v0),(1,.dat (.int IntKind.u8) v1)] []
def zS (k0:jT→Option (ByteArray × Unit)):jT→Option (ByteArray × Unit):=fun (v0,v1) =>
  bif decide ((↑(ByteArray.size v0):Int) > 0) then bif decide (0 < (↑(ByteArray.size v0):Int)) then bif (↑(UInt8.toNat (List.getD (Array.toList (ByteArray.data v0)) (Int.toNat 0) 0)):Int) == v1 then bif decide (1 ≤ (↑(ByteArray.size v0):Int)) then k0 (ByteArray.extract v0 (Int.toNat 1) (ByteArray.size v0),v1) else none else some (v0,()) else none else some (v0,())
abbrev zg0 (K:Nat):jT→Option (ByteArray × Unit):=zg zS K
theorem zoM (K:Nat):∀ n,evV Es0 K Tryz.f330 0 (ch [.str]) [1,0,0] [] zoL n = zg zS n:=zq fun n0 (v0,v1)=>by kernel_rfl
def zdL (L0:jT→Option (ByteArray × Unit)):(ByteArray × (Int × Unit))→Option (ByteArray × Unit):=fun (x0,x1,()) =>
  L0 (x0,x1)
def zdM:(ByteArray × Int × Unit)→Option (ByteArray × Unit):=zdL (zg0 K0)
abbrev zis:Fun:=⟨330,(ch [.str,(.int .u8)]),(ch [.str]),0,zdM⟩
theorem zrw:Sq zis:=ml0 (d:=false) (S:=fun K=>zdL (zg0 K)) Tryz.func330 (by kernel_rfl) (fun K=>tr1 (T:=zdL) (zoM K K) fun (x0,x1,())=>by kernel_rfl) rfl
abbrev vk:Type:=(List zx) × (Option ((zx × Unit)→Option (Bool × Unit))) × Int × Int
abbrev zrx:vk→St:=fun (v0,v1,v7,v8)=>St.mk [(0,.dat (.sl zz) v0),(1,.dat (.fn (.pair zz .unit) (.pair .bool .unit)) v1),(7,.dat tI v7),(8,.dat tI v8)] []
def zdN (k0:vk→Option (Int × Unit)):vk→Option (Int × Unit):=fun (v0,v1,v7,v8) =>
  bif decide (v8 < v7) then inR v8 ((List.length v0):Int) (Option.bind v1 fun q0=>Option.bind (q0 (ix zR v0 v8,())) fun q1=>bif q1.1 then some (v8,()) else k0 (v0,v1,v7,wI (v8 + 1))) else some ((-1),())
abbrev zit (K:Nat):vk→Option (Int × Unit):=zg zdN K
theorem zry (K:Nat):∀ n,evV Es0 K Tryz.f274 0 (ch [tI]) [1,0,1,0] [] zrx n = zg zdN n:=zq fun n0 (v0,v1,v7,v8)=>by kernel_rfl
def zfu (L0:vk→Option (Int × Unit)):((List zx) × ((Option ((zx × Unit)→Option (Bool × Unit))) × Unit))→Option (Int × Unit):=fun (x0,x1,()) =>
  L0 (x0,x1,((List.length x0):Int),0)
def zaU:((List zx) × ((Option ((zx × Unit)→Option (Bool × Unit))) × Unit))→Option (Int × Unit):=zfu (zit K0)
abbrev zkm:Fun:=⟨274,(ch [(.sl zz),(.fn (ch [zz]) (ch [.bool]))]),(ch [tI]),0,zaU⟩
theorem ztT:Sq zkm:=ml0 (d:=false) (S:=fun K=>zfu (zit K)) Tryz.func274 (by kernel_rfl) (fun K=>tr1 (T:=zfu) (zry K K) fun (x0,x1,())=>by kernel_rfl) rfl
def zhw:(Int × Unit)→Option (Bool × Unit):=fun (x0,()) =>
  bif decide (x0 ≥ 0) then bif decide (x0 ≤ 127) then some (true,()) else some (false,()) else some (false,())
abbrev zBA:Fun:=⟨275,(ch [tI]),(ch [.bool]),0,zhw⟩
theorem zNd:Sq zBA:=ms0 (d:=false) (K:=0) Tryz.func275 (by kernel_rfl) (funext fun (x0,())=>by kernel_rfl)
def ju:(Int × Unit)→Option (Bool × Unit):=fun (x0,()) =>
  bif decide (x0 ≥ 0) then bif decide (x0 < 4) then some (true,()) else some (false,()) else some (false,())
abbrev zws:Fun:=⟨208,(ch [tI]),(ch [.bool]),0,ju⟩
theorem zIw:Sq zws:=ms0 (d:=false) (K:=0) Tryz.func208 (by kernel_rfl) (funext fun (x0,())=>by kernel_rfl)
def zg1:(zj8 × Unit)→Option (Bool × Unit):=fun (x0,()) =>
  bif eqI zd0 x0 (x0.1,(zd zd0).2.1,-1,(zd zd0).2.2.2) then some (true,()) else some (false,())
abbrev zwt:Fun:=⟨277,(ch [zd0]),(ch [.bool]),0,zg1⟩
theorem zIx:Sq zwt:=ms0 (d:=false) (K:=0) Tryz.func277 (by kernel_rfl) (funext fun (x0,())=>by kernel_rfl)
def za7:(Int × Unit)→Option (Bool × Unit):=fun (x0,()) =>
  bif decide (x0 < 0) then some (true,()) else bif decide (x0 > 2) then some (true,()) else some (false,())
abbrev zsk:Fun:=⟨189,(ch [tI]),(ch [.bool]),0,za7⟩
theorem zDC:Sq zsk:=ms0 (d:=false) (K:=0) Tryz.func189 (by kernel_rfl) (funext fun (x0,())=>by kernel_rfl)
def zd1:(Int × (Int × Unit))→Option (Int × (Int × Unit)):=fun (x0,x1,()) =>
  some (wU (wU (wU (Int.fdiv x0 (2 ^ min (Int.toNat 32) (IntKind.bits IntKind.u64)) * Int.fdiv x1 (2 ^ min (Int.toNat 32) (IntKind.bits IntKind.u64))) + Int.fdiv (wU (wU (Int.fdiv x0 (2 ^ min (Int.toNat 32) (IntKind.bits IntKind.u64)) * wU (↑(BitVec.toNat (BitVec.ofInt (IntKind.bits IntKind.u64) x1 &&& BitVec.ofInt (IntKind.bits IntKind.u64) 4294967295)):Int)) + Int.fdiv (wU (wU (↑(BitVec.toNat (BitVec.ofInt (IntKind.bits IntKind.u64) x0 &&& BitVec.ofInt (IntKind.bits IntKind.u64) 4294967295)):Int) * wU (↑(BitVec.toNat (BitVec.ofInt (IntKind.bits IntKind.u64) x1 &&& BitVec.ofInt (IntKind.bits IntKind.u64) 4294967295)):Int))) (2 ^ min (Int.toNat 32) (IntKind.bits IntKind.u64)))) (2 ^ min (Int.toNat 32) (IntKind.bits IntKind.u64))) + Int.fdiv (wU (wU (↑(BitVec.toNat (BitVec.ofInt (IntKind.bits IntKind.u64) (wU (wU (Int.fdiv x0 (2 ^ min (Int.toNat 32) (IntKind.bits IntKind.u64)) * wU (↑(BitVec.toNat (BitVec.ofInt (IntKind.bits IntKind.u64) x1 &&& BitVec.ofInt (IntKind.bits IntKind.u64) 4294967295)):Int)) + Int.fdiv (wU (wU (↑(BitVec.toNat (BitVec.ofInt (IntKind.bits IntKind.u64) x0 &&& BitVec.ofInt (IntKind.bits IntKind.u64) 4294967295)):Int) * wU (↑(BitVec.toNat (BitVec.ofInt (IntKind.bits IntKind.u64) x1 &&& BitVec.ofInt (IntKind.bits IntKind.u64) 4294967295)):Int))) (2 ^ min (Int.toNat 32) (IntKind.bits IntKind.u64)))) &&& BitVec.ofInt (IntKind.bits IntKind.u64) 4294967295)):Int) + wU (wU (↑(BitVec.toNat (BitVec.ofInt (IntKind.bits IntKind.u64) x0 &&& BitVec.ofInt (IntKind.bits IntKind.u64) 4294967295)):Int) * Int.fdiv x1 (2 ^ min (Int.toNat 32) (IntKind.bits IntKind.u64))))) (2 ^ min (Int.toNat 32) (IntKind.bits IntKind.u64))),wU (x0 * x1),())
abbrev znQ:Fun:=⟨337,(ch [tU,tU]),(ch [tU,tU]),0,zd1⟩
theorem zyc:Sq znQ:=ms0 (d:=false) (K:=0) Tryz.func337 (by kernel_rfl) (funext fun (x0,x1,())=>by kernel_rfl)
def zmT:(Int × Unit)→Option (Bool × Unit):=fun (x0,()) =>
  bif decide (x0 ≥ 0) then bif decide (x0 ≤ 127) then some (true,()) else some (false,()) else some (false,())
abbrev zFy:Fun:=⟨280,(ch [tI]),(ch [.bool]),0,zmT⟩
theorem zOG:Sq zFy:=ms0 (d:=false) (K:=0) Tryz.func280 (by kernel_rfl) (funext fun (x0,())=>by kernel_rfl)
def zfv:(Int × Unit)→Option (Bool × Unit):=fun (x0,()) =>
  bif decide (x0 ≥ 0) then bif decide (x0 ≤ 127) then some (true,()) else some (false,()) else some (false,())
abbrev zBB:Fun:=⟨281,(ch [tI]),(ch [.bool]),0,zfv⟩
theorem zNe:Sq zBB:=ms0 (d:=false) (K:=0) Tryz.func281 (by kernel_rfl) (funext fun (x0,())=>by kernel_rfl)
def zfV:(zb × (zE × Unit))→Option (Bool × Unit):=fun (x0,x1,()) =>
  bif decide (x1.1 ≥ 0) then bif decide (x1.1 < ((List.length x0.2.1):Int)) then bif decide (x1.2.1 ≥ 0) then inR x1.1 ((List.length x0.2.1):Int) (bif decide (x1.2.1 < ((List.length (ix zf x0.2.1 x1.1).1):Int)) then inR x1.1 ((List.length x0.2.1):Int) (inR x1.2.1 ((List.length (ix zf x0.2.1 x1.1).1):Int) (bif (List.getD (ix zf x0.2.1 x1.1).1 (Int.toNat x1.2.1) (zd qk)).1 then some (true,()) else some (false,()))) else some (false,())) else some (false,()) else some (false,()) else some (false,())
abbrev zum:Fun:=⟨112,(ch [zn,zv]),(ch [.bool]),0,zfV⟩
theorem zFR:Sq zum:=ms0 (d:=false) (K:=0) Tryz.func112 (by kernel_rfl) (funext fun (x0,x1,())=>by kernel_rfl)
def zb5:(qW × (Int × Unit))→Option (Bool × Unit):=fun (x0,x1,()) =>
  bif decide (x1 ≥ 0) then bif decide (x1 < ((List.length x0.1.1):Int)) then some (true,()) else some (false,()) else some (false,())
abbrev zun:Fun:=⟨115,(ch [qp,tI]),(ch [.bool]),0,zb5⟩
theorem zFS:Sq zun:=ms0 (d:=false) (K:=0) Tryz.func115 (by kernel_rfl) (funext fun (x0,x1,())=>by kernel_rfl)
def qX:(qW × (Int × Unit))→Option (Bool × Unit):=fun (x0,x1,()) =>
  bif decide (x1 ≥ 0) then bif decide (x1 < ((List.length x0.1.2.2.1):Int)) then some (true,()) else some (false,()) else some (false,())
abbrev zqq:Fun:=⟨116,(ch [qp,tI]),(ch [.bool]),0,qX⟩
theorem zBC:Sq zqq:=ms0 (d:=false) (K:=0) Tryz.func116 (by kernel_rfl) (funext fun (x0,x1,())=>by kernel_rfl)
def zbW:(zu × ((Option (Option ((zu × Unit)→Option (Bool × Unit)))) × Unit))→Option (Bool × Unit):=fun (x0,x1,()) =>
  Option.bind x1 fun q0=>Option.bind q0 fun q1=>Option.bind (q1 (x0,())) fun q2=>bif q2.1 then some (false,()) else some (true,())
abbrev zlD:Fun:=⟨195,(ch [zr,(.ptr (.fn (ch [zr]) (ch [.bool])))]),(ch [.bool]),0,zbW⟩
theorem zvB:Sq zlD:=ms0 (d:=false) (K:=0) Tryz.func195 (by kernel_rfl) (funext fun (x0,x1,())=>by kernel_rfl)
abbrev vl:Type:=(List zu) × (Option ((zu × Unit)→Option (Bool × Unit))) × Int × Int
abbrev zrz:vl→St:=fun (v0,v1,v7,v8)=>St.mk [(0,.dat (.sl zr) v0),(1,.dat (.fn (.pair zr .unit) (.pair .bool .unit)) v1),(7,.dat tI v7),(8,.dat tI v8)] []
def zdO (k0:vl→Option (Int × Unit)):vl→Option (Int × Unit):=fun (v0,v1,v7,v8) =>
  bif decide (v8 < v7) then inR v8 ((List.length v0):Int) (Option.bind v1 fun q0=>Option.bind (q0 (ix zK v0 v8,())) fun q1=>bif q1.1 then some (v8,()) else k0 (v0,v1,v7,wI (v8 + 1))) else some ((-1),())
abbrev ziu (K:Nat):vl→Option (Int × Unit):=zg zdO K
theorem zrA (K:Nat):∀ n,evV Es0 K Tryz.f285 0 (ch [tI]) [1,0,1,0] [] zrz n = zg zdO n:=zq fun n0 (v0,v1,v7,v8)=>by kernel_rfl
def zfw (L0:vl→Option (Int × Unit)):((List zu) × ((Option ((zu × Unit)→Option (Bool × Unit))) × Unit))→Option (Int × Unit):=fun (x0,x1,()) =>
  L0 (x0,x1,((List.length x0):Int),0)
def zaV:((List zu) × ((Option ((zu × Unit)→Option (Bool × Unit))) × Unit))→Option (Int × Unit):=zfw (ziu K0)
abbrev zkn:Fun:=⟨285,(ch [(.sl zr),(.fn (ch [zr]) (ch [.bool]))]),(ch [tI]),0,zaV⟩
theorem ztU:Sq zkn:=ml0 (d:=false) (S:=fun K=>zfw (ziu K)) Tryz.func285 (by kernel_rfl) (fun K=>tr1 (T:=zfw) (zrA K K) fun (x0,x1,())=>by kernel_rfl) rfl
def zbX:(zJ × ((Option (Option ((zJ × Unit)→Option (Bool × Unit)))) × Unit))→Option (Bool × Unit):=fun (x0,x1,()) =>
  Option.bind x1 fun q0=>Option.bind q0 fun q1=>Option.bind (q1 (x0,())) fun q2=>bif q2.1 then some (false,()) else some (true,())
abbrev zlE:Fun:=⟨197,(ch [zA,(.ptr (.fn (ch [zA]) (ch [.bool])))]),(ch [.bool]),0,zbX⟩
theorem zvC:Sq zlE:=ms0 (d:=false) (K:=0) Tryz.func197 (by kernel_rfl) (funext fun (x0,x1,())=>by kernel_rfl)
abbrev vm:Type:=(List zJ) × (Option ((zJ × Unit)→Option (Bool × Unit))) × Int × Int
abbrev zrB:vm→St:=fun (v0,v1,v7,v8)=>St.mk [(0,.dat (.sl zA) v0),(1,.dat (.fn (.pair zA .unit) (.pair .bool .unit)) v1),(7,.dat tI v7),(8,.dat tI v8)] []
def zdP (k0:vm→Option (Int × Unit)):vm→Option (Int × Unit):=fun (v0,v1,v7,v8) =>
  bif decide (v8 < v7) then inR v8 ((List.length v0):Int) (Option.bind v1 fun q0=>Option.bind (q0 (ix vT v0 v8,())) fun q1=>bif q1.1 then some (v8,()) else k0 (v0,v1,v7,wI (v8 + 1))) else some ((-1),())
abbrev ziv (K:Nat):vm→Option (Int × Unit):=zg zdP K
theorem zrC (K:Nat):∀ n,evV Es0 K Tryz.f286 0 (ch [tI]) [1,0,1,0] [] zrB n = zg zdP n:=zq fun n0 (v0,v1,v7,v8)=>by kernel_rfl
def zfx (L0:vm→Option (Int × Unit)):((List zJ) × ((Option ((zJ × Unit)→Option (Bool × Unit))) × Unit))→Option (Int × Unit):=fun (x0,x1,()) =>
  L0 (x0,x1,((List.length x0):Int),0)
def zaW:((List zJ) × ((Option ((zJ × Unit)→Option (Bool × Unit))) × Unit))→Option (Int × Unit):=zfx (ziv K0)
abbrev zko:Fun:=⟨286,(ch [(.sl zA),(.fn (ch [zA]) (ch [.bool]))]),(ch [tI]),0,zaW⟩
theorem ztV:Sq zko:=ml0 (d:=false) (S:=fun K=>zfx (ziv K)) Tryz.func286 (by kernel_rfl) (fun K=>tr1 (T:=zfx) (zrC K K) fun (x0,x1,())=>by kernel_rfl) rfl
def zd2:(Int × ((Option (Option ((Int × Unit)→Option (Bool × Unit)))) × Unit))→Option (Bool × Unit):=fun (x0,x1,()) =>
  Option.bind x1 fun q0=>Option.bind q0 fun q1=>Option.bind (q1 (x0,())) fun q2=>bif q2.1 then some (false,()) else some (true,())
abbrev znR:Fun:=⟨198,(ch [tI,(.ptr (.fn (ch [tI]) (ch [.bool])))]),(ch [.bool]),0,zd2⟩
theorem zyd:Sq znR:=ms0 (d:=false) (K:=0) Tryz.func198 (by kernel_rfl) (funext fun (x0,x1,())=>by kernel_rfl)
def ziw:(zC × (zC × Unit))→Option (Bool × Unit):=fun (x0,x1,()) =>
  bif decide (x0.1 ≤ x1.1) then bif wU (↑(BitVec.toNat (BitVec.ofInt (IntKind.bits IntKind.u64) x0.2.1 &&& ~~~BitVec.ofInt (IntKind.bits IntKind.u64) x1.2.1)):Int) == 0 then some (true,()) else some (false,()) else some (false,())
abbrev zyF:Fun:=⟨20,(ch [zt,zt]),(ch [.bool]),0,ziw⟩
theorem zKV:Sq zyF:=ms0 (d:=false) (K:=0) Tryz.func20 (by kernel_rfl) (funext fun (x0,x1,())=>by kernel_rfl)
def zgz:(qe × ((Option (Option ((zE × Unit)→Option (Bool × Unit)))) × Unit))→Option (Bool × Unit):=fun (x0,x1,()) =>
  bif x0.1 then Option.bind x1 fun q0=>Option.bind q0 fun q1=>Option.bind (q1 (x0.2.1,())) fun q2=>bif q2.1 then Option.bind x1 fun q3=>Option.bind q3 fun q4=>Option.bind (q4 (x0.2.2.1,())) fun q5=>bif q5.1 then some (true,()) else some (false,()) else some (false,()) else some (true,())
abbrev zqr:Fun:=⟨123,(ch [zU,(.ptr (.fn (ch [zv]) (ch [.bool])))]),(ch [.bool]),0,zgz⟩
theorem zBD:Sq zqr:=ms0 (d:=false) (K:=0) Tryz.func123 (by kernel_rfl) (funext fun (x0,x1,())=>by kernel_rfl)
def zcq:(qe × ((Option (Option ((qe × Unit)→Option (Bool × Unit)))) × Unit))→Option (Bool × Unit):=fun (x0,x1,()) =>
  Option.bind x1 fun q0=>Option.bind q0 fun q1=>Option.bind (q1 (x0,())) fun q2=>bif q2.1 then some (false,()) else some (true,())
abbrev zmU:Fun:=⟨201,(ch [zU,(.ptr (.fn (ch [zU]) (ch [.bool])))]),(ch [.bool]),0,zcq⟩
theorem zwu:Sq zmU:=ms0 (d:=false) (K:=0) Tryz.func201 (by kernel_rfl) (funext fun (x0,x1,())=>by kernel_rfl)
end
end Go.Proofs.YtejbgeokcpillaaGreatDoor
end
section
namespace Go.Proofs.YtejbgeokcpillaaGreatDoor
open Go.Ev
noncomputable section
def zcr:(zh × ((Option (Option ((zE × Unit)→Option (Bool × Unit)))) × Unit))→Option (Bool × Unit):=fun (x0,x1,()) =>
  bif x0.2.2.1 != 2 then some (true,()) else Option.bind x1 fun q0=>Option.bind q0 fun q1=>Option.bind (q1 (x0.2.2.2.2.1,())) fun q2=>bif q2.1 then some (true,()) else some (false,())
abbrev zqs:Fun:=⟨125,(ch [zi,(.ptr (.fn (ch [zv]) (ch [.bool])))]),(ch [.bool]),0,zcr⟩
theorem zBE:Sq zqs:=ms0 (d:=false) (K:=0) Tryz.func125 (by kernel_rfl) (funext fun (x0,x1,())=>by kernel_rfl)
def zcs:(zh × ((Option (Option ((zh × Unit)→Option (Bool × Unit)))) × Unit))→Option (Bool × Unit):=fun (x0,x1,()) =>
  Option.bind x1 fun q0=>Option.bind q0 fun q1=>Option.bind (q1 (x0,())) fun q2=>bif q2.1 then some (false,()) else some (true,())
abbrev zmV:Fun:=⟨202,(ch [zi,(.ptr (.fn (ch [zi]) (ch [.bool])))]),(ch [.bool]),0,zcs⟩
theorem zwv:Sq zmV:=ms0 (d:=false) (K:=0) Tryz.func202 (by kernel_rfl) (funext fun (x0,x1,())=>by kernel_rfl)
def zd3:(zE × ((Option (Option ((zE × Unit)→Option (Bool × Unit)))) × Unit))→Option (Bool × Unit):=fun (x0,x1,()) =>
  Option.bind x1 fun q0=>Option.bind q0 fun q1=>Option.bind (q1 (x0,())) fun q2=>bif q2.1 then some (false,()) else some (true,())
abbrev znS:Fun:=⟨204,(ch [zv,(.ptr (.fn (ch [zv]) (ch [.bool])))]),(ch [.bool]),0,zd3⟩
theorem zye:Sq znS:=ms0 (d:=false) (K:=0) Tryz.func204 (by kernel_rfl) (funext fun (x0,x1,())=>by kernel_rfl)
abbrev vW:Type:=(List zE) × (Option ((zE × Unit)→Option (Bool × Unit))) × Int × Int
abbrev ztW:vW→St:=fun (v0,v1,v7,v8)=>St.mk [(0,.dat (.sl jt) v0),(1,.dat (.fn (.pair jt .unit) (.pair .bool .unit)) v1),(7,.dat tI v7),(8,.dat tI v8)] []
def zfy (k0:vW→Option (Int × Unit)):vW→Option (Int × Unit):=fun (v0,v1,v7,v8) =>
  bif decide (v8 < v7) then inR v8 ((List.length v0):Int) (Option.bind v1 fun q0=>Option.bind (q0 (ix qB v0 v8,())) fun q1=>bif q1.1 then some (v8,()) else k0 (v0,v1,v7,wI (v8 + 1))) else some ((-1),())
abbrev zkp (K:Nat):vW→Option (Int × Unit):=zg zfy K
theorem ztX (K:Nat):∀ n,evV Es0 K Tryz.f287 0 (ch [tI]) [1,0,1,0] [] ztW n = zg zfy n:=zq fun n0 (v0,v1,v7,v8)=>by kernel_rfl
def zg2 (L0:vW→Option (Int × Unit)):((List zE) × ((Option ((zE × Unit)→Option (Bool × Unit))) × Unit))→Option (Int × Unit):=fun (x0,x1,()) =>
  L0 (x0,x1,((List.length x0):Int),0)
def zct:((List qy) × ((Option ((qy × Unit)→Option (Bool × Unit))) × Unit))→Option (Int × Unit):=zg2 (zkp K0)
abbrev zmW:Fun:=⟨287,(ch [(.sl zv),(.fn (ch [zv]) (ch [.bool]))]),(ch [tI]),0,zct⟩
theorem zww:Sq zmW:=ml0 (d:=false) (S:=fun K=>zg2 (zkp K)) Tryz.func287 (by kernel_rfl) (fun K=>tr1 (T:=zg2) (ztX K K) fun (x0,x1,())=>by kernel_rfl) rfl
def zcu:(qr × ((Option (Option ((qr × Unit)→Option (Bool × Unit)))) × Unit))→Option (Bool × Unit):=fun (x0,x1,()) =>
  Option.bind x1 fun q0=>Option.bind q0 fun q1=>Option.bind (q1 (x0,())) fun q2=>bif q2.1 then some (false,()) else some (true,())
abbrev zmX:Fun:=⟨205,(ch [zY,(.ptr (.fn (ch [zY]) (ch [.bool])))]),(ch [.bool]),0,zcu⟩
theorem zwx:Sq zmX:=ms0 (d:=false) (K:=0) Tryz.func205 (by kernel_rfl) (funext fun (x0,x1,())=>by kernel_rfl)
def zbY:(zx × ((Option (Option ((zx × Unit)→Option (Bool × Unit)))) × Unit))→Option (Bool × Unit):=fun (x0,x1,()) =>
  Option.bind x1 fun q0=>Option.bind q0 fun q1=>Option.bind (q1 (x0,())) fun q2=>bif q2.1 then some (false,()) else some (true,())
abbrev zlF:Fun:=⟨206,(ch [zz,(.ptr (.fn (ch [zz]) (ch [.bool])))]),(ch [.bool]),0,zbY⟩
theorem zvD:Sq zlF:=ms0 (d:=false) (K:=0) Tryz.func206 (by kernel_rfl) (funext fun (x0,x1,())=>by kernel_rfl)
def vX:(zx × Unit)→Option (Bool × Unit):=fun (x0,()) =>
  bif x0.1 then some (true,()) else some (false,())
abbrev zqt:Fun:=⟨134,(ch [zz]),(ch [.bool]),0,vX⟩
theorem zBF:Sq zqt:=ms0 (d:=false) (K:=0) Tryz.func134 (by kernel_rfl) (funext fun (x0,())=>by kernel_rfl)
def zfz:((Option zcm) × Unit)→Option (Bool × Unit):=fun (x0,()) =>
  bif Option.isSome x0 then Option.bind x0 fun q0=>bif Option.isSome q0.2.1 then some (true,()) else some (false,()) else some (false,())
abbrev zoN:Fun:=⟨207,(ch [(.ptr vU)]),(ch [.bool]),0,zfz⟩
theorem zzL:Sq zoN:=ms0 (d:=false) (K:=0) Tryz.func207 (by kernel_rfl) (funext fun (x0,())=>by kernel_rfl)
def zkq:(zu × Unit)→Option (Bool × Unit):=fun (x0,()) =>
  bif x0.1 then some (true,()) else some (false,())
abbrev zwy:Fun:=⟨339,(ch [zr]),(ch [.bool]),0,zkq⟩
theorem zIy:Sq zwy:=ms0 (d:=false) (K:=0) Tryz.func339 (by kernel_rfl) (funext fun (x0,())=>by kernel_rfl)
def zfA:((Option zfn) × Unit)→Option (Bool × Unit):=fun (x0,()) =>
  bif Option.isSome x0 then Option.bind x0 fun q0=>bif Option.isSome q0.2.1 then some (true,()) else some (false,()) else some (false,())
abbrev zoO:Fun:=⟨340,(ch [(.ptr y7)]),(ch [.bool]),0,zfA⟩
theorem zzM:Sq zoO:=ms0 (d:=false) (K:=0) Tryz.func340 (by kernel_rfl) (funext fun (x0,())=>by kernel_rfl)
def ziS:(zu × Unit)→Option (Int × Unit):=fun (x0,()) =>
  bif x0.2.2.2.1 == 2 then some (x0.2.2.2.2.1,()) else some (x0.2.2.2.2.2.1,())
abbrev zuo:Fun:=⟨289,(ch [zr]),(ch [tI]),0,ziS⟩
theorem zFT:Sq zuo:=ms0 (d:=false) (K:=0) Tryz.func289 (by kernel_rfl) (funext fun (x0,())=>by kernel_rfl)
def zmr:(Int × (Int × Unit))→Option (Int × (Int × Unit)):=fun (x0,x1,()) =>
  bif decide (0 ≤ x0) then bif decide (0 ≤ x1) then bif decide (x1 < 18446744073709551616) then bif extB true x0 x1 != 0 then some (0,7,()) else bif decide (extA true x0 x1 > 4611686018427387904) then some (0,7,()) else some (extA true x0 x1,0,()) else none else none else none
abbrev zyG:Fun:=⟨291,(ch [tU,tU]),(ch [tU,tI]),0,zmr⟩
theorem zKW:Sq zyG:=ms0 (d:=false) (K:=0) Tryz.func291 (by kernel_rfl) (funext fun (x0,x1,())=>by kernel_rfl)
def ziT:(zx × Unit)→Option (Bool × Unit):=fun (x0,()) =>
  bif x0.1 then some (true,()) else some (false,())
abbrev zup:Fun:=⟨321,(ch [zz]),(ch [.bool]),0,ziT⟩
theorem zFU:Sq zup:=ms0 (d:=false) (K:=0) Tryz.func321 (by kernel_rfl) (funext fun (x0,())=>by kernel_rfl)
def zlX:(zp × Unit)→Option ((List Int) × Unit):=fun (x0,()) =>
  some (x0.2.2.2.2.2.2.2.1,())
abbrev zsl:Fun:=⟨213,(ch [zy]),(ch [(.arr 4 tU)]),0,zlX⟩
theorem zDD:Sq zsl:=ms0 (d:=false) (K:=0) Tryz.func213 (by kernel_rfl) (funext fun (x0,())=>by kernel_rfl)
def zlY:(zp × Unit)→Option ((List Int) × Unit):=fun (x0,()) =>
  some (x0.2.2.2.2.2.2.2.2.1,())
abbrev zsm:Fun:=⟨214,(ch [zy]),(ch [(.arr 4 tU)]),0,zlY⟩
theorem zDE:Sq zsm:=ms0 (d:=false) (K:=0) Tryz.func214 (by kernel_rfl) (funext fun (x0,())=>by kernel_rfl)
def zkr:(Int × (Int × Unit))→Option (Int × (Int × Unit)):=fun (x0,x1,()) =>
  bif decide (0 ≤ x0) then bif decide (0 ≤ x1) then bif decide (x1 < 18446744073709551616) then bif extB false x0 x1 != 0 then some (0,6,()) else some (extA false x0 x1,0,()) else none else none else none
abbrev zwz:Fun:=⟨215,(ch [tU,tU]),(ch [tU,tI]),0,zkr⟩
theorem zIz:Sq zwz:=ms0 (d:=false) (K:=0) Tryz.func215 (by kernel_rfl) (funext fun (x0,x1,())=>by kernel_rfl)
def zb6:(zb × (pMe × Unit))→Option ((List zh) × Unit):=fun (x0,x1,()) =>
  inR x1.2.1 ((List.length x0.2.1):Int) (some ((ix zf x0.2.1 x1.2.1).2.2.1,()))
abbrev zuq:Fun:=⟨50,(ch [zn,tMe]),(ch [(.sl zi)]),0,zb6⟩
theorem zFV:Sq zuq:=ms0 (d:=false) (K:=0) Tryz.func50 (by kernel_rfl) (funext fun (x0,x1,())=>by kernel_rfl)
def qT:(zh × Unit)→Option (Bool × Unit):=fun (x0,()) =>
  bif x0.1 then some (true,()) else some (false,())
abbrev zur:Fun:=⟨229,(ch [zi]),(ch [.bool]),0,qT⟩
theorem zFW:Sq zur:=ms0 (d:=false) (K:=0) Tryz.func229 (by kernel_rfl) (funext fun (x0,())=>by kernel_rfl)
def zn9:(zh × (qS × Unit))→Option (zh × Unit):=fun (x0,x1,()) =>
  some ((x0.1,x0.2.1,x1.1,x1.2.1,x1.2.2.1,x0.2.2.2.2.2),())
abbrev zBG:Fun:=⟨157,(ch [zi,qm]),(ch [zi]),0,zn9⟩
theorem zNf:Sq zBG:=ms0 (d:=false) (K:=0) Tryz.func157 (by kernel_rfl) (funext fun (x0,x1,())=>by kernel_rfl)
def zcv:((Option zcn) × Unit)→Option (Bool × Unit):=fun (x0,()) =>
  bif Option.isSome x0 then Option.bind x0 fun q0=>bif Option.isSome q0.2.1 then some (true,()) else some (false,()) else some (false,())
abbrev zqu:Fun:=⟨232,(ch [(.ptr ym)]),(ch [.bool]),0,zcv⟩
theorem zBH:Sq zqu:=ms0 (d:=false) (K:=0) Tryz.func232 (by kernel_rfl) (funext fun (x0,())=>by kernel_rfl)
def zmY:(zh × ((Option (Option zcn)) × Unit))→Option (Bool × Unit):=fun (x0,x1,()) =>
  Option.bind x1 fun q0=>Option.bind q0 fun q1=>Option.bind q1.2.1 fun q2=>Option.bind (q2 (x0,())) fun q3=>bif q3.1 then some (false,()) else some (true,())
abbrev zmZ:Fun:=⟨295,(ch [zi,(.ptr (.ptr ym))]),(ch [.bool]),0,zmY⟩
theorem zwA:Sq zmZ:=ms0 (d:=false) (K:=0) Tryz.func295 (by kernel_rfl) (funext fun (x0,x1,())=>by kernel_rfl)
def j4:(Int × Unit)→Option (qS × Unit):=fun (x0,()) =>
  some ((1,x0,(0,0,()),()),())
abbrev zsn:Fun:=⟨90,(ch [tI]),(ch [qm]),0,j4⟩
theorem zDF:Sq zsn:=ms0 (d:=false) (K:=0) Tryz.func90 (by kernel_rfl) (funext fun (x0,())=>by kernel_rfl)
def yn:(zb × (pMe × Unit))→Option (zE × Unit):=fun (x0,x1,()) =>
  inR x1.2.1 ((List.length x0.2.1):Int) (inR x1.2.2.1 ((List.length (ix zf x0.2.1 x1.2.1).2.2.2.2.2.2.1):Int) (some (List.getD (ix zf x0.2.1 x1.2.1).2.2.2.2.2.2.1 (Int.toNat x1.2.2.1) (zd zv),())))
abbrev zus:Fun:=⟨54,(ch [zn,tMe]),(ch [zv]),0,yn⟩
theorem zFX:Sq zus:=ms0 (d:=false) (K:=0) Tryz.func54 (by kernel_rfl) (funext fun (x0,x1,())=>by kernel_rfl)
def zeo:(zE × Unit)→Option (qS × Unit):=fun (x0,()) =>
  some ((2,0,x0,()),())
abbrev zso:Fun:=⟨92,(ch [zv]),(ch [qm]),0,zeo⟩
theorem zDG:Sq zso:=ms0 (d:=false) (K:=0) Tryz.func92 (by kernel_rfl) (funext fun (x0,())=>by kernel_rfl)
def ziU:(zC × Unit)→Option (Bool × Unit):=fun (x0,()) =>
  bif x0.1 == 0 then some (true,()) else bif x0.1 == 1 then some (true,()) else bif x0.1 == 2 then some (true,()) else bif x0.1 == 3 then some (true,()) else some (false,())
abbrev zut:Fun:=⟨296,(ch [zt]),(ch [.bool]),0,ziU⟩
theorem zFY:Sq zut:=ms0 (d:=false) (K:=0) Tryz.func296 (by kernel_rfl) (funext fun (x0,())=>by kernel_rfl)
def zms:(zC × (zC × Unit))→Option (Int × Unit):=fun (x0,x1,()) =>
  bif decide (x0.1 < x1.1) then some ((-1),()) else bif x0.1 == x1.1 then bif decide (x0.2.1 < x1.2.1) then some ((-1),()) else bif eqI zt x0 x1 then some (0,()) else some (1,()) else bif eqI zt x0 x1 then some (0,()) else some (1,())
abbrev zyH:Fun:=⟨297,(ch [zt,zt]),(ch [tI]),0,zms⟩
theorem zKX:Sq zyH:=ms0 (d:=false) (K:=0) Tryz.func297 (by kernel_rfl) (funext fun (x0,x1,())=>by kernel_rfl)
abbrev zcw:Type:=ByteArray × Int
abbrev zBI:zcw→St:=fun (v0,v3)=>St.mk [(0,.dat .str v0),(3,.dat tI v3)] []
def zgA (k0:zcw→Option (Bool × Unit)):zcw→Option (Bool × Unit):=fun (v0,v3) =>
  bif decide (v3 < (↑(ByteArray.size v0):Int)) then inR v3 (↑(ByteArray.size v0):Int) (bif decide ((↑(UInt8.toNat (List.getD (Array.toList (ByteArray.data v0)) (Int.toNat v3) 0)):Int) ≥ 97) then inR v3 (↑(ByteArray.size v0):Int) (bif decide ((↑(UInt8.toNat (List.getD (Array.toList (ByteArray.data v0)) (Int.toNat v3) 0)):Int) ≤ 122) then k0 (v0,wI (v3 + 1)) else bif v3 == 0 then some (false,()) else inR v3 (↑(ByteArray.size v0):Int) (bif decide ((↑(UInt8.toNat (List.getD (Array.toList (ByteArray.data v0)) (Int.toNat v3) 0)):Int) < 48) then some (false,()) else inR v3 (↑(ByteArray.size v0):Int) (bif decide ((↑(UInt8.toNat (List.getD (Array.toList (ByteArray.data v0)) (Int.toNat v3) 0)):Int) > 57) then some (false,()) else k0 (v0,wI (v3 + 1))))) else bif v3 == 0 then some (false,()) else inR v3 (↑(ByteArray.size v0):Int) (bif decide ((↑(UInt8.toNat (List.getD (Array.toList (ByteArray.data v0)) (Int.toNat v3) 0)):Int) < 48) then some (false,()) else inR v3 (↑(ByteArray.size v0):Int) (bif decide ((↑(UInt8.toNat (List.getD (Array.toList (ByteArray.data v0)) (Int.toNat v3) 0)):Int) > 57) then some (false,()) else k0 (v0,wI (v3 + 1))))) else some (true,())
abbrev zks (K:Nat):zcw→Option (Bool × Unit):=zg zgA K
theorem zBJ (K:Nat):∀ n,evV Es0 K Tryz.f86 0 (ch [.bool]) [1,1,0,1,0] [] zBI n = zg zgA n:=zq fun n0 (v0,v3)=>by kernel_rfl
def ziV (L0:zcw→Option (Bool × Unit)):(ByteArray × Unit)→Option (Bool × Unit):=fun (x0,()) =>
  bif (↑(ByteArray.size x0):Int) == 0 then some (false,()) else bif decide ((↑(ByteArray.size x0):Int) > 12) then some (false,()) else L0 (x0,0)
def zH:(ByteArray × Unit)→Option (Bool × Unit):=ziV (zks K0)
abbrev zuu:Fun:=⟨86,(ch [.str]),(ch [.bool]),0,zH⟩
theorem zFZ:Sq zuu:=ml0 (d:=false) (S:=fun K=>ziV (zks K)) Tryz.func86 (by kernel_rfl) (fun K=>tr1 (T:=ziV) (zBJ K K) fun (x0,())=>by kernel_rfl) rfl
def zg3:(Int × Unit)→Option (zC × Unit):=fun (x0,()) =>
  bif decide (wU x0 < 0) then none else some ((0,wU (1 * 2 ^ min (Int.toNat (wU x0)) (IntKind.bits IntKind.u64)),()),())
abbrev zwB:Fun:=⟨299,(ch [tI]),(ch [zt]),0,zg3⟩
theorem zIA:Sq zwB:=ms0 (d:=false) (K:=0) Tryz.func299 (by kernel_rfl) (funext fun (x0,())=>by kernel_rfl)
abbrev zcx:Type:=(List zC) × Int × zC
abbrev zBK:zcx→St:=fun (v0,v5,o0)=>St.mk [(0,.dat (.sl zt) v0),(3,.bp 0 []),(5,.dat tI v5)] [.bx (.dat zt o0) false]
def zcy (k0:zcx→Option (Int × Unit)):zcx→Option (Int × Unit):=fun (v0,v5,o0) =>
  bif decide (v5 < ((List.length v0):Int)) then inR v5 ((List.length v0):Int) (bif eqI zt (ix ji v0 v5) o0 then some (v5,()) else k0 (v0,wI (v5 + 1),o0)) else some ((-1),())
abbrev zqv (K:Nat):zcx→Option (Int × Unit):=zg zcy K
theorem zBL (K:Nat):∀ n,evV Es0 K Tryz.f298 0 (ch [tI]) [1,0,1,0] [] zBK n = zg zcy n:=zq fun n0 (v0,v5,o0)=>by kernel_rfl
def znh (L0:zcx→Option (Int × Unit)):((List zC) × (zC × Unit))→Option (Int × Unit):=fun (x0,x1,()) =>
  L0 (x0,0,x1)
def ziW:((List zC) × zC × Unit)→Option (Int × Unit):=znh (zqv K0)
abbrev zuv:Fun:=⟨298,(ch [(.sl zt),zt]),(ch [tI]),0,ziW⟩
theorem zF0:Sq zuv:=ml0 (d:=false) (S:=fun K=>znh (zqv K)) Tryz.func298 (by kernel_rfl) (fun K=>tr1 (T:=znh) (zBL K K) fun (x0,x1,())=>by kernel_rfl) rfl
def zgg:(zC × (Int × Unit))→Option (Bool × Unit):=fun (x0,x1,()) =>
  bif decide (wU x1 < 0) then none else bif Int.tmod (Int.fdiv x0.2.1 (2 ^ min (Int.toNat (wU x1)) (IntKind.bits IntKind.u64))) 2 == 1 then some (true,()) else some (false,())
abbrev zyI:Fun:=⟨169,(ch [zt,tI]),(ch [.bool]),0,zgg⟩
theorem zKY:Sq zyI:=ms0 (d:=false) (K:=0) Tryz.func169 (by kernel_rfl) (funext fun (x0,x1,())=>by kernel_rfl)
abbrev zfW:Type:=(List zE) × Int × Int
abbrev zF1:zfW→St:=fun (v0,v1,v5)=>St.mk [(0,.dat (.sl jt) v0),(1,.dat tI v1),(5,.dat tI v5)] []
def zfX (k0:zfW→Option (Bool × Unit)):zfW→Option (Bool × Unit):=fun (v0,v1,v5) =>
  bif decide (v5 < ((List.length v0):Int)) then inR v5 ((List.length v0):Int) (bif (ix qB v0 v5).1 == v1 then some (true,()) else k0 (v0,v1,wI (v5 + 1))) else some (false,())
abbrev zuw (K:Nat):zfW→Option (Bool × Unit):=zg zfX K
theorem zF2 (K:Nat):∀ n,evV Es0 K Tryz.f300 0 (ch [.bool]) [1,0,1,0] [] zF1 n = zg zfX n:=zq fun n0 (v0,v1,v5)=>by kernel_rfl
def zrD (L0:zfW→Option (Bool × Unit)):((List zE) × (Int × Unit))→Option (Bool × Unit):=fun (x0,x1,()) =>
  L0 (x0,x1,0)
def zrE:((List zE) × Int × Unit)→Option (Bool × Unit):=zrD (zuw K0)
abbrev zyJ:Fun:=⟨300,(ch [(.sl jt),tI]),(ch [.bool]),0,zrE⟩
theorem zKZ:Sq zyJ:=ml0 (d:=false) (S:=fun K=>zrD (zuw K)) Tryz.func300 (by kernel_rfl) (fun K=>tr1 (T:=zrD) (zF2 K K) fun (x0,x1,())=>by kernel_rfl) rfl
def yo:(Int × Unit)→Option (Bool × Unit):=fun (x0,()) =>
  bif decide (x0 ≥ 0) then bif decide (x0 ≤ 12) then some (true,()) else some (false,()) else some (false,())
abbrev zux:Fun:=⟨301,(ch [tI]),(ch [.bool]),0,yo⟩
theorem zF3:Sq zux:=ms0 (d:=false) (K:=0) Tryz.func301 (by kernel_rfl) (funext fun (x0,())=>by kernel_rfl)
abbrev zcz:Type:=Int × ze × zb
abbrev zBM:zcz→St:=fun (v5,o0,o1)=>St.mk [(2,.bp 0 []),(3,.bp 1 []),(5,.dat tI v5)] [.bx (.dat zw o0) false,.bx (.dat zn o1) false]
def zgB (k0:zcz→Option (Bool × Unit)):zcz→Option (Bool × Unit):=fun (v5,o0,o1) =>
  bif decide (v5 < ((List.length o1.2.1):Int)) then inR v5 ((List.length o1.2.1):Int) (inR v5 ((List.length o0.2.2.2.2.1):Int) (bif ((List.length (ix zf o1.2.1 v5).1):Int) != (ix qt o0.2.2.2.2.1 v5).1 then some (false,()) else bif ((List.length (ix zf o1.2.1 v5).2.1):Int) != (ix qt o0.2.2.2.2.1 v5).2.1 then some (false,()) else bif ((List.length (ix zf o1.2.1 v5).2.2.1):Int) != (ix qt o0.2.2.2.2.1 v5).2.2.1 then some (false,()) else bif ((List.length (ix zf o1.2.1 v5).2.2.2.1):Int) != (ix qt o0.2.2.2.2.1 v5).2.2.2.1 then some (false,()) else bif ((List.length (ix zf o1.2.1 v5).2.2.2.2.1):Int) != (ix qt o0.2.2.2.2.1 v5).2.2.2.2.1 then some (false,()) else bif ((List.length (ix zf o1.2.1 v5).2.2.2.2.2.1):Int) != ((List.length o0.2.2.1):Int) then some (false,()) else bif ((List.length (ix zf o1.2.1 v5).2.2.2.2.2.2.1):Int) != ((List.length o0.2.2.1):Int) then some (false,()) else k0 (wI (v5 + 1),o0,o1))) else some (true,())
abbrev zkt (K:Nat):zcz→Option (Bool × Unit):=zg zgB K
theorem zBN (K:Nat):∀ n,evV Es0 K Tryz.f161 0 (ch [.bool]) [1,1,0,1,0] [] zBM n = zg zgB n:=zq fun n0 (v5,o0,o1)=>by kernel_rfl
def ziX (L0:zcz→Option (Bool × Unit)):(ze × (zb × Unit))→Option (Bool × Unit):=fun (x0,x1,()) =>
  bif ((List.length x1.2.1):Int) != ((List.length x0.1):Int) then some (false,()) else bif ((List.length x1.2.2.2.1):Int) != x0.2.2.2.2.2.1 then some (false,()) else bif decide (((List.length x1.2.2.2.2.1):Int) > x0.2.2.2.2.2.2.1) then some (false,()) else bif ((List.length x1.2.2.2.2.2.1):Int) != ((List.length x0.2.1):Int) then some (false,()) else bif decide (x1.1 > 4611686018427387904) then some (false,()) else L0 (0,x0,x1)
def ziY:(ze × zb × Unit)→Option (Bool × Unit):=ziX (zkt K0)
abbrev zuy:Fun:=⟨161,(ch [zw,zn]),(ch [.bool]),0,ziY⟩
theorem zF4:Sq zuy:=ml0 (d:=false) (S:=fun K=>ziX (zkt K)) Tryz.func161 (by kernel_rfl) (fun K=>tr1 (T:=ziX) (zBN K K) fun (x0,x1,())=>by kernel_rfl) rfl
def ziZ:(Int × (Int × Unit))→Option (Int × (Int × Unit)):=fun (x0,x1,()) =>
  bif x0 != 0 then bif x0 == 0 then none else bif decide (x1 > wU (Int.tdiv 4611686018427387904 x0)) then some (0,7,()) else some (wU (x0 * x1),0,()) else some (wU (x0 * x1),0,())
abbrev zuz:Fun:=⟨342,(ch [tU,tU]),(ch [tU,tI]),0,ziZ⟩
theorem zF5:Sq zuz:=ms0 (d:=false) (K:=0) Tryz.func342 (by kernel_rfl) (funext fun (x0,x1,())=>by kernel_rfl)
def zix:(Int × Unit)→Option (Bool × Unit):=fun (x0,()) =>
  bif decide (x0 ≥ 0) then bif decide (x0 < 128) then some (true,()) else some (false,()) else some (false,())
abbrev zyK:Fun:=⟨325,(ch [tI]),(ch [.bool]),0,zix⟩
theorem zK0:Sq zyK:=ms0 (d:=false) (K:=0) Tryz.func325 (by kernel_rfl) (funext fun (x0,())=>by kernel_rfl)
abbrev zfY:Type:=(List zu) × Int × Int × Int
abbrev zF6:zfY→St:=fun (v0,v1,v2,v7)=>St.mk [(0,.dat (.sl zr) v0),(1,.dat tI v1),(2,.dat tI v2),(7,.dat tI v7)] []
def zfZ (k0:zfY→Option (Bool × Unit)):zfY→Option (Bool × Unit):=fun (v0,v1,v2,v7) =>
  bif decide (v7 < v1) then inR v7 ((List.length v0):Int) (bif (ix zK v0 v7).1 then inR v7 ((List.length v0):Int) (bif (ix zK v0 v7).2.2.2.2.2.2.2.2.2.1 == v2 then some (true,()) else k0 (v0,v1,v2,wI (v7 + 1))) else k0 (v0,v1,v2,wI (v7 + 1))) else some (false,())
abbrev zuA (K:Nat):zfY→Option (Bool × Unit):=zg zfZ K
theorem zF7 (K:Nat):∀ n,evV Es0 K Tryz.f303 0 (ch [.bool]) [1,0,1,0] [] zF6 n = zg zfZ n:=zq fun n0 (v0,v1,v2,v7)=>by kernel_rfl
def zrF (L0:zfY→Option (Bool × Unit)):((List zu) × (Int × (Int × Unit)))→Option (Bool × Unit):=fun (x0,x1,x2,()) =>
  L0 (x0,x1,x2,0)
def zmt:((List zu) × Int × Int × Unit)→Option (Bool × Unit):=zrF (zuA K0)
abbrev zyL:Fun:=⟨303,(ch [(.sl zr),tI,tI]),(ch [.bool]),0,zmt⟩
theorem zK1:Sq zyL:=ml0 (d:=false) (S:=fun K=>zrF (zuA K)) Tryz.func303 (by kernel_rfl) (fun K=>tr1 (T:=zrF) (zF7 K K) fun (x0,x1,x2,())=>by kernel_rfl) rfl
def zdQ:(Int × Unit)→Option (Bool × Unit):=fun (x0,()) =>
  bif decide (x0 ≥ 0) then bif decide (x0 < 128) then some (true,()) else some (false,()) else some (false,())
abbrev zyM:Fun:=⟨326,(ch [tI]),(ch [.bool]),0,zdQ⟩
theorem zK2:Sq zyM:=ms0 (d:=false) (K:=0) Tryz.func326 (by kernel_rfl) (funext fun (x0,())=>by kernel_rfl)
def zhx:(zJ × (zJ × Unit))→Option (Bool × Unit):=fun (x0,x1,()) =>
  bif decide (x0.1 > x1.1) then some (true,()) else bif x0.1 == x1.1 then bif decide (x0.2.1 > x1.2.1) then some (true,()) else some (false,()) else some (false,())
abbrev zsp:Fun:=⟨305,(ch [zA,zA]),(ch [.bool]),0,zhx⟩
theorem zDH:Sq zsp:=ms0 (d:=false) (K:=0) Tryz.func305 (by kernel_rfl) (funext fun (x0,x1,())=>by kernel_rfl)
def zf0:(zb × (zE × Unit))→Option (Bool × Unit):=fun (x0,x1,()) =>
  bif decide (x1.1 < 0) then some (false,()) else bif decide (x1.1 ≥ ((List.length x0.2.1):Int)) then some (false,()) else bif decide (x1.2.1 < 0) then some (false,()) else inR x1.1 ((List.length x0.2.1):Int) (bif decide (x1.2.1 ≥ ((List.length (ix zf x0.2.1 x1.1).1):Int)) then some (false,()) else inR x1.1 ((List.length x0.2.1):Int) (inR x1.2.1 ((List.length (ix zf x0.2.1 x1.1).1):Int) (bif (List.getD (ix zf x0.2.1 x1.1).1 (Int.toNat x1.2.1) (zd qk)).1 then some (true,()) else some (false,()))))
abbrev zuB:Fun:=⟨240,(ch [zn,zv]),(ch [.bool]),0,zf0⟩
theorem zF8:Sq zuB:=ms0 (d:=false) (K:=0) Tryz.func240 (by kernel_rfl) (funext fun (x0,x1,())=>by kernel_rfl)
def jY:(ze × (Int × Unit))→Option (Bool × Unit):=fun (x0,x1,()) =>
  bif decide (x1 ≥ 0) then bif decide (x1 < ((List.length x0.2.2.1):Int)) then some (true,()) else some (false,()) else some (false,())
abbrev zyN:Fun:=⟨166,(ch [zw,tI]),(ch [.bool]),0,jY⟩
theorem zK3:Sq zyN:=ms0 (d:=false) (K:=0) Tryz.func166 (by kernel_rfl) (funext fun (x0,x1,())=>by kernel_rfl)
def qx:(zE × Unit)→Option (Bool × Unit):=fun (x0,()) =>
  bif decide (x0.1 ≥ 0) then bif decide (x0.1 < 128) then bif decide (x0.2.1 ≥ 0) then bif decide (x0.2.1 < 128) then some (true,()) else some (false,()) else some (false,()) else some (false,()) else some (false,())
abbrev zuC:Fun:=⟨88,(ch [zv]),(ch [.bool]),0,qx⟩
theorem zF9:Sq zuC:=ms0 (d:=false) (K:=0) Tryz.func88 (by kernel_rfl) (funext fun (x0,())=>by kernel_rfl)
def vn:(Int × Unit)→Option (Bool × Unit):=fun (x0,()) =>
  bif decide (x0 ≥ 0) then bif decide (x0 < 128) then some (true,()) else some (false,()) else some (false,())
abbrev zyO:Fun:=⟨85,(ch [tI]),(ch [.bool]),0,vn⟩
theorem zK4:Sq zyO:=ms0 (d:=false) (K:=0) Tryz.func85 (by kernel_rfl) (funext fun (x0,())=>by kernel_rfl)
def zgh:(Int × Unit)→Option (Bool × Unit):=fun (x0,()) =>
  bif decide (x0 ≥ 0) then bif decide (x0 < 128) then some (true,()) else some (false,()) else some (false,())
abbrev zyP:Fun:=⟨306,(ch [tI]),(ch [.bool]),0,zgh⟩
theorem zK5:Sq zyP:=ms0 (d:=false) (K:=0) Tryz.func306 (by kernel_rfl) (funext fun (x0,())=>by kernel_rfl)
def zmu:(Int × Unit)→Option (Bool × Unit):=fun (x0,()) =>
  bif decide (x0 ≥ 32) then bif decide (x0 ≤ 126) then some (true,()) else some (false,()) else some (false,())
abbrev zyQ:Fun:=⟨327,(ch [(.int .u8)]),(ch [.bool]),0,zmu⟩
theorem zK6:Sq zyQ:=ms0 (d:=false) (K:=0) Tryz.func327 (by kernel_rfl) (funext fun (x0,())=>by kernel_rfl)
def jx:(Int × Unit)→Option (Bool × Unit):=fun (x0,()) =>
  bif decide (x0 ≥ 0) then bif decide (x0 < 128) then some (true,()) else some (false,()) else some (false,())
abbrev zyR:Fun:=⟨328,(ch [tI]),(ch [.bool]),0,jx⟩
theorem zK7:Sq zyR:=ms0 (d:=false) (K:=0) Tryz.func328 (by kernel_rfl) (funext fun (x0,())=>by kernel_rfl)
def jy:(zj8 × Unit)→Option (Bool × Unit):=fun (x0,()) =>
  bif decide (x0.1 ≥ 0) then bif decide (x0.1 < 4) then bif decide (x0.2.1 ≤ 4611686018427387904) then bif decide (x0.2.2.1 ≥ -1) then bif decide (x0.2.2.1 < 128) then some (true,()) else some (false,()) else some (false,()) else some (false,()) else some (false,()) else some (false,())
abbrev zyS:Fun:=⟨329,(ch [zd0]),(ch [.bool]),0,jy⟩
theorem zK8:Sq zyS:=ms0 (d:=false) (K:=0) Tryz.func329 (by kernel_rfl) (funext fun (x0,())=>by kernel_rfl)
def zi0:(zu × (Int × Unit))→Option (Int × Unit):=fun (x0,x1,()) =>
  bif x0.1 then bif x0.2.2.2.1 == 2 then bif x0.2.2.2.2.1 == x1 then some (x0.2.2.2.2.2.2.2.2.1,()) else bif x0.2.2.2.1 != 2 then bif x0.2.2.2.2.2.1 == x1 then some (x0.2.2.2.2.2.2.2.2.1,()) else some (0,()) else some (0,()) else bif x0.2.2.2.1 != 2 then bif x0.2.2.2.2.2.1 == x1 then some (x0.2.2.2.2.2.2.2.2.1,()) else some (0,()) else some (0,()) else some (0,())
abbrev zuD:Fun:=⟨309,(ch [zr,tI]),(ch [tU]),0,zi0⟩
theorem zGa:Sq zuD:=ms0 (d:=false) (K:=0) Tryz.func309 (by kernel_rfl) (funext fun (x0,x1,())=>by kernel_rfl)
def vY:(Int × (Int × Unit))→Option (Int × (Int × Unit)):=fun (x0,x1,()) =>
  bif decide (x0 > 4611686018427387904) then some (0,7,()) else bif decide (x1 > wU (4611686018427387904 - x0)) then some (0,7,()) else some (wU (x0 + x1),0,())
abbrev zwC:Fun:=⟨250,(ch [tU,tU]),(ch [tU,tI]),0,vY⟩
theorem zIB:Sq zwC:=ms0 (d:=false) (K:=0) Tryz.func250 (by kernel_rfl) (funext fun (x0,x1,())=>by kernel_rfl)
def zf1:(Int × (Int × Unit))→Option (Int × (Int × Unit)):=fun (x0,x1,()) =>
  bif decide (x1 > x0) then some (0,6,()) else some (wU (x0 - x1),0,())
abbrev zuE:Fun:=⟨251,(ch [tU,tU]),(ch [tU,tI]),0,zf1⟩
theorem zGb:Sq zuE:=ms0 (d:=false) (K:=0) Tryz.func251 (by kernel_rfl) (funext fun (x0,x1,())=>by kernel_rfl)
def za4:((List zh) × (Int × (zh × Unit)))→Option ((List zh) × Unit):=fun (x0,x1,x2,()) =>
  bif decide ((0:Nat) + List.length x0 ≤ lim) then inR x1 ((List.length ([] ++ x0)):Int) (some (List.set ([] ++ x0) (Int.toNat x1) x2,())) else none
abbrev zyT:Fun:=⟨87,(ch [(.sl zi),tI,zi]),(ch [(.sl zi)]),0,za4⟩
theorem zK9:Sq zyT:=ms0 (d:=false) (K:=0) Tryz.func87 (by kernel_rfl) (funext fun (x0,x1,x2,())=>by kernel_rfl)
def vH:((List zh) × (Int × (Int × Unit)))→Option (Bool × Unit):=fun (x0,x1,x2,()) =>
  bif decide (x1 ≥ 0) then bif decide (x1 < ((List.length x0):Int)) then inR x1 ((List.length x0):Int) (bif (ix zj x0 x1).1 then inR x1 ((List.length x0):Int) (bif (ix zj x0 x1).2.2.1 == 1 then inR x1 ((List.length x0):Int) (bif (ix zj x0 x1).2.2.2.1 == x2 then some (true,()) else some (false,())) else some (false,())) else some (false,())) else some (false,()) else some (false,())
abbrev zsq:Fun:=⟨46,(ch [(.sl zi),tI,tI]),(ch [.bool]),0,vH⟩
theorem zDI:Sq zsq:=ms0 (d:=false) (K:=0) Tryz.func46 (by kernel_rfl) (funext fun (x0,x1,x2,())=>by kernel_rfl)
def zep:(zb × (pMe × Unit))→Option (zE × Unit):=fun (x0,x1,()) =>
  inR x1.2.1 ((List.length x0.2.1):Int) (inR x1.2.2.1 ((List.length (ix zf x0.2.1 x1.2.1).2.2.2.2.2.2.1):Int) (some (List.getD (ix zf x0.2.1 x1.2.1).2.2.2.2.2.2.1 (Int.toNat x1.2.2.1) (zd zv),())))
abbrev zwD:Fun:=⟨44,(ch [zn,tMe]),(ch [zv]),0,zep⟩
theorem zIC:Sq zwD:=ms0 (d:=false) (K:=0) Tryz.func44 (by kernel_rfl) (funext fun (x0,x1,())=>by kernel_rfl)
def vZ:(zb × (Int × (zp × Unit)))→Option (zb × Unit):=fun (x0,x1,x2,()) =>
  bif decide ((0:Nat) + List.length x0.2.1 ≤ lim) then inR x1 ((List.length ([] ++ x0.2.1)):Int) (some ((u1 x0 (List.set ([] ++ x0.2.1) (Int.toNat x1) x2)),())) else none
abbrev zwE:Fun:=⟨48,(ch [zn,tI,zy]),(ch [zn]),0,vZ⟩
theorem zID:Sq zwE:=ms0 (d:=false) (K:=0) Tryz.func48 (by kernel_rfl) (funext fun (x0,x1,x2,())=>by kernel_rfl)
def zuF:Unit→Option (ze × Unit):=fun () =>
  some (([(0,0,()),(0,1,()),(1,1,())],[0,1,2],[(ByteArray.mk #[97,110,110],ByteArray.mk #[97],1,true,()),(ByteArray.mk #[98,111,98],ByteArray.mk #[98],0,false,())],[(0,0,())],[(2,2,2,2,2,1000,()),(2,2,2,2,2,1000,()),(2,2,2,2,2,1000,())],4,6,2,3,()),())
abbrev zuG:Fun:=⟨56,.unit,(ch [zw]),0,zuF⟩
theorem zGc:Sq zuG:=ms0 (d:=false) (K:=0) Tryz.func56 (by kernel_rfl) (funext fun ()=>by kernel_rfl)
def zuH:(ze × (zbm × Unit))→Option (zp × Unit):=fun (x0,x1,()) =>
  bif decide (0 ≤ x1.1) then bif decide (x1.1 ≤ x1.1) then bif decide (x1.1 ≤ (↑lim:Int)) then bif decide (0 ≤ x1.2.1) then bif decide (x1.2.1 ≤ x1.2.1) then bif decide (x1.2.1 ≤ (↑lim:Int)) then bif decide (0 ≤ x1.2.2.1) then bif decide (x1.2.2.1 ≤ x1.2.2.1) then bif decide (x1.2.2.1 ≤ (↑lim:Int)) then bif decide (0 ≤ x1.2.2.2.1) then bif decide (x1.2.2.2.1 ≤ x1.2.2.2.1) then bif decide (x1.2.2.2.1 ≤ (↑lim:Int)) then bif decide (0 ≤ x1.2.2.2.2.1) then bif decide (x1.2.2.2.2.1 ≤ x1.2.2.2.2.1) then bif decide (x1.2.2.2.2.1 ≤ (↑lim:Int)) then bif decide (((List.length x0.2.2.1):Int) ≤ ((List.length x0.2.2.1):Int)) then bif decide (((List.length x0.2.2.1):Int) ≤ (↑lim:Int)) then bif decide (((List.length x0.2.2.1):Int) ≤ ((List.length x0.2.2.1):Int)) then bif decide (((List.length x0.2.2.1):Int) ≤ (↑lim:Int)) then some ((List.replicate (Int.toNat x1.1) (zd qk),List.replicate (Int.toNat x1.2.1) (zd zU),List.replicate (Int.toNat x1.2.2.1) (zd zi),List.replicate (Int.toNat x1.2.2.2.1) (zd zY),List.replicate (Int.toNat x1.2.2.2.2.1) (zd zz),List.replicate (Int.toNat ((List.length x0.2.2.1):Int)) (zd (.arr 4 tU)),List.replicate (Int.toNat ((List.length x0.2.2.1):Int)) (zd zv),[0,0,0,0],[0,0,0,0],()),()) else none else none else none else none else none else none else none else none else none else none else none else none else none else none else none else none else none else none else none
abbrev zuI:Fun:=⟨96,(ch [zw,zcl]),(ch [zy]),3,zuH⟩
theorem zGd:Sq zuI:=ms0 (d:=true) (K:=0) Tryz.func96 (by kernel_rfl) (funext fun (x0,x1,())=>by kernel_rfl)
abbrev zeq:Type:=(List (List Int)) × (List (List Int)) × Int × Int
abbrev zsr:zeq→St:=fun (v0,v1,v5,v6)=>St.mk [(0,.dat (.sl (.sl tI)) v0),(1,.dat (.sl (.sl tI)) v1),(5,.dat tI v5),(6,.dat tI v6)] []
abbrev yR:Type:=(List (List Int)) × (List (List Int)) × Int
abbrev zss:yR→St:=fun (v0,v1,v5)=>St.mk [(0,.dat (.sl (.sl tI)) v0),(1,.dat (.sl (.sl tI)) v1),(5,.dat tI v5)] []
def zer (k0:yR→Option (Bool × Unit)) (k1:zeq→Option (Bool × Unit)):zeq→Option (Bool × Unit):=fun (v0,v1,v5,v6) =>
  inR v5 ((List.length v0):Int) (bif decide (v6 < ((List.length (List.getD v0 (Int.toNat v5) ([]:List Int))):Int)) then inR v5 ((List.length v0):Int) (inR v6 ((List.length (List.getD v0 (Int.toNat v5) ([]:List Int))):Int) (inR v5 ((List.length v1):Int) (inR v6 ((List.length (List.getD v1 (Int.toNat v5) ([]:List Int))):Int) (bif List.getD (List.getD v0 (Int.toNat v5) ([]:List Int)) (Int.toNat v6) (0:Int) != List.getD (List.getD v1 (Int.toNat v5) ([]:List Int)) (Int.toNat v6) (0:Int) then some (false,()) else k1 (v0,v1,v5,wI (v6 + 1)))))) else k0 (v0,v1,wI (v5 + 1)))
abbrev zhy (K:Nat) (k0:yR→Option (Bool × Unit)):zeq→Option (Bool × Unit):=zg (fun k1=>zer k0 k1) K
theorem zDJ (K:Nat) (n0:Nat):∀ n,evV Es0 K Tryz.f58 0 (ch [.bool]) [1,1,0,1,0,0,1,0,0,1,1,0] [n0] zsr n = zg (fun k1=>zer (evV Es0 K Tryz.f58 0 (ch [.bool]) [1,1,0,1,0] [] zss n0) k1) n:=zq fun n1 (v0,v1,v5,v6)=>by kernel_rfl
def za8 (L1:zeq→Option (Bool × Unit)) (k0:yR→Option (Bool × Unit)):yR→Option (Bool × Unit):=fun (v0,v1,v5) =>
  bif decide (v5 < ((List.length v0):Int)) then inR v5 ((List.length v0):Int) (inR v5 ((List.length v1):Int) (bif ((List.length (List.getD v0 (Int.toNat v5) ([]:List Int))):Int) != ((List.length (List.getD v1 (Int.toNat v5) ([]:List Int))):Int) then some (false,()) else L1 (v0,v1,v5,0))) else some (true,())
abbrev zst (K:Nat):yR→Option (Bool × Unit):=zg (fun k0=>za8 (zhy K k0) k0) K
theorem zDK (K:Nat):∀ n,evV Es0 K Tryz.f58 0 (ch [.bool]) [1,1,0,1,0] [] zss n = zg (fun k0=>za8 (zhy K k0) k0) n:=qu (B:=fun L1 k0=>za8 L1 k0) (V1:=fun n0=>evV Es0 K Tryz.f58 0 (ch [.bool]) [1,1,0,1,0,0,1,0,0,1,1,0] [n0] zsr K) (W1:=fun k0=>(zhy K k0)) (fun n0=>zDJ K n0 K) fun n0 (v0,v1,v5)=>by kernel_rfl
def zoP (L0:yR→Option (Bool × Unit)):((List (List Int)) × ((List (List Int)) × Unit))→Option (Bool × Unit):=fun (x0,x1,()) =>
  bif ((List.length x0):Int) != ((List.length x1):Int) then some (false,()) else L0 (x0,x1,0)
def zoQ:((List (List Int)) × (List (List Int)) × Unit)→Option (Bool × Unit):=zoP (zst K0)
abbrev zwF:Fun:=⟨58,(ch [(.sl (.sl tI)),(.sl (.sl tI))]),(ch [.bool]),0,zoQ⟩
theorem zIE:Sq zwF:=ml0 (d:=false) (S:=fun K=>zoP (zst K)) Tryz.func58 (by kernel_rfl) (fun K=>tr1 (T:=zoP) (zDK K K) fun (x0,x1,())=>by kernel_rfl) rfl
abbrev zes:Type:=(List zu) × (List zu) × Int
abbrev zDL:zes→St:=fun (v0,v1,v5)=>St.mk [(0,.dat (.sl zr) v0),(1,.dat (.sl zr) v1),(5,.dat tI v5)] []
def zet (k0:zes→Option (Bool × Unit)):zes→Option (Bool × Unit):=fun (v0,v1,v5) =>
  bif decide (v5 < ((List.length v0):Int)) then inR v5 ((List.length v0):Int) (inR v5 ((List.length v1):Int) (bif !eqI zr (ix zK v0 v5) (ix zK v1 v5) then some (false,()) else k0 (v0,v1,wI (v5 + 1)))) else some (true,())
abbrev zsu (K:Nat):zes→Option (Bool × Unit):=zg zet K
theorem zDM (K:Nat):∀ n,evV Es0 K Tryz.f59 0 (ch [.bool]) [1,1,0,1,0] [] zDL n = zg zet n:=zq fun n0 (v0,v1,v5)=>by kernel_rfl
def zoR (L0:zes→Option (Bool × Unit)):((List zu) × ((List zu) × Unit))→Option (Bool × Unit):=fun (x0,x1,()) =>
  bif ((List.length x0):Int) != ((List.length x1):Int) then some (false,()) else L0 (x0,x1,0)
def zoS:((List zu) × (List zu) × Unit)→Option (Bool × Unit):=zoR (zsu K0)
abbrev zwG:Fun:=⟨59,(ch [(.sl zr),(.sl zr)]),(ch [.bool]),0,zoS⟩
theorem zIF:Sq zwG:=ml0 (d:=false) (S:=fun K=>zoR (zsu K)) Tryz.func59 (by kernel_rfl) (fun K=>tr1 (T:=zoR) (zDM K K) fun (x0,x1,())=>by kernel_rfl) rfl
abbrev zeu:Type:=(List zJ) × (List zJ) × Int
abbrev zDN:zeu→St:=fun (v0,v1,v5)=>St.mk [(0,.dat (.sl zA) v0),(1,.dat (.sl zA) v1),(5,.dat tI v5)] []
def zev (k0:zeu→Option (Bool × Unit)):zeu→Option (Bool × Unit):=fun (v0,v1,v5) =>
  bif decide (v5 < ((List.length v0):Int)) then inR v5 ((List.length v0):Int) (inR v5 ((List.length v1):Int) (bif !eqI zA (ix vT v0 v5) (ix vT v1 v5) then some (false,()) else k0 (v0,v1,wI (v5 + 1)))) else some (true,())
abbrev zsv (K:Nat):zeu→Option (Bool × Unit):=zg zev K
theorem zDO (K:Nat):∀ n,evV Es0 K Tryz.f60 0 (ch [.bool]) [1,1,0,1,0] [] zDN n = zg zev n:=zq fun n0 (v0,v1,v5)=>by kernel_rfl
def zoT (L0:zeu→Option (Bool × Unit)):((List zJ) × ((List zJ) × Unit))→Option (Bool × Unit):=fun (x0,x1,()) =>
  bif ((List.length x0):Int) != ((List.length x1):Int) then some (false,()) else L0 (x0,x1,0)
def zoU:((List zJ) × (List zJ) × Unit)→Option (Bool × Unit):=zoT (zsv K0)
abbrev zwH:Fun:=⟨60,(ch [(.sl zA),(.sl zA)]),(ch [.bool]),0,zoU⟩
theorem zIG:Sq zwH:=ml0 (d:=false) (S:=fun K=>zoT (zsv K)) Tryz.func60 (by kernel_rfl) (fun K=>tr1 (T:=zoT) (zDO K K) fun (x0,x1,())=>by kernel_rfl) rfl
abbrev yD:Type:=(List qV) × (List qV) × Int
abbrev zvE:yD→St:=fun (v0,v1,v5)=>St.mk [(0,.dat (.sl qk) v0),(1,.dat (.sl qk) v1),(5,.dat tI v5)] []
def yE (k0:yD→Option (Bool × Unit)):yD→Option (Bool × Unit):=fun (v0,v1,v5) =>
  bif decide (v5 < ((List.length v0):Int)) then inR v5 ((List.length v0):Int) (inR v5 ((List.length v1):Int) (bif !eqI qk (ix zhs v0 v5) (ix zhs v1 v5) then some (false,()) else k0 (v0,v1,wI (v5 + 1)))) else some (true,())
abbrev zlG (K:Nat):yD→Option (Bool × Unit):=zg yE K
theorem zvF (K:Nat):∀ n,evV Es0 K Tryz.f97 0 (ch [.bool]) [1,1,0,1,0] [] zvE n = zg yE n:=zq fun n0 (v0,v1,v5)=>by kernel_rfl
def zib (L0:yD→Option (Bool × Unit)):((List qV) × ((List qV) × Unit))→Option (Bool × Unit):=fun (x0,x1,()) =>
  bif ((List.length x0):Int) != ((List.length x1):Int) then some (false,()) else L0 (x0,x1,0)
def zic:((List qV) × (List qV) × Unit)→Option (Bool × Unit):=zib (zlG K0)
abbrev znT:Fun:=⟨97,(ch [(.sl qk),(.sl qk)]),(ch [.bool]),0,zic⟩
theorem zyf:Sq znT:=ml0 (d:=false) (S:=fun K=>zib (zlG K)) Tryz.func97 (by kernel_rfl) (fun K=>tr1 (T:=zib) (zvF K K) fun (x0,x1,())=>by kernel_rfl) rfl
abbrev yF:Type:=(List qe) × (List qe) × Int
abbrev zvG:yF→St:=fun (v0,v1,v5)=>St.mk [(0,.dat (.sl zU) v0),(1,.dat (.sl zU) v1),(5,.dat tI v5)] []
def yG (k0:yF→Option (Bool × Unit)):yF→Option (Bool × Unit):=fun (v0,v1,v5) =>
  bif decide (v5 < ((List.length v0):Int)) then inR v5 ((List.length v0):Int) (inR v5 ((List.length v1):Int) (bif !eqI zU (ix qh v0 v5) (ix qh v1 v5) then some (false,()) else k0 (v0,v1,wI (v5 + 1)))) else some (true,())
abbrev zlH (K:Nat):yF→Option (Bool × Unit):=zg yG K
theorem zvH (K:Nat):∀ n,evV Es0 K Tryz.f98 0 (ch [.bool]) [1,1,0,1,0] [] zvG n = zg yG n:=zq fun n0 (v0,v1,v5)=>by kernel_rfl
def zid (L0:yF→Option (Bool × Unit)):((List qe) × ((List qe) × Unit))→Option (Bool × Unit):=fun (x0,x1,()) =>
  bif ((List.length x0):Int) != ((List.length x1):Int) then some (false,()) else L0 (x0,x1,0)
def zie:((List qe) × (List qe) × Unit)→Option (Bool × Unit):=zid (zlH K0)
abbrev znU:Fun:=⟨98,(ch [(.sl zU),(.sl zU)]),(ch [.bool]),0,zie⟩
theorem zyg:Sq znU:=ml0 (d:=false) (S:=fun K=>zid (zlH K)) Tryz.func98 (by kernel_rfl) (fun K=>tr1 (T:=zid) (zvH K K) fun (x0,x1,())=>by kernel_rfl) rfl
abbrev zew:Type:=(List zh) × (List zh) × Int
abbrev zDP:zew→St:=fun (v0,v1,v5)=>St.mk [(0,.dat (.sl zi) v0),(1,.dat (.sl zi) v1),(5,.dat tI v5)] []
def zex (k0:zew→Option (Bool × Unit)):zew→Option (Bool × Unit):=fun (v0,v1,v5) =>
  bif decide (v5 < ((List.length v0):Int)) then inR v5 ((List.length v0):Int) (inR v5 ((List.length v1):Int) (bif !eqI zi (ix zj v0 v5) (ix zj v1 v5) then some (false,()) else k0 (v0,v1,wI (v5 + 1)))) else some (true,())
abbrev zsw (K:Nat):zew→Option (Bool × Unit):=zg zex K
theorem zDQ (K:Nat):∀ n,evV Es0 K Tryz.f99 0 (ch [.bool]) [1,1,0,1,0] [] zDP n = zg zex n:=zq fun n0 (v0,v1,v5)=>by kernel_rfl
def zoV (L0:zew→Option (Bool × Unit)):((List zh) × ((List zh) × Unit))→Option (Bool × Unit):=fun (x0,x1,()) =>
  bif ((List.length x0):Int) != ((List.length x1):Int) then some (false,()) else L0 (x0,x1,0)
def zoW:((List zh) × (List zh) × Unit)→Option (Bool × Unit):=zoV (zsw K0)
abbrev zwI:Fun:=⟨99,(ch [(.sl zi),(.sl zi)]),(ch [.bool]),0,zoW⟩
theorem zIH:Sq zwI:=ml0 (d:=false) (S:=fun K=>zoV (zsw K)) Tryz.func99 (by kernel_rfl) (fun K=>tr1 (T:=zoV) (zDQ K K) fun (x0,x1,())=>by kernel_rfl) rfl
abbrev zey:Type:=(List qr) × (List qr) × Int
abbrev zDR:zey→St:=fun (v0,v1,v5)=>St.mk [(0,.dat (.sl zY) v0),(1,.dat (.sl zY) v1),(5,.dat tI v5)] []
def zez (k0:zey→Option (Bool × Unit)):zey→Option (Bool × Unit):=fun (v0,v1,v5) =>
  bif decide (v5 < ((List.length v0):Int)) then inR v5 ((List.length v0):Int) (inR v5 ((List.length v1):Int) (bif !eqI zY (ix zaR v0 v5) (ix zaR v1 v5) then some (false,()) else k0 (v0,v1,wI (v5 + 1)))) else some (true,())
abbrev zsx (K:Nat):zey→Option (Bool × Unit):=zg zez K
theorem zDS (K:Nat):∀ n,evV Es0 K Tryz.f100 0 (ch [.bool]) [1,1,0,1,0] [] zDR n = zg zez n:=zq fun n0 (v0,v1,v5)=>by kernel_rfl
def zoX (L0:zey→Option (Bool × Unit)):((List qr) × ((List qr) × Unit))→Option (Bool × Unit):=fun (x0,x1,()) =>
  bif ((List.length x0):Int) != ((List.length x1):Int) then some (false,()) else L0 (x0,x1,0)
def zoY:((List qr) × (List qr) × Unit)→Option (Bool × Unit):=zoX (zsx K0)
abbrev zwJ:Fun:=⟨100,(ch [(.sl zY),(.sl zY)]),(ch [.bool]),0,zoY⟩
theorem zII:Sq zwJ:=ml0 (d:=false) (S:=fun K=>zoX (zsx K)) Tryz.func100 (by kernel_rfl) (fun K=>tr1 (T:=zoX) (zDS K K) fun (x0,x1,())=>by kernel_rfl) rfl
abbrev zeA:Type:=(List zx) × (List zx) × Int
abbrev zDT:zeA→St:=fun (v0,v1,v5)=>St.mk [(0,.dat (.sl zz) v0),(1,.dat (.sl zz) v1),(5,.dat tI v5)] []
def zeB (k0:zeA→Option (Bool × Unit)):zeA→Option (Bool × Unit):=fun (v0,v1,v5) =>
  bif decide (v5 < ((List.length v0):Int)) then inR v5 ((List.length v0):Int) (inR v5 ((List.length v1):Int) (bif !eqI zz (ix zR v0 v5) (ix zR v1 v5) then some (false,()) else k0 (v0,v1,wI (v5 + 1)))) else some (true,())
abbrev zsy (K:Nat):zeA→Option (Bool × Unit):=zg zeB K
theorem zDU (K:Nat):∀ n,evV Es0 K Tryz.f101 0 (ch [.bool]) [1,1,0,1,0] [] zDT n = zg zeB n:=zq fun n0 (v0,v1,v5)=>by kernel_rfl
def zoZ (L0:zeA→Option (Bool × Unit)):((List zx) × ((List zx) × Unit))→Option (Bool × Unit):=fun (x0,x1,()) =>
  bif ((List.length x0):Int) != ((List.length x1):Int) then some (false,()) else L0 (x0,x1,0)
def zo0:((List zx) × (List zx) × Unit)→Option (Bool × Unit):=zoZ (zsy K0)
abbrev zwK:Fun:=⟨101,(ch [(.sl zz),(.sl zz)]),(ch [.bool]),0,zo0⟩
theorem zIJ:Sq zwK:=ml0 (d:=false) (S:=fun K=>zoZ (zsy K)) Tryz.func101 (by kernel_rfl) (fun K=>tr1 (T:=zoZ) (zDU K K) fun (x0,x1,())=>by kernel_rfl) rfl
abbrev zeC:Type:=(List Int) × (List Int) × Int
abbrev zDV:zeC→St:=fun (v0,v1,v5)=>St.mk [(0,.dat (.sl tI) v0),(1,.dat (.sl tI) v1),(5,.dat tI v5)] []
def zeD (k0:zeC→Option (Bool × Unit)):zeC→Option (Bool × Unit):=fun (v0,v1,v5) =>
  bif decide (v5 < ((List.length v0):Int)) then inR v5 ((List.length v0):Int) (inR v5 ((List.length v1):Int) (bif ix (0:Int) v0 v5 != ix (0:Int) v1 v5 then some (false,()) else k0 (v0,v1,wI (v5 + 1)))) else some (true,())
abbrev zsz (K:Nat):zeC→Option (Bool × Unit):=zg zeD K
theorem zDW (K:Nat):∀ n,evV Es0 K Tryz.f15 0 (ch [.bool]) [1,1,0,1,0] [] zDV n = zg zeD n:=zq fun n0 (v0,v1,v5)=>by kernel_rfl
def zo1 (L0:zeC→Option (Bool × Unit)):((List Int) × ((List Int) × Unit))→Option (Bool × Unit):=fun (x0,x1,()) =>
  bif ((List.length x0):Int) != ((List.length x1):Int) then some (false,()) else L0 (x0,x1,0)
def zku:((List Int) × (List Int) × Unit)→Option (Bool × Unit):=zo1 (zsz K0)
abbrev zwL:Fun:=⟨15,(ch [(.sl tI),(.sl tI)]),(ch [.bool]),0,zku⟩
theorem zIK:Sq zwL:=ml0 (d:=false) (S:=fun K=>zo1 (zsz K)) Tryz.func15 (by kernel_rfl) (fun K=>tr1 (T:=zo1) (zDW K K) fun (x0,x1,())=>by kernel_rfl) rfl
abbrev zaf:Type:=(List zE) × (List zE) × Int
abbrev zwM:zaf→St:=fun (v0,v1,v5)=>St.mk [(0,.dat (.sl jt) v0),(1,.dat (.sl jt) v1),(5,.dat tI v5)] []
def zag (k0:zaf→Option (Bool × Unit)):zaf→Option (Bool × Unit):=fun (v0,v1,v5) =>
  bif decide (v5 < ((List.length v0):Int)) then inR v5 ((List.length v0):Int) (inR v5 ((List.length v1):Int) (bif !eqI jt (ix qB v0 v5) (ix qB v1 v5) then some (false,()) else k0 (v0,v1,wI (v5 + 1)))) else some (true,())
abbrev zm0 (K:Nat):zaf→Option (Bool × Unit):=zg zag K
theorem zwN (K:Nat):∀ n,evV Es0 K Tryz.f16 0 (ch [.bool]) [1,1,0,1,0] [] zwM n = zg zag n:=zq fun n0 (v0,v1,v5)=>by kernel_rfl
def zju (L0:zaf→Option (Bool × Unit)):((List zE) × ((List zE) × Unit))→Option (Bool × Unit):=fun (x0,x1,()) =>
  bif ((List.length x0):Int) != ((List.length x1):Int) then some (false,()) else L0 (x0,x1,0)
def zfB:((List qy) × (List qy) × Unit)→Option (Bool × Unit):=zju (zm0 K0)
abbrev zo2:Fun:=⟨16,(ch [(.sl zv),(.sl zv)]),(ch [.bool]),0,zfB⟩
theorem zzN:Sq zo2:=ml0 (d:=false) (S:=fun K=>zju (zm0 K)) Tryz.func16 (by kernel_rfl) (fun K=>tr1 (T:=zju) (zwN K K) fun (x0,x1,())=>by kernel_rfl) rfl
abbrev L1:List Fun:=zoA :: zoB :: zr4 :: zqj :: zoC :: zqk :: zql :: zqm :: zqn :: zoD :: zuk :: zr5 :: zul :: zr6 :: zkd :: zqo :: zmQ :: zwg :: zmR :: zwi :: zwj :: zlw :: zwk :: ziq :: znP :: zwl :: zwm :: zoJ :: zoK :: zqp :: zly :: zkj :: zlz :: zwp :: zwq :: zsd :: zlA :: zlB :: zBy :: zBz :: zlC :: zFx :: zwr :: zh3 :: zis :: zkm :: zBA :: zws :: zwt :: zsk :: znQ :: zFy :: zBB :: zum :: zun :: zqq :: zlD :: zkn :: zlE :: zko :: znR :: zyF :: zqr :: zmU :: zqs :: zmV :: znS :: zmW :: zmX :: zlF :: zqt :: zoN :: zwy :: zoO :: zuo :: zyG :: zup :: zsl :: zsm :: zwz :: zuq :: zur :: zBG :: zqu :: zmZ :: zsn :: zus :: zso :: zut :: zyH :: zuu :: zwB :: zuv :: zyI :: zyJ :: zux :: zuy :: zuz :: zyK :: zyL :: zyM :: zsp :: zuB :: zyN :: zuC :: zyO :: zyP :: zyQ :: zyR :: zyS :: zuD :: zwC :: zuE :: zyT :: zsq :: zwD :: zwE :: zuG :: zuI :: zwF :: zwG :: zwH :: znT :: znU :: zwI :: zwJ :: zwK :: zwL :: zo2 :: L0
theorem h1:Sds Tryz.prog E0 L1:=⟨zzF,zzG,zDu,zBr,zzH,zBs,zBt,zBu,zBv,zzI,zFP,zDv,zFQ,zDw,ztP,zBw,zwf,zIn,zwh,zIo,zIp,zvt,zIq,zrt,zyb,zIr,zIs,zzJ,zzK,zBx,zvw,ztS,zvx,zIt,zIu,zDB,zvy,zvz,zNb,zNc,zvA,zOF,zIv,zpU,zrw,ztT,zNd,zIw,zIx,zDC,zyc,zOG,zNe,zFR,zFS,zBC,zvB,ztU,zvC,ztV,zyd,zKV,zBD,zwu,zBE,zwv,zye,zww,zwx,zvD,zBF,zzL,zIy,zzM,zFT,zKW,zFU,zDD,zDE,zIz,zFV,zFW,zNf,zBH,zwA,zDF,zFX,zDG,zFY,zKX,zFZ,zIA,zF0,zKY,zKZ,zF3,zF4,zF5,zK0,zK1,zK2,zDH,zF8,zK3,zF9,zK4,zK5,zK6,zK7,zK8,zGa,zIB,zGb,zK9,zDI,zIC,zID,zGc,zGd,zIE,zIF,zIG,zyf,zyg,zIH,zII,zIJ,zIK,zzN,h0⟩
theorem ms1 {d:Bool} {F:Fun} {f:Go.Func} {K:Nat} (hf:Tryz.prog.funcs[F.id]? = some f) (ho:jq f = true) (h:evF (En E0 d L1) K f F.md F.a F.r = F.spec):Sd Tryz.prog E0 F:=mkS h1 hf ho h
theorem ml1 {d:Bool} {F:Fun} {f:Go.Func} {S:Nat→F.a.I→Option F.r.I} (hf:Tryz.prog.funcs[F.id]? = some f) (ho:jq f = true) (h:∀ K,evF (En E0 d L1) K f F.md F.a F.r = S K) (e:S K0 = F.spec):Sd Tryz.prog E0 F:=mkS h1 hf ho ((h K0).trans e)
abbrev Es1:Env:=En E0 false L1
abbrev Ed1:Env:=En E0 true L1
end
end Go.Proofs.YtejbgeokcpillaaGreatDoor
end
section
namespace Go.Proofs.YtejbgeokcpillaaGreatDoor
open Go.Ev
noncomputable section
abbrev zcA:Type:=Int × Int × Int × Int × List zp × Nat × List (List Int) × Nat × List zu × List zJ × List Int × List zp × Nat × List (List Int) × Nat × List zu × List zJ × List Int
abbrev zqw:zcA→St:=fun (v44,v45,o0_0,o1_0,o2,c2,o3,c3,o4,o5,o6,o7,c7,o8,c8,o9,o10,o11)=>St.mk [(1,.bp 0 []),(2,.bp 1 []),(43,.ow 2),(44,.dat tI v44),(45,.dat tI v45)] [.bx (.fld (.pair tU (.pair (.sl zy) (.pair (.sl (.sl tI)) (.pair (.sl zr) (.pair (.sl zA) (.pair (.sl tI) .unit)))))) [.dat tU o0_0,.ow 2,.ow 3,.ow 4,.ow 5,.ow 6]) false,.bx (.fld (.pair tU (.pair (.sl zy) (.pair (.sl (.sl tI)) (.pair (.sl zr) (.pair (.sl zA) (.pair (.sl tI) .unit)))))) [.dat tU o1_0,.ow 7,.ow 8,.ow 9,.ow 10,.ow 11]) false,.drow zy o2 c2,.drow (.sl tI) o3 c3,.row zr o4 false,.row zA o5 false,.row tI o6 false,.drow zy o7 c7,.drow (.sl tI) o8 c8,.row zr o9 false,.row zA o10 false,.row tI o11 false]
abbrev zcC:Type:=Int × Int × Int × (List zp) × Int × List (List Int) × Nat × List zu × List zJ × List Int × List zp × Nat × List (List Int) × Nat × List zu × List zJ × List Int
abbrev zBO:zcC→St:=fun (v25,v26,o0_0,o0_1,o1_0,o2,c2,o3,o4,o5,o6,c6,o7,c7,o8,o9,o10)=>St.mk [(1,.bp 0 []),(2,.bp 1 []),(24,.ow 2),(25,.dat tI v25),(26,.dat tI v26)] [.bx (.fld (.pair tU (.pair (.sl zy) (.pair (.sl (.sl tI)) (.pair (.sl zr) (.pair (.sl zA) (.pair (.sl tI) .unit)))))) [.dat tU o0_0,.dat (.sl zy) o0_1,.ow 2,.ow 3,.ow 4,.ow 5]) false,.bx (.fld (.pair tU (.pair (.sl zy) (.pair (.sl (.sl tI)) (.pair (.sl zr) (.pair (.sl zA) (.pair (.sl tI) .unit)))))) [.dat tU o1_0,.ow 6,.ow 7,.ow 8,.ow 9,.ow 10]) false,.drow (.sl tI) o2 c2,.row zr o3 false,.row zA o4 false,.row tI o5 false,.drow zy o6 c6,.drow (.sl tI) o7 c7,.row zr o8 false,.row zA o9 false,.row tI o10 false]
def zcD (k1:zcA→Option (zb × Unit)):zcA→Option (zb × Unit):=fun (v44,v45,o0_0,o1_0,o2,c2,o3,c3,o4,o5,o6,o7,c7,o8,c8,o9,o10,o11) =>
  bif decide (v45 < v44) then inR v45 ((List.length o2):Int) (bif decide (c2 ≤ Int.toNat v45) then Option.bind (zka ((ix zf o2 v45).1,())) fun q6=>Option.bind (zkb ((ix zf o2 v45).2.1,())) fun q7=>Option.bind (zco ((ix zf o2 v45).2.2.1,())) fun q8=>Option.bind (zkc ((ix zf o2 v45).2.2.2.1,())) fun q9=>Option.bind (zfp ((ix zf o2 v45).2.2.2.2.1,())) fun q10=>Option.bind (zng ((ix zf o2 v45).2.2.2.2.2.1,())) fun q11=>Option.bind (zlW ((ix zf o2 v45).2.2.2.2.2.2.1,())) fun q12=>inR v45 ((List.length o2):Int) (bif decide (Int.toNat v45 = c2) then k1 (v44,wI (v45 + 1),o0_0,o1_0,List.set o2 (Int.toNat v45) (q6.1,q7.1,q8.1,q9.1,q10.1,q11.1,q12.1,(ix zf o2 v45).2.2.2.2.2.2.2.1,(ix zf o2 v45).2.2.2.2.2.2.2.2.1,()),c2 + 1,o3,c3,o4,o5,o6,o7,c7,o8,c8,o9,o10,o11) else none) else none) else bif decide (c2 = List.length o2) then bif decide (c3 = List.length o3) then some ((o0_0,o2,o3,o4,o5,o6,()),()) else none else none
abbrev zcE (K:Nat):zcA→Option (zb × Unit):=zg zcD K
theorem zBP (K:Nat):∀ n,evV Ed1 K Tryz.f6 3 (ch [zn]) [1,1,1,1,1,0,1,0] [] zqw n = zg zcD n:=zq fun n1 (v44,v45,o0_0,o1_0,o2,c2,o3,c3,o4,o5,o6,o7,c7,o8,c8,o9,o10,o11)=>by kernel_rfl
def zar (L1:zcA→Option (zb × Unit)) (k0:zcC→Option (zb × Unit)):zcC→Option (zb × Unit):=fun (v25,v26,o0_0,o0_1,o1_0,o2,c2,o3,o4,o5,o6,c6,o7,c7,o8,o9,o10) =>
  bif decide (v26 < v25) then inR v26 ((List.length o2):Int) (bif decide (c2 ≤ Int.toNat v26) then Option.bind (zht (List.getD o2 (Int.toNat v26) ([]:List Int),())) fun q4=>inR v26 ((List.length o2):Int) (bif decide (Int.toNat v26 = c2) then k0 (v25,wI (v26 + 1),o0_0,o0_1,o1_0,List.set o2 (Int.toNat v26) q4.1,c2 + 1,o3,o4,o5,o6,c6,o7,c7,o8,o9,o10) else none) else none) else Option.bind (zjq (o0_1,())) fun q5=>L1 (((List.length q5.1):Int),0,o0_0,o1_0,q5.1,0,o2,c2,o3,o4,o5,o6,c6,o7,c7,o8,o9,o10)
abbrev zkv (K:Nat):zcC→Option (zb × Unit):=zg (fun k0=>zar (zcE K) k0) K
theorem zBQ (K:Nat):∀ n,evV Ed1 K Tryz.f6 3 (ch [zn]) [1,1,1,0,1,0] [] zBO n = zg (fun k0=>zar (zcE K) k0) n:=qu (B:=fun L1 k0=>zar L1 k0) (V1:=fun n0=>evV Ed1 K Tryz.f6 3 (ch [zn]) [1,1,1,1,1,0,1,0] [] zqw K) (W1:=fun k0=>(zcE K)) (fun n0=>zBP K K) fun n0 (v25,v26,o0_0,o0_1,o1_0,o2,c2,o3,o4,o5,o6,c6,o7,c7,o8,o9,o10)=>by kernel_rfl
def zi1 (L0:zcC→Option (zb × Unit)):(zb × Unit)→Option (zb × Unit):=fun (x0,()) =>
  Option.bind (zfo (x0.2.2.2.1,())) fun q0=>Option.bind (zjp (x0.2.2.2.2.1,())) fun q1=>Option.bind (zht (x0.2.2.2.2.2.1,())) fun q2=>Option.bind (zj9 (x0.2.2.1,())) fun q3=>L0 (((List.length q3.1):Int),0,x0.1,x0.2.1,0,q3.1,0,q0.1,q1.1,q2.1,[],0,[],0,[],[],[])
def yp:(zb × Unit)→Option (zb × Unit):=zi1 (zkv K0)
abbrev zuJ:Fun:=⟨6,(ch [zn]),(ch [zn]),3,yp⟩
theorem zGe:Sq zuJ:=ml1 (d:=true) (S:=fun K=>zi1 (zkv K)) Tryz.func6 (by kernel_rfl) (fun K=>tr1 (T:=zi1) (zBQ K K) fun (x0,())=>by kernel_rfl) rfl
def zfC:(zC × Unit)→Option (Bool × Unit):=fun (x0,()) =>
  Option.bind (ziR (x0,())) fun q0=>bif q0.1 then some (false,()) else some (true,())
abbrev zo3:Fun:=⟨252,(ch [zt]),(ch [.bool]),0,zfC⟩
theorem zzO:Sq zo3:=ms1 (d:=false) (K:=0) Tryz.func252 (by kernel_rfl) (funext fun (x0,())=>by kernel_rfl)
def yu:((List zC) × ((Option ((zC × Unit)→Option (Bool × Unit))) × Unit))→Option (Bool × Unit):=fun (x0,x1,()) =>
  Option.bind (zaS (x0,x1,())) fun q0=>bif decide (q0.1 ≥ 0) then some (true,()) else some (false,())
abbrev zh4:Fun:=⟨253,(ch [(.sl zt),(.fn (ch [zt]) (ch [.bool]))]),(ch [.bool]),0,yu⟩
theorem zpV:Sq zh4:=ms1 (d:=false) (K:=0) Tryz.func253 (by kernel_rfl) (funext fun (x0,x1,())=>by kernel_rfl)
def zaM:(Int × (Int × Unit))→Option (Int × Unit):=fun (x0,x1,()) =>
  Option.bind (zaq (x0,())) fun q0=>bif q0.1 then Option.bind (zaq (x1,())) fun q1=>bif q1.1 then some (0,()) else some ((-1),()) else Option.bind (zaq (x1,())) fun q2=>bif q2.1 then some (1,()) else bif decide (x0 < x1) then some ((-1),()) else bif decide (x0 > x1) then some (1,()) else some (0,())
abbrev znV:Fun:=⟨284,(ch [tI,tI]),(ch [tI]),0,zaM⟩
theorem zyh:Sq znV:=ms1 (d:=false) (K:=0) Tryz.func284 (by kernel_rfl) (funext fun (x0,x1,())=>by kernel_rfl)
def ya:(Int × (Int × Unit))→Option (Int × Unit):=fun (x0,x1,()) =>
  Option.bind (vB (x0,())) fun q0=>bif q0.1 then Option.bind (vB (x1,())) fun q1=>bif q1.1 then some (0,()) else some ((-1),()) else Option.bind (vB (x1,())) fun q2=>bif q2.1 then some (1,()) else bif decide (x0 < x1) then some ((-1),()) else bif decide (x0 > x1) then some (1,()) else some (0,())
abbrev zkw:Fun:=⟨283,(ch [tU,tU]),(ch [tI]),0,ya⟩
theorem ztY:Sq zkw:=ms1 (d:=false) (K:=0) Tryz.func283 (by kernel_rfl) (funext fun (x0,x1,())=>by kernel_rfl)
def zcF:(Int × ((Option ze) × Unit))→Option (Bool × Unit):=fun (x0,x1,()) =>
  Option.bind x1 fun q0=>Option.bind (qw (x0,0,wI (((List.length q0.1):Int) - 1),())) fun q1=>bif q1.1 then some (false,()) else some (true,())
abbrev zqx:Fun:=⟨255,(ch [tI,(.ptr zw)]),(ch [.bool]),0,zcF⟩
theorem zBR:Sq zqx:=ms1 (d:=false) (K:=0) Tryz.func255 (by kernel_rfl) (funext fun (x0,x1,())=>by kernel_rfl)
def qN:((List Int) × ((Option ((Int × Unit)→Option (Bool × Unit))) × Unit))→Option (Bool × Unit):=fun (x0,x1,()) =>
  Option.bind (zcp (x0,x1,())) fun q0=>bif decide (q0.1 ≥ 0) then some (true,()) else some (false,())
abbrev zjV:Fun:=⟨190,(ch [(.sl tI),(.fn (ch [tI]) (ch [.bool]))]),(ch [.bool]),0,qN⟩
theorem zsA:Sq zjV:=ms1 (d:=false) (K:=0) Tryz.func190 (by kernel_rfl) (funext fun (x0,x1,())=>by kernel_rfl)
def vo:((List Int) × ((Option ((Int × Unit)→Option (Bool × Unit))) × Unit))→Option (Bool × Unit):=fun (x0,x1,()) =>
  Option.bind (zbS (x0,x1,())) fun q0=>bif decide (q0.1 ≥ 0) then some (true,()) else some (false,())
abbrev ziy:Fun:=⟨294,(ch [(.sl (.int .u8)),(.fn (ch [(.int .u8)]) (ch [.bool]))]),(ch [.bool]),0,vo⟩
theorem zrG:Sq ziy:=ms1 (d:=false) (K:=0) Tryz.func294 (by kernel_rfl) (funext fun (x0,x1,())=>by kernel_rfl)
def zhz:(Int × Unit)→Option (Bool × Unit):=fun (x0,()) =>
  Option.bind (zgX (x0,())) fun q0=>bif q0.1 then some (true,()) else Option.bind (zkg (x0,())) fun q1=>bif q1.1 then some (true,()) else some (false,())
abbrev zsB:Fun:=⟨226,(ch [(.int .u8)]),(ch [.bool]),0,zhz⟩
theorem zDX:Sq zsB:=ms1 (d:=false) (K:=0) Tryz.func226 (by kernel_rfl) (funext fun (x0,())=>by kernel_rfl)
def zaX:((List qA) × ((Option ((qA × Unit)→Option (Bool × Unit))) × Unit))→Option (Bool × Unit):=fun (x0,x1,()) =>
  Option.bind (y8 (x0,x1,())) fun q0=>bif decide (q0.1 ≥ 0) then some (true,()) else some (false,())
abbrev zgC:Fun:=⟨257,(ch [(.sl qD),(.fn (ch [qD]) (ch [.bool]))]),(ch [.bool]),0,zaX⟩
theorem zoa:Sq zgC:=ms1 (d:=false) (K:=0) Tryz.func257 (by kernel_rfl) (funext fun (x0,x1,())=>by kernel_rfl)
def zbZ:((List zC) × (zC × Unit))→Option (Bool × Unit):=fun (x0,x1,()) =>
  Option.bind (zjs (x0,x1,())) fun q0=>bif decide (q0.1 ≥ 0) then some (true,()) else some (false,())
abbrev zlI:Fun:=⟨260,(ch [(.sl zt),zt]),(ch [.bool]),0,zbZ⟩
theorem zvI:Sq zlI:=ms1 (d:=false) (K:=0) Tryz.func260 (by kernel_rfl) (funext fun (x0,x1,())=>by kernel_rfl)
def zfD:(Int × Unit)→Option (Bool × Unit):=fun (x0,()) =>
  Option.bind (qw (x0,0,12,())) fun q0=>bif q0.1 then some (false,()) else some (true,())
abbrev zo4:Fun:=⟨262,(ch [tI]),(ch [.bool]),0,zfD⟩
theorem zzP:Sq zo4:=ms1 (d:=false) (K:=0) Tryz.func262 (by kernel_rfl) (funext fun (x0,())=>by kernel_rfl)
def zah:(ze × Unit)→Option (Bool × Unit):=fun (x0,()) =>
  Option.bind (qw (x0.2.2.2.2.2.1,0,24,())) fun q0=>bif q0.1 then Option.bind (qw (x0.2.2.2.2.2.2.1,0,48,())) fun q1=>bif q1.1 then Option.bind (qw (x0.2.2.2.2.2.2.2.1,1,4,())) fun q2=>bif q2.1 then Option.bind (qw (x0.2.2.2.2.2.2.2.2.1,1,16,())) fun q3=>bif q3.1 then some (true,()) else some (false,()) else some (false,()) else some (false,()) else some (false,())
abbrev zwO:Fun:=⟨175,(ch [zw]),(ch [.bool]),0,zah⟩
theorem zIL:Sq zwO:=ms1 (d:=false) (K:=0) Tryz.func175 (by kernel_rfl) (funext fun (x0,())=>by kernel_rfl)
def j8:((List zp) × ((Option ((zp × Unit)→Option (Bool × Unit))) × Unit))→Option (Bool × Unit):=fun (x0,x1,()) =>
  Option.bind (zaT (x0,x1,())) fun q0=>bif decide (q0.1 ≥ 0) then some (true,()) else some (false,())
abbrev zh5:Fun:=⟨176,(ch [(.sl zy),(.fn (ch [zy]) (ch [.bool]))]),(ch [.bool]),0,j8⟩
theorem zpW:Sq zh5:=ms1 (d:=false) (K:=0) Tryz.func176 (by kernel_rfl) (funext fun (x0,x1,())=>by kernel_rfl)
def zdR:((List qV) × ((Option ((qV × Unit)→Option (Bool × Unit))) × Unit))→Option (Bool × Unit):=fun (x0,x1,()) =>
  Option.bind (zbU (x0,x1,())) fun q0=>bif decide (q0.1 ≥ 0) then some (true,()) else some (false,())
abbrev ziz:Fun:=⟨178,(ch [(.sl qk),(.fn (ch [qk]) (ch [.bool]))]),(ch [.bool]),0,zdR⟩
theorem zrH:Sq ziz:=ms1 (d:=false) (K:=0) Tryz.func178 (by kernel_rfl) (funext fun (x0,x1,())=>by kernel_rfl)
def zkx:(qe × Unit)→Option (Bool × Unit):=fun (x0,()) =>
  bif x0.1 then Option.bind (zgZ (x0.2.1,())) fun q0=>bif q0.1 then Option.bind (zgZ (x0.2.2.1,())) fun q1=>bif q1.1 then Option.bind (zkk (x0.2.2.2.1,())) fun q2=>bif q2.1 then some (false,()) else some (true,()) else some (true,()) else some (true,()) else bif !eqI zU x0 (zd zU) then some (true,()) else some (false,())
abbrev zwP:Fun:=⟨180,(ch [zU]),(ch [.bool]),0,zkx⟩
theorem zIM:Sq zwP:=ms1 (d:=false) (K:=0) Tryz.func180 (by kernel_rfl) (funext fun (x0,())=>by kernel_rfl)
def zky:((List qe) × (zE × (Int × Unit)))→Option (Int × Unit):=fun (x0,x1,x2,()) =>
  Option.bind (yB (x0,some fun z=>zhu (z.1,some x1,some x2,()),())) fun q0=>some (q0.1,())
abbrev zwQ:Fun:=⟨181,(ch [(.sl zU),zv,tI]),(ch [tI]),0,zky⟩
theorem zIN:Sq zwQ:=ms1 (d:=false) (K:=0) Tryz.func181 (by kernel_rfl) (funext fun (x0,x1,x2,())=>by kernel_rfl)
def jz:((List zh) × ((Option ((zh × Unit)→Option (Bool × Unit))) × Unit))→Option (Bool × Unit):=fun (x0,x1,()) =>
  Option.bind (yC (x0,x1,())) fun q0=>bif decide (q0.1 ≥ 0) then some (true,()) else some (false,())
abbrev ziA:Fun:=⟨182,(ch [(.sl zi),(.fn (ch [zi]) (ch [.bool]))]),(ch [.bool]),0,jz⟩
theorem zrI:Sq ziA:=ms1 (d:=false) (K:=0) Tryz.func182 (by kernel_rfl) (funext fun (x0,x1,())=>by kernel_rfl)
def jU:(qS × Unit)→Option (Bool × Unit):=fun (x0,()) =>
  bif x0.1 == 1 then Option.bind (zft (x0.2.1,())) fun q0=>bif q0.1 then bif eqI zv x0.2.2.1 (zd zv) then some (true,()) else some (false,()) else some (false,()) else bif x0.1 == 3 then Option.bind (zft (x0.2.1,())) fun q1=>bif q1.1 then bif eqI zv x0.2.2.1 (zd zv) then some (true,()) else some (false,()) else some (false,()) else bif x0.1 == 2 then bif x0.2.1 == 0 then Option.bind (zft (x0.2.2.1.1,())) fun q2=>bif q2.1 then Option.bind (zft (x0.2.2.1.2.1,())) fun q3=>bif q3.1 then some (true,()) else some (false,()) else some (false,()) else some (false,()) else some (false,())
abbrev zm1:Fun:=⟨153,(ch [qm]),(ch [.bool]),0,jU⟩
theorem zwR:Sq zm1:=ms1 (d:=false) (K:=0) Tryz.func153 (by kernel_rfl) (funext fun (x0,())=>by kernel_rfl)
def jA:((List qr) × ((Option ((qr × Unit)→Option (Bool × Unit))) × Unit))→Option (Bool × Unit):=fun (x0,x1,()) =>
  Option.bind (zbV (x0,x1,())) fun q0=>bif decide (q0.1 ≥ 0) then some (true,()) else some (false,())
abbrev ziB:Fun:=⟨184,(ch [(.sl zY),(.fn (ch [zY]) (ch [.bool]))]),(ch [.bool]),0,jA⟩
theorem zrJ:Sq ziB:=ms1 (d:=false) (K:=0) Tryz.func184 (by kernel_rfl) (funext fun (x0,x1,())=>by kernel_rfl)
def zlZ:(qr × Unit)→Option (Bool × Unit):=fun (x0,()) =>
  Option.bind (zjU (x0.2.1,())) fun q0=>bif q0.1 then Option.bind (zjU (x0.2.2.1,())) fun q1=>bif q1.1 then Option.bind (zjU (x0.2.2.2.1,())) fun q2=>bif q2.1 then some (true,()) else some (false,()) else some (false,()) else some (false,())
abbrev zsC:Fun:=⟨272,(ch [zY]),(ch [.bool]),0,zlZ⟩
theorem zDY:Sq zsC:=ms1 (d:=false) (K:=0) Tryz.func272 (by kernel_rfl) (funext fun (x0,())=>by kernel_rfl)
def zhA:(ByteArray × (ByteArray × Unit))→Option (ByteArray × Unit):=fun (x0,x1,()) =>
  bif ByteArray.toList x0 == ByteArray.toList (ByteArray.mk #[]) then some (x0,()) else bif ByteArray.toList x1 == ByteArray.toList (ByteArray.mk #[]) then some (x0,()) else bif (↑(ByteArray.size x1):Int) == 1 then bif decide (0 < (↑(ByteArray.size x1):Int)) then bif decide ((↑(UInt8.toNat (List.getD (Array.toList (ByteArray.data x1)) (Int.toNat 0) 0)):Int) < 128) then bif decide (0 < (↑(ByteArray.size x1):Int)) then Option.bind (zb3 (x0,(↑(UInt8.toNat (List.getD (Array.toList (ByteArray.data x1)) (Int.toNat 0) 0)):Int),())) fun q0=>bif decide (0 < (↑(ByteArray.size x1):Int)) then Option.bind (zdM (q0.1,(↑(UInt8.toNat (List.getD (Array.toList (ByteArray.data x1)) (Int.toNat 0) 0)):Int),())) fun q1=>some (q1.1,()) else none else none else none else none else none
abbrev zsD:Fun:=⟨315,(ch [.str,.str]),(ch [.str]),0,zhA⟩
theorem zDZ:Sq zsD:=ms1 (d:=false) (K:=0) Tryz.func315 (by kernel_rfl) (funext fun (x0,x1,())=>by kernel_rfl)
def jl:((List zx) × ((Option ((zx × Unit)→Option (Bool × Unit))) × Unit))→Option (Bool × Unit):=fun (x0,x1,()) =>
  Option.bind (zaU (x0,x1,())) fun q0=>bif decide (q0.1 ≥ 0) then some (true,()) else some (false,())
abbrev zh6:Fun:=⟨186,(ch [(.sl zz),(.fn (ch [zz]) (ch [.bool]))]),(ch [.bool]),0,jl⟩
theorem zpX:Sq zh6:=ms1 (d:=false) (K:=0) Tryz.func186 (by kernel_rfl) (funext fun (x0,x1,())=>by kernel_rfl)
def ziC:(zj8 × Unit)→Option (Bool × Unit):=fun (x0,()) =>
  Option.bind (ju (x0.1,())) fun q0=>bif q0.1 then bif decide (x0.2.1 ≤ 4611686018427387904) then bif x0.2.2.1 == -1 then some (true,()) else Option.bind (zhw (x0.2.2.1,())) fun q1=>bif q1.1 then some (true,()) else some (false,()) else some (false,()) else some (false,())
abbrev zyU:Fun:=⟨276,(ch [zd0]),(ch [.bool]),0,ziC⟩
theorem zLa:Sq zyU:=ms1 (d:=false) (K:=0) Tryz.func276 (by kernel_rfl) (funext fun (x0,())=>by kernel_rfl)
def zg4:(Int × (Int × Unit))→Option (Int × (Int × Unit)):=fun (x0,x1,()) =>
  Option.bind (zd1 (x0,x1,())) fun q0=>bif q0.1 != 0 then some (0,7,()) else bif decide (q0.2.1 > 4611686018427387904) then some (0,7,()) else some (q0.2.1,0,())
abbrev zwS:Fun:=⟨316,(ch [tU,tU]),(ch [tU,tI]),0,zg4⟩
theorem zIO:Sq zwS:=ms1 (d:=false) (K:=0) Tryz.func316 (by kernel_rfl) (funext fun (x0,x1,())=>by kernel_rfl)
def zfE:(zu × ((Option qW) × Unit))→Option (Bool × Unit):=fun (x0,x1,()) =>
  bif x0.1 then Option.bind x1 fun q0=>Option.bind (zb5 (q0,x0.2.1,())) fun q1=>bif q1.1 then Option.bind x1 fun q2=>Option.bind (qX (q2,x0.2.2.1,())) fun q3=>bif q3.1 then Option.bind x1 fun q4=>bif decide (x0.2.2.2.2.2.2.2.2.2.1 < ((List.length q4.2.1.2.2.2.2.1):Int)) then some (true,()) else some (false,()) else some (false,()) else some (false,()) else some (true,())
abbrev zo5:Fun:=⟨114,(ch [zr,(.ptr qp)]),(ch [.bool]),0,zfE⟩
theorem zzQ:Sq zo5:=ms1 (d:=false) (K:=0) Tryz.func114 (by kernel_rfl) (funext fun (x0,x1,())=>by kernel_rfl)
def j9:((List zu) × ((Option ((zu × Unit)→Option (Bool × Unit))) × Unit))→Option (Bool × Unit):=fun (x0,x1,()) =>
  Option.bind (zaV (x0,x1,())) fun q0=>bif decide (q0.1 ≥ 0) then some (true,()) else some (false,())
abbrev zh7:Fun:=⟨194,(ch [(.sl zr),(.fn (ch [zr]) (ch [.bool]))]),(ch [.bool]),0,j9⟩
theorem zpY:Sq zh7:=ms1 (d:=false) (K:=0) Tryz.func194 (by kernel_rfl) (funext fun (x0,x1,())=>by kernel_rfl)
def zbo:(zJ × ((Option qW) × Unit))→Option (Bool × Unit):=fun (x0,x1,()) =>
  Option.bind x1 fun q0=>bif decide (x0.2.1 < ((List.length q0.1.2.1):Int)) then Option.bind x1 fun q1=>inR x0.2.1 ((List.length q1.1.2.1):Int) (bif x0.2.2.1 == ix (0:Int) q1.1.2.1 x0.2.1 then Option.bind x1 fun q2=>Option.bind (qX (q2,x0.2.2.2.1,())) fun q3=>bif q3.1 then Option.bind x1 fun q4=>bif decide (x0.1 ≤ q4.2.1.1) then some (true,()) else some (false,()) else some (false,()) else some (false,())) else some (false,())
abbrev zo6:Fun:=⟨118,(ch [zA,(.ptr qp)]),(ch [.bool]),0,zbo⟩
theorem zzR:Sq zo6:=ms1 (d:=false) (K:=0) Tryz.func118 (by kernel_rfl) (funext fun (x0,x1,())=>by kernel_rfl)
def va:((List zJ) × ((Option ((zJ × Unit)→Option (Bool × Unit))) × Unit))→Option (Bool × Unit):=fun (x0,x1,()) =>
  Option.bind (zaW (x0,x1,())) fun q0=>bif decide (q0.1 ≥ 0) then some (true,()) else some (false,())
abbrev zh8:Fun:=⟨196,(ch [(.sl zA),(.fn (ch [zA]) (ch [.bool]))]),(ch [.bool]),0,va⟩
theorem zpZ:Sq zh8:=ms1 (d:=false) (K:=0) Tryz.func196 (by kernel_rfl) (funext fun (x0,x1,())=>by kernel_rfl)
def vt:(Int × ((Option qW) × Unit))→Option (Bool × Unit):=fun (x0,x1,()) =>
  bif x0 == -1 then some (true,()) else Option.bind x1 fun q0=>Option.bind (qX (q0,x0,())) fun q1=>bif q1.1 then some (true,()) else some (false,())
abbrev zo7:Fun:=⟨120,(ch [tI,(.ptr qp)]),(ch [.bool]),0,vt⟩
theorem zzS:Sq zo7:=ms1 (d:=false) (K:=0) Tryz.func120 (by kernel_rfl) (funext fun (x0,x1,())=>by kernel_rfl)
def ziD:(qW × (Int × (Int × Unit)))→Option (Bool × Unit):=fun (x0,x1,x2,()) =>
  Option.bind (zb5 (x0,x1,())) fun q0=>bif q0.1 then Option.bind (zb5 (x0,x2,())) fun q1=>bif q1.1 then inR x1 ((List.length x0.1.1):Int) (inR x2 ((List.length x0.1.1):Int) (Option.bind (ziw (ix ji x0.1.1 x1,ix ji x0.1.1 x2,())) fun q2=>bif q2.1 then some (true,()) else some (false,()))) else some (false,()) else some (false,())
abbrev zyV:Fun:=⟨130,(ch [qp,tI,tI]),(ch [.bool]),0,ziD⟩
theorem zLb:Sq zyV:=ms1 (d:=false) (K:=0) Tryz.func130 (by kernel_rfl) (funext fun (x0,x1,x2,())=>by kernel_rfl)
def vp:((List qe) × ((Option ((qe × Unit)→Option (Bool × Unit))) × Unit))→Option (Bool × Unit):=fun (x0,x1,()) =>
  Option.bind (yB (x0,x1,())) fun q0=>bif decide (q0.1 ≥ 0) then some (true,()) else some (false,())
abbrev ziE:Fun:=⟨200,(ch [(.sl zU),(.fn (ch [zU]) (ch [.bool]))]),(ch [.bool]),0,vp⟩
theorem zrK:Sq ziE:=ms1 (d:=false) (K:=0) Tryz.func200 (by kernel_rfl) (funext fun (x0,x1,())=>by kernel_rfl)
def vI:((List zE) × ((Option ((zE × Unit)→Option (Bool × Unit))) × Unit))→Option (Bool × Unit):=fun (x0,x1,()) =>
  Option.bind (zct (x0,x1,())) fun q0=>bif decide (q0.1 ≥ 0) then some (true,()) else some (false,())
abbrev zjW:Fun:=⟨203,(ch [(.sl zv),(.fn (ch [zv]) (ch [.bool]))]),(ch [.bool]),0,vI⟩
theorem zsE:Sq zjW:=ms1 (d:=false) (K:=0) Tryz.func203 (by kernel_rfl) (funext fun (x0,x1,())=>by kernel_rfl)
def zbp:(zh × ((Option qW) × Unit))→Option (Bool × Unit):=fun (x0,x1,()) =>
  bif x0.2.2.1 != 1 then some (true,()) else Option.bind x1 fun q0=>Option.bind (qX (q0,x0.2.2.2.1,())) fun q1=>bif q1.1 then some (true,()) else some (false,())
abbrev zo8:Fun:=⟨127,(ch [zi,(.ptr qp)]),(ch [.bool]),0,zbp⟩
theorem zzT:Sq zo8:=ms1 (d:=false) (K:=0) Tryz.func127 (by kernel_rfl) (funext fun (x0,x1,())=>by kernel_rfl)
def qM:(zx × ((Option qW) × Unit))→Option (Bool × Unit):=fun (x0,x1,()) =>
  bif x0.1 then Option.bind x1 fun q0=>Option.bind (qX (q0,x0.2.1,())) fun q1=>bif q1.1 then Option.bind x1 fun q2=>Option.bind (qX (q2,x0.2.2.1,())) fun q3=>bif q3.1 then some (true,()) else some (false,()) else some (false,()) else some (true,())
abbrev zo9:Fun:=⟨132,(ch [zz,(.ptr qp)]),(ch [.bool]),0,qM⟩
theorem zzU:Sq zo9:=ms1 (d:=false) (K:=0) Tryz.func132 (by kernel_rfl) (funext fun (x0,x1,())=>by kernel_rfl)
def yS:((List zx) × ((Option ((zx × Unit)→Option (Bool × Unit))) × Unit))→Option ((Option zcm) × Unit):=fun (x0,x1,()) =>
  bif Option.isNone x1 then some (none,()) else Option.bind (zfp (x0,())) fun q0=>some (some (q0.1,x1,()),())
abbrev zpa:Fun:=⟨133,(ch [(.sl zz),(.fn (ch [zz]) (ch [.bool]))]),(ch [(.ptr vU)]),0,yS⟩
theorem zzV:Sq zpa:=ms1 (d:=false) (K:=0) Tryz.func133 (by kernel_rfl) (funext fun (x0,x1,())=>by kernel_rfl)
def yb:((Option zcm) × (Int × Unit))→Option (Bool × Unit):=fun (x0,x1,()) =>
  Option.bind (zfz (x0,())) fun q0=>bif q0.1 then bif decide (x1 ≥ 0) then Option.bind x0 fun q1=>bif decide (x1 < ((List.length q1.1):Int)) then Option.bind x0 fun q2=>Option.bind x0 fun q3=>inR x1 ((List.length q3.1):Int) (Option.bind q2.2.1 fun q4=>Option.bind (q4 (ix zR q3.1 x1,())) fun q5=>bif q5.1 then some (true,()) else some (false,())) else some (false,()) else some (false,()) else some (false,())
abbrev zqy:Fun:=⟨135,(ch [(.ptr vU),tI]),(ch [.bool]),0,yb⟩
theorem zBS:Sq zqy:=ms1 (d:=false) (K:=0) Tryz.func135 (by kernel_rfl) (funext fun (x0,x1,())=>by kernel_rfl)
def zjv:((List zu) × ((Option ((zu × Unit)→Option (Bool × Unit))) × Unit))→Option ((Option zfn) × Unit):=fun (x0,x1,()) =>
  bif Option.isNone x1 then some (none,()) else Option.bind (zfo (x0,())) fun q0=>some (some (q0.1,x1,()),())
abbrev zpb:Fun:=⟨338,(ch [(.sl zr),(.fn (ch [zr]) (ch [.bool]))]),(ch [(.ptr y7)]),0,zjv⟩
theorem zzW:Sq zpb:=ms1 (d:=false) (K:=0) Tryz.func338 (by kernel_rfl) (funext fun (x0,x1,())=>by kernel_rfl)
def zgD:((Option zfn) × (Int × Unit))→Option (Bool × Unit):=fun (x0,x1,()) =>
  Option.bind (zfA (x0,())) fun q0=>bif q0.1 then bif decide (x1 ≥ 0) then Option.bind x0 fun q1=>bif decide (x1 < ((List.length q1.1):Int)) then Option.bind x0 fun q2=>Option.bind x0 fun q3=>inR x1 ((List.length q3.1):Int) (Option.bind q2.2.1 fun q4=>Option.bind (q4 (ix zK q3.1 x1,())) fun q5=>bif q5.1 then some (true,()) else some (false,())) else some (false,()) else some (false,()) else some (false,())
abbrev zqz:Fun:=⟨341,(ch [(.ptr y7),tI]),(ch [.bool]),0,zgD⟩
theorem zBT:Sq zqz:=ms1 (d:=false) (K:=0) Tryz.func341 (by kernel_rfl) (funext fun (x0,x1,())=>by kernel_rfl)
abbrev zg5:Type:=Int × (List Int) × Int × Int
abbrev zIP:zg5→St:=fun (v4,v9,v10,v11)=>St.mk [(4,.dat tU v4),(9,.dat (.sl tU) v9),(10,.dat tI v10),(11,.dat tI v11)] []
def zg6 (k0:zg5→Option (Int × (Int × Unit))):zg5→Option (Int × (Int × Unit)):=fun (v4,v9,v10,v11) =>
  bif decide (v11 < v10) then inR v11 ((List.length v9):Int) (Option.bind (zmr (v4,ix (0:Int) v9 v11,())) fun q0=>bif q0.2.1 != 0 then some (0,q0.2.1,()) else k0 (q0.1,v9,v10,wI (v11 + 1))) else some (v4,0,())
abbrev zwT (K:Nat):zg5→Option (Int × (Int × Unit)):=zg zg6 K
theorem zIQ (K:Nat):∀ n,evV Es1 K Tryz.f211 0 (ch [tU,tI]) [1,1,0,1,0] [] zIP n = zg zg6 n:=zq fun n0 (v4,v9,v10,v11)=>by kernel_rfl
def ztZ (L0:zg5→Option (Int × (Int × Unit))):((List Int) × Unit)→Option (Int × (Int × Unit)):=fun (x0,()) =>
  L0 (0,x0,((List.length x0):Int),0)
def zhB:((List Int) × Unit)→Option (Int × Int × Unit):=ztZ (zwT K0)
abbrev zBU:Fun:=⟨211,(ch [(.sl tU)]),(ch [tU,tI]),0,zhB⟩
theorem zNg:Sq zBU:=ml1 (d:=false) (S:=fun K=>ztZ (zwT K)) Tryz.func211 (by kernel_rfl) (fun K=>tr1 (T:=ztZ) (zIQ K K) fun (x0,())=>by kernel_rfl) rfl
def zkz:((List zh) × ((Option ((zh × Unit)→Option (Bool × Unit))) × Unit))→Option ((Option zcn) × Unit):=fun (x0,x1,()) =>
  bif Option.isNone x1 then some (none,()) else Option.bind (zco (x0,())) fun q0=>some (some (q0.1,x1,()),())
abbrev zqA:Fun:=⟨228,(ch [(.sl zi),(.fn (ch [zi]) (ch [.bool]))]),(ch [(.ptr ym)]),0,zkz⟩
theorem zBV:Sq zqA:=ms1 (d:=false) (K:=0) Tryz.func228 (by kernel_rfl) (funext fun (x0,x1,())=>by kernel_rfl)
def zfF:((Option zcn) × Unit)→Option (Int × (Int × Unit)):=fun (x0,()) =>
  Option.bind (zcv (x0,())) fun q0=>bif q0.1 then Option.bind x0 fun q1=>Option.bind (yC (q1.1,some fun z=>zmY (z.1,some x0,()),())) fun q2=>bif decide (q2.1 < 0) then some (0,8,()) else some (q2.1,0,()) else some (0,11,())
abbrev zpc:Fun:=⟨230,(ch [(.ptr ym)]),(ch [tI,tI]),0,zfF⟩
theorem zzX:Sq zpc:=ms1 (d:=false) (K:=0) Tryz.func230 (by kernel_rfl) (funext fun (x0,())=>by kernel_rfl)
def za9:((Option zcn) × (Int × (zh × Unit)))→Option ((List zh) × (Int × Unit)):=fun (x0,x1,x2,()) =>
  Option.bind (zcv (x0,())) fun q0=>bif q0.1 then bif decide (x1 < 0) then some ([],1,()) else Option.bind x0 fun q1=>bif decide (x1 ≥ ((List.length q1.1):Int)) then some ([],1,()) else Option.bind x0 fun q2=>Option.bind (zco (q2.1,())) fun q3=>inR x1 ((List.length q3.1):Int) (some (List.set q3.1 (Int.toNat x1) x2,0,())) else some ([],11,())
abbrev zsF:Fun:=⟨159,(ch [(.ptr ym),tI,zi]),(ch [(.sl zi),tI]),0,za9⟩
theorem zD0:Sq zsF:=ms1 (d:=false) (K:=0) Tryz.func159 (by kernel_rfl) (funext fun (x0,x1,x2,())=>by kernel_rfl)
def zhC:((Option zcn) × (Int × Unit))→Option (Bool × Unit):=fun (x0,x1,()) =>
  Option.bind (zcv (x0,())) fun q0=>bif q0.1 then bif decide (x1 ≥ 0) then Option.bind x0 fun q1=>bif decide (x1 < ((List.length q1.1):Int)) then Option.bind x0 fun q2=>Option.bind x0 fun q3=>inR x1 ((List.length q3.1):Int) (Option.bind q2.2.1 fun q4=>Option.bind (q4 (ix zj q3.1 x1,())) fun q5=>bif q5.1 then some (true,()) else some (false,())) else some (false,()) else some (false,()) else some (false,())
abbrev zsG:Fun:=⟨231,(ch [(.ptr ym),tI]),(ch [.bool]),0,zhC⟩
theorem zD1:Sq zsG:=ms1 (d:=false) (K:=0) Tryz.func231 (by kernel_rfl) (funext fun (x0,x1,())=>by kernel_rfl)
abbrev zbq:Type:=(List zC) × Int
abbrev zzY:zbq→St:=fun (v0,v3)=>St.mk [(0,.dat (.sl zt) v0),(3,.dat tI v3)] []
def zfG (k0:zbq→Option (Bool × Unit)):zbq→Option (Bool × Unit):=fun (v0,v3) =>
  bif decide (v3 < ((List.length v0):Int)) then inR v3 ((List.length v0):Int) (Option.bind (ziU (ix ji v0 v3,())) fun q0=>bif q0.1 then inR (wI (v3 - 1)) ((List.length v0):Int) (inR v3 ((List.length v0):Int) (Option.bind (zms (List.getD v0 (Int.toNat (wI (v3 - 1))) (zd zt),ix ji v0 v3,())) fun q1=>bif decide (q1.1 ≥ 0) then some (false,()) else k0 (v0,wI (v3 + 1)))) else some (false,())) else some (true,())
abbrev zjw (K:Nat):zbq→Option (Bool × Unit):=zg zfG K
theorem zzZ (K:Nat):∀ n,evV Es1 K Tryz.f233 0 (ch [.bool]) [1,1,0,1,0] [] zzY n = zg zfG n:=zq fun n0 (v0,v3)=>by kernel_rfl
def zhD (L0:zbq→Option (Bool × Unit)):((List zC) × Unit)→Option (Bool × Unit):=fun (x0,()) =>
  bif decide (((List.length x0):Int) < 1) then some (false,()) else bif decide (((List.length x0):Int) > 8) then some (false,()) else bif decide (0 < ((List.length x0):Int)) then bif !eqI zt (ix ji x0 0) (zd zt) then some (false,()) else L0 (x0,1) else none
def zhE:((List zC) × Unit)→Option (Bool × Unit):=zhD (zjw K0)
abbrev zsH:Fun:=⟨233,(ch [(.sl zt)]),(ch [.bool]),0,zhE⟩
theorem zD2:Sq zsH:=ml1 (d:=false) (S:=fun K=>zhD (zjw K)) Tryz.func233 (by kernel_rfl) (fun K=>tr1 (T:=zhD) (zzZ K K) fun (x0,())=>by kernel_rfl) rfl
abbrev zai:Type:=(List qA) × Int × Int
abbrev zm2:zai→St:=fun (v0,v3,v4)=>St.mk [(0,.dat (.sl qD) v0),(3,.dat tI v3),(4,.dat tI v4)] []
abbrev jV:Type:=(List qA) × Int
abbrev zm3:jV→St:=fun (v0,v3)=>St.mk [(0,.dat (.sl qD) v0),(3,.dat tI v3)] []
def zcG (k0:jV→Option (Bool × Unit)) (k1:zai→Option (Bool × Unit)):zai→Option (Bool × Unit):=fun (v0,v3,v4) =>
  bif decide (v4 < v3) then inR v4 ((List.length v0):Int) (inR v3 ((List.length v0):Int) (bif ByteArray.toList (ix qQ v0 v4).1 == ByteArray.toList (ix qQ v0 v3).1 then some (false,()) else k1 (v0,v3,wI (v4 + 1)))) else k0 (v0,wI (v3 + 1))
abbrev zcH (K:Nat) (k0:jV→Option (Bool × Unit)):zai→Option (Bool × Unit):=zg (fun k1=>zcG k0 k1) K
theorem zwU (K:Nat) (n0:Nat):∀ n,evV Es1 K Tryz.f234 0 (ch [.bool]) [1,1,0,1,0,0,1,0,0,1,1,0] [n0] zm2 n = zg (fun k1=>zcG (evV Es1 K Tryz.f234 0 (ch [.bool]) [1,1,0,1,0] [] zm3 n0) k1) n:=zq fun n1 (v0,v3,v4)=>by kernel_rfl
def zaj (L1:zai→Option (Bool × Unit)) (k0:jV→Option (Bool × Unit)):jV→Option (Bool × Unit):=fun (v0,v3) =>
  bif decide (v3 < ((List.length v0):Int)) then inR v3 ((List.length v0):Int) (Option.bind (zH ((ix qQ v0 v3).1,())) fun q0=>bif q0.1 then inR v3 ((List.length v0):Int) (Option.bind (zH ((ix qQ v0 v3).2.1,())) fun q1=>bif q1.1 then inR v3 ((List.length v0):Int) (bif decide ((ix qQ v0 v3).2.2.1 < 0) then some (false,()) else inR v3 ((List.length v0):Int) (bif decide ((ix qQ v0 v3).2.2.1 > 3) then some (false,()) else L1 (v0,v3,0))) else some (false,())) else some (false,())) else some (true,())
abbrev zg7 (K:Nat):jV→Option (Bool × Unit):=zg (fun k0=>zaj (zcH K k0) k0) K
theorem zwV (K:Nat):∀ n,evV Es1 K Tryz.f234 0 (ch [.bool]) [1,1,0,1,0] [] zm3 n = zg (fun k0=>zaj (zcH K k0) k0) n:=qu (B:=fun L1 k0=>zaj L1 k0) (V1:=fun n0=>evV Es1 K Tryz.f234 0 (ch [.bool]) [1,1,0,1,0,0,1,0,0,1,1,0] [n0] zm2 K) (W1:=fun k0=>(zcH K k0)) (fun n0=>zwU K n0 K) fun n0 (v0,v3)=>by kernel_rfl
def zfH (L0:jV→Option (Bool × Unit)):((List qA) × Unit)→Option (Bool × Unit):=fun (x0,()) =>
  bif decide (((List.length x0):Int) < 1) then some (false,()) else bif decide (((List.length x0):Int) > 8) then some (false,()) else L0 (x0,0)
def zfI:((List qA) × Unit)→Option (Bool × Unit):=zfH (zg7 K0)
abbrev zpd:Fun:=⟨234,(ch [(.sl qD)]),(ch [.bool]),0,zfI⟩
theorem zz0:Sq zpd:=ml1 (d:=false) (S:=fun K=>zfH (zg7 K)) Tryz.func234 (by kernel_rfl) (fun K=>tr1 (T:=zfH) (zwV K K) fun (x0,())=>by kernel_rfl) rfl
abbrev zbr:Type:=(List zE) × (List zC) × Int × Int
abbrev zpe:zbr→St:=fun (v0,v1,v8,v9)=>St.mk [(0,.dat (.sl jt) v0),(1,.dat (.sl zt) v1),(8,.dat tI v8),(9,.dat tI v9)] []
abbrev vu:Type:=(List zE) × (List zC) × Int
abbrev zjx:vu→St:=fun (v0,v1,v8)=>St.mk [(0,.dat (.sl jt) v0),(1,.dat (.sl zt) v1),(8,.dat tI v8)] []
abbrev zbs:Type:=(List zE) × (List zC) × Int × Int
abbrev zz1:zbs→St:=fun (v0,v1,v2,v7)=>St.mk [(0,.dat (.sl jt) v0),(1,.dat (.sl zt) v1),(2,.dat tI v2),(7,.dat tI v7)] []
def yT (k1:vu→Option (Bool × Unit)) (k2:zbr→Option (Bool × Unit)):zbr→Option (Bool × Unit):=fun (v0,v1,v8,v9) =>
  bif decide (v9 < 64) then inR v8 ((List.length v1):Int) (Option.bind (zgg (ix ji v1 v8,v9,())) fun q4=>bif q4.1 then Option.bind (zrE (v0,v9,())) fun q5=>bif q5.1 then k2 (v0,v1,v8,wI (v9 + 1)) else some (false,()) else k2 (v0,v1,v8,wI (v9 + 1))) else k1 (v0,v1,wI (v8 + 1))
abbrev zjy (K:Nat) (k1:vu→Option (Bool × Unit)):zbr→Option (Bool × Unit):=zg (fun k2=>yT k1 k2) K
theorem zz2 (K:Nat) (n1:Nat):∀ n,evV Es1 K Tryz.f235 0 (ch [.bool]) [1,1,1,0,1,0,0,1,0,0,1,0] [n1] zpe n = zg (fun k2=>yT (evV Es1 K Tryz.f235 0 (ch [.bool]) [1,1,1,0,1,0] [] zjx n1) k2) n:=zq fun n2 (v0,v1,v8,v9)=>by kernel_rfl
def zbt (L2:zbr→Option (Bool × Unit)) (k1:vu→Option (Bool × Unit)):vu→Option (Bool × Unit):=fun (v0,v1,v8) =>
  bif decide (v8 < ((List.length v1):Int)) then L2 (v0,v1,v8,0) else some (true,())
abbrev zfJ (K:Nat):vu→Option (Bool × Unit):=zg (fun k1=>zbt (zjy K k1) k1) K
theorem zz3 (K:Nat):∀ n,evV Es1 K Tryz.f235 0 (ch [.bool]) [1,1,1,0,1,0] [] zjx n = zg (fun k1=>zbt (zjy K k1) k1) n:=qu (B:=fun L2 k1=>zbt L2 k1) (V1:=fun n1=>evV Es1 K Tryz.f235 0 (ch [.bool]) [1,1,1,0,1,0,0,1,0,0,1,0] [n1] zpe K) (W1:=fun k1=>(zjy K k1)) (fun n1=>zz2 K n1 K) fun n1 (v0,v1,v8)=>by kernel_rfl
def zbu (L1:vu→Option (Bool × Unit)) (k0:zbs→Option (Bool × Unit)):zbs→Option (Bool × Unit):=fun (v0,v1,v2,v7) =>
  bif decide (v7 < ((List.length v0):Int)) then inR v7 ((List.length v0):Int) (bif decide ((ix qB v0 v7).1 < 0) then some (false,()) else inR v7 ((List.length v0):Int) (bif decide ((ix qB v0 v7).1 > 63) then some (false,()) else inR v7 ((List.length v0):Int) (bif decide ((ix qB v0 v7).2.1 < 0) then some (false,()) else inR v7 ((List.length v0):Int) (bif decide ((ix qB v0 v7).2.1 ≥ v2) then some (false,()) else bif decide (v7 > 0) then inR (wI (v7 - 1)) ((List.length v0):Int) (inR v7 ((List.length v0):Int) (bif decide ((List.getD v0 (Int.toNat (wI (v7 - 1))) (zd jt)).1 ≥ (ix qB v0 v7).1) then some (false,()) else inR v7 ((List.length v0):Int) (Option.bind (zg3 ((ix qB v0 v7).1,())) fun q0=>Option.bind (ziW (v1,q0.1,())) fun q1=>bif decide (q1.1 < 0) then some (false,()) else k0 (v0,v1,v2,wI (v7 + 1))))) else inR v7 ((List.length v0):Int) (Option.bind (zg3 ((ix qB v0 v7).1,())) fun q2=>Option.bind (ziW (v1,q2.1,())) fun q3=>bif decide (q3.1 < 0) then some (false,()) else k0 (v0,v1,v2,wI (v7 + 1))))))) else L1 (v0,v1,0)
abbrev zjz (K:Nat):zbs→Option (Bool × Unit):=zg (fun k0=>zbu (zfJ K) k0) K
theorem zz4 (K:Nat):∀ n,evV Es1 K Tryz.f235 0 (ch [.bool]) [1,1,0,1,0] [] zz1 n = zg (fun k0=>zbu (zfJ K) k0) n:=qu (B:=fun L1 k0=>zbu L1 k0) (V1:=fun n0=>evV Es1 K Tryz.f235 0 (ch [.bool]) [1,1,1,0,1,0] [] zjx K) (W1:=fun k0=>(zfJ K)) (fun n0=>zz3 K K) fun n0 (v0,v1,v2,v7)=>by kernel_rfl
def zhF (L0:zbs→Option (Bool × Unit)):((List zE) × ((List zC) × (Int × Unit)))→Option (Bool × Unit):=fun (x0,x1,x2,()) =>
  bif decide (((List.length x0):Int) > 8) then some (false,()) else L0 (x0,x1,x2,0)
def zhG:((List zE) × (List zC) × Int × Unit)→Option (Bool × Unit):=zhF (zjz K0)
abbrev zsI:Fun:=⟨235,(ch [(.sl jt),(.sl zt),tI]),(ch [.bool]),0,zhG⟩
theorem zD3:Sq zsI:=ml1 (d:=false) (S:=fun K=>zhF (zjz K)) Tryz.func235 (by kernel_rfl) (fun K=>tr1 (T:=zhF) (zz4 K K) fun (x0,x1,x2,())=>by kernel_rfl) rfl
abbrev zbv:Type:=(List zbm) × Int × Int
abbrev zz5:zbv→St:=fun (v0,v3,v4)=>St.mk [(0,.dat (.sl zcl) v0),(3,.dat tU v3),(4,.dat tI v4)] []
def yU (k0:zbv→Option (Bool × Unit)):zbv→Option (Bool × Unit):=fun (v0,v3,v4) =>
  bif decide (v4 < ((List.length v0):Int)) then inR v4 ((List.length v0):Int) (Option.bind (yo ((ix qt v0 v4).1,())) fun q0=>bif q0.1 then Option.bind (yo ((ix qt v0 v4).2.1,())) fun q1=>bif q1.1 then Option.bind (yo ((ix qt v0 v4).2.2.1,())) fun q2=>bif q2.1 then Option.bind (yo ((ix qt v0 v4).2.2.2.1,())) fun q3=>bif q3.1 then Option.bind (yo ((ix qt v0 v4).2.2.2.2.1,())) fun q4=>bif q4.1 then bif decide ((ix qt v0 v4).2.2.2.2.2.1 > v3) then some (false,()) else k0 (v0,wU (v3 - (ix qt v0 v4).2.2.2.2.2.1),wI (v4 + 1)) else some (false,()) else some (false,()) else some (false,()) else some (false,()) else some (false,())) else bif decide (((List.length v0):Int) > 0) then bif decide (0 < ((List.length v0):Int)) then bif decide ((ix qt v0 0).1 > 0) then some (true,()) else some (false,()) else none else some (false,())
abbrev zpf (K:Nat):zbv→Option (Bool × Unit):=zg yU K
theorem zz6 (K:Nat):∀ n,evV Es1 K Tryz.f236 0 (ch [.bool]) [1,1,0,1,0] [] zz5 n = zg yU n:=zq fun n0 (v0,v3,v4)=>by kernel_rfl
def zl0 (L0:zbv→Option (Bool × Unit)):((List zbm) × Unit)→Option (Bool × Unit):=fun (x0,()) =>
  L0 (x0,4611686018427387904,0)
def zl1:((List zbm) × Unit)→Option (Bool × Unit):=zl0 (zpf K0)
abbrev zsJ:Fun:=⟨236,(ch [(.sl zcl)]),(ch [.bool]),0,zl1⟩
theorem zD4:Sq zsJ:=ml1 (d:=false) (S:=fun K=>zl0 (zpf K)) Tryz.func236 (by kernel_rfl) (fun K=>tr1 (T:=zl0) (zz6 K K) fun (x0,())=>by kernel_rfl) rfl
def zg8:(Int × (Int × (Int × Unit)))→Option (Int × (Int × Unit)):=fun (x0,x1,x2,()) =>
  bif decide (x0 < 1) then some (0,1,()) else bif decide (x0 > 2) then some (0,1,()) else bif x1 == 0 then some (0,1,()) else bif x2 == 0 then some (0,1,()) else Option.bind (ziZ (x1,x2,())) fun q0=>bif q0.2.1 == 0 then bif x0 == 2 then some (x1,q0.2.1,()) else some (q0.1,q0.2.1,()) else some (q0.1,q0.2.1,())
abbrev zwW:Fun:=⟨324,(ch [tI,tU,tU]),(ch [tU,tI]),0,zg8⟩
theorem zIR:Sq zwW:=ms1 (d:=false) (K:=0) Tryz.func324 (by kernel_rfl) (funext fun (x0,x1,x2,())=>by kernel_rfl)
abbrev zcI:Type:=(List qV) × Int
abbrev zBW:zcI→St:=fun (v0,v3)=>St.mk [(0,.dat (.sl qk) v0),(3,.dat tI v3)] []
def zcJ (k0:zcI→Option (Bool × Unit)):zcI→Option (Bool × Unit):=fun (v0,v3) =>
  bif decide (v3 < ((List.length v0):Int)) then inR v3 ((List.length v0):Int) (bif (ix zhs v0 v3).1 then inR v3 ((List.length v0):Int) (Option.bind (zH ((ix zhs v0 v3).2.1,())) fun q0=>bif q0.1 then inR v3 ((List.length v0):Int) (bif (ix zhs v0 v3).1 then k0 (v0,wI (v3 + 1)) else inR v3 ((List.length v0):Int) (bif !ByteArray.toList (ix zhs v0 v3).2.1 == ByteArray.toList (ByteArray.mk #[]) then some (false,()) else k0 (v0,wI (v3 + 1)))) else some (false,())) else inR v3 ((List.length v0):Int) (Option.bind (zH ((ix zhs v0 v3).2.1,())) fun q1=>bif q1.1 then some (false,()) else inR v3 ((List.length v0):Int) (bif (ix zhs v0 v3).1 then k0 (v0,wI (v3 + 1)) else inR v3 ((List.length v0):Int) (bif !ByteArray.toList (ix zhs v0 v3).2.1 == ByteArray.toList (ByteArray.mk #[]) then some (false,()) else k0 (v0,wI (v3 + 1)))))) else some (true,())
abbrev zqB (K:Nat):zcI→Option (Bool × Unit):=zg zcJ K
theorem zBX (K:Nat):∀ n,evV Es1 K Tryz.f241 0 (ch [.bool]) [1,0,1,0] [] zBW n = zg zcJ n:=zq fun n0 (v0,v3)=>by kernel_rfl
def zni (L0:zcI→Option (Bool × Unit)):((List qV) × Unit)→Option (Bool × Unit):=fun (x0,()) =>
  L0 (x0,0)
def znj:((List qV) × Unit)→Option (Bool × Unit):=zni (zqB K0)
abbrev zuK:Fun:=⟨241,(ch [(.sl qk)]),(ch [.bool]),0,znj⟩
theorem zGf:Sq zuK:=ml1 (d:=false) (S:=fun K=>zni (zqB K)) Tryz.func241 (by kernel_rfl) (fun K=>tr1 (T:=zni) (zBX K K) fun (x0,())=>by kernel_rfl) rfl
abbrev zcK:Type:=(List qe) × Int × Int × qe
abbrev zqC:zcK→St:=fun (v0,v3,v5,o0)=>St.mk [(0,.dat (.sl zU) v0),(3,.dat tI v3),(4,.bp 0 []),(5,.dat tI v5)] [.bx (.dat zU o0) false]
abbrev yc:Type:=(List qe) × Int
abbrev zqD:yc→St:=fun (v0,v3)=>St.mk [(0,.dat (.sl zU) v0),(3,.dat tI v3)] []
def zcL (k0:yc→Option (Bool × Unit)) (k1:zcK→Option (Bool × Unit)):zcK→Option (Bool × Unit):=fun (v0,v3,v5,o0) =>
  bif decide (v5 < v3) then bif o0.1 then inR v5 ((List.length v0):Int) (bif (ix qh v0 v5).1 then inR v5 ((List.length v0):Int) (bif eqI zv (ix qh v0 v5).2.1 o0.2.1 then inR v5 ((List.length v0):Int) (bif (ix qh v0 v5).2.2.2.1 == o0.2.2.2.1 then some (false,()) else k1 (v0,v3,wI (v5 + 1),o0)) else k1 (v0,v3,wI (v5 + 1),o0)) else k1 (v0,v3,wI (v5 + 1),o0)) else k1 (v0,v3,wI (v5 + 1),o0) else k0 (v0,wI (v3 + 1))
abbrev zcM (K:Nat) (k0:yc→Option (Bool × Unit)):zcK→Option (Bool × Unit):=zg (fun k1=>zcL k0 k1) K
theorem zBY (K:Nat) (n0:Nat):∀ n,evV Es1 K Tryz.f242 0 (ch [.bool]) [1,0,1,0,0,1,0,0,1,1,1,0] [n0] zqC n = zg (fun k1=>zcL (evV Es1 K Tryz.f242 0 (ch [.bool]) [1,0,1,0] [] zqD n0) k1) n:=zq fun n1 (v0,v3,v5,o0)=>by kernel_rfl
def zas (L1:zcK→Option (Bool × Unit)) (k0:yc→Option (Bool × Unit)):yc→Option (Bool × Unit):=fun (v0,v3) =>
  bif decide (v3 < ((List.length v0):Int)) then inR v3 ((List.length v0):Int) (bif (ix qh v0 v3).1 then bif (ix qh v0 v3).1 then Option.bind (qx ((ix qh v0 v3).2.1,())) fun q0=>bif q0.1 then Option.bind (qx ((ix qh v0 v3).2.2.1,())) fun q1=>bif q1.1 then bif decide ((ix qh v0 v3).2.2.2.1 < 0) then some (false,()) else bif decide ((ix qh v0 v3).2.2.2.1 > 5) then some (false,()) else L1 (v0,v3,0,ix qh v0 v3) else some (false,()) else some (false,()) else L1 (v0,v3,0,ix qh v0 v3) else bif !eqI zU (ix qh v0 v3) (zd zU) then some (false,()) else bif (ix qh v0 v3).1 then Option.bind (qx ((ix qh v0 v3).2.1,())) fun q2=>bif q2.1 then Option.bind (qx ((ix qh v0 v3).2.2.1,())) fun q3=>bif q3.1 then bif decide ((ix qh v0 v3).2.2.2.1 < 0) then some (false,()) else bif decide ((ix qh v0 v3).2.2.2.1 > 5) then some (false,()) else L1 (v0,v3,0,ix qh v0 v3) else some (false,()) else some (false,()) else L1 (v0,v3,0,ix qh v0 v3)) else some (true,())
abbrev zqE (K:Nat):yc→Option (Bool × Unit):=zg (fun k0=>zas (zcM K k0) k0) K
theorem zBZ (K:Nat):∀ n,evV Es1 K Tryz.f242 0 (ch [.bool]) [1,0,1,0] [] zqD n = zg (fun k0=>zas (zcM K k0) k0) n:=qu (B:=fun L1 k0=>zas L1 k0) (V1:=fun n0=>evV Es1 K Tryz.f242 0 (ch [.bool]) [1,0,1,0,0,1,0,0,1,1,1,0] [n0] zqC K) (W1:=fun k0=>(zcM K k0)) (fun n0=>zBY K n0 K) fun n0 (v0,v3)=>by kernel_rfl
def znk (L0:yc→Option (Bool × Unit)):((List qe) × Unit)→Option (Bool × Unit):=fun (x0,()) =>
  L0 (x0,0)
def znl:((List qe) × Unit)→Option (Bool × Unit):=znk (zqE K0)
abbrev zuL:Fun:=⟨242,(ch [(.sl zU)]),(ch [.bool]),0,znl⟩
theorem zGg:Sq zuL:=ml1 (d:=false) (S:=fun K=>znk (zqE K)) Tryz.func242 (by kernel_rfl) (fun K=>tr1 (T:=znk) (zBZ K K) fun (x0,())=>by kernel_rfl) rfl
abbrev zcN:Type:=(List zh) × Int
abbrev zB0:zcN→St:=fun (v0,v3)=>St.mk [(0,.dat (.sl zi) v0),(3,.dat tI v3)] []
def zcO (k0:zcN→Option (Bool × Unit)):zcN→Option (Bool × Unit):=fun (v0,v3) =>
  bif decide (v3 < ((List.length v0):Int)) then inR v3 ((List.length v0):Int) (bif (ix zj v0 v3).1 then bif (ix zj v0 v3).2.2.1 == 1 then Option.bind (vn ((ix zj v0 v3).2.2.2.1,())) fun q0=>bif q0.1 then bif eqI zv (ix zj v0 v3).2.2.2.2.1 (zd zv) then bif (ix zj v0 v3).2.2.1 == 2 then bif (ix zj v0 v3).2.2.2.1 == 0 then Option.bind (qx ((ix zj v0 v3).2.2.2.2.1,())) fun q1=>bif q1.1 then Option.bind (zH ((ix zj v0 v3).2.1,())) fun q2=>bif q2.1 then k0 (v0,wI (v3 + 1)) else some (false,()) else Option.bind (zH ((ix zj v0 v3).2.1,())) fun q3=>bif q3.1 then k0 (v0,wI (v3 + 1)) else some (false,()) else Option.bind (zH ((ix zj v0 v3).2.1,())) fun q4=>bif q4.1 then k0 (v0,wI (v3 + 1)) else some (false,()) else Option.bind (zH ((ix zj v0 v3).2.1,())) fun q5=>bif q5.1 then k0 (v0,wI (v3 + 1)) else some (false,()) else bif (ix zj v0 v3).2.2.1 == 2 then bif (ix zj v0 v3).2.2.2.1 == 0 then Option.bind (qx ((ix zj v0 v3).2.2.2.2.1,())) fun q6=>bif q6.1 then Option.bind (zH ((ix zj v0 v3).2.1,())) fun q7=>bif q7.1 then k0 (v0,wI (v3 + 1)) else some (false,()) else Option.bind (zH ((ix zj v0 v3).2.1,())) fun q8=>bif q8.1 then some (false,()) else some (false,()) else Option.bind (zH ((ix zj v0 v3).2.1,())) fun q9=>bif q9.1 then some (false,()) else some (false,()) else Option.bind (zH ((ix zj v0 v3).2.1,())) fun q10=>bif q10.1 then some (false,()) else some (false,()) else bif (ix zj v0 v3).2.2.1 == 2 then bif (ix zj v0 v3).2.2.2.1 == 0 then Option.bind (qx ((ix zj v0 v3).2.2.2.2.1,())) fun q11=>bif q11.1 then Option.bind (zH ((ix zj v0 v3).2.1,())) fun q12=>bif q12.1 then k0 (v0,wI (v3 + 1)) else some (false,()) else Option.bind (zH ((ix zj v0 v3).2.1,())) fun q13=>bif q13.1 then some (false,()) else some (false,()) else Option.bind (zH ((ix zj v0 v3).2.1,())) fun q14=>bif q14.1 then some (false,()) else some (false,()) else Option.bind (zH ((ix zj v0 v3).2.1,())) fun q15=>bif q15.1 then some (false,()) else some (false,()) else bif (ix zj v0 v3).2.2.1 == 3 then Option.bind (vn ((ix zj v0 v3).2.2.2.1,())) fun q16=>bif q16.1 then bif eqI zv (ix zj v0 v3).2.2.2.2.1 (zd zv) then bif (ix zj v0 v3).2.2.1 == 2 then bif (ix zj v0 v3).2.2.2.1 == 0 then Option.bind (qx ((ix zj v0 v3).2.2.2.2.1,())) fun q17=>bif q17.1 then Option.bind (zH ((ix zj v0 v3).2.1,())) fun q18=>bif q18.1 then k0 (v0,wI (v3 + 1)) else some (false,()) else Option.bind (zH ((ix zj v0 v3).2.1,())) fun q19=>bif q19.1 then k0 (v0,wI (v3 + 1)) else some (false,()) else Option.bind (zH ((ix zj v0 v3).2.1,())) fun q20=>bif q20.1 then k0 (v0,wI (v3 + 1)) else some (false,()) else Option.bind (zH ((ix zj v0 v3).2.1,())) fun q21=>bif q21.1 then k0 (v0,wI (v3 + 1)) else some (false,()) else bif (ix zj v0 v3).2.2.1 == 2 then bif (ix zj v0 v3).2.2.2.1 == 0 then Option.bind (qx ((ix zj v0 v3).2.2.2.2.1,())) fun q22=>bif q22.1 then Option.bind (zH ((ix zj v0 v3).2.1,())) fun q23=>bif q23.1 then k0 (v0,wI (v3 + 1)) else some (false,()) else Option.bind (zH ((ix zj v0 v3).2.1,())) fun q24=>bif q24.1 then some (false,()) else some (false,()) else Option.bind (zH ((ix zj v0 v3).2.1,())) fun q25=>bif q25.1 then some (false,()) else some (false,()) else Option.bind (zH ((ix zj v0 v3).2.1,())) fun q26=>bif q26.1 then some (false,()) else some (false,()) else bif (ix zj v0 v3).2.2.1 == 2 then bif (ix zj v0 v3).2.2.2.1 == 0 then Option.bind (qx ((ix zj v0 v3).2.2.2.2.1,())) fun q27=>bif q27.1 then Option.bind (zH ((ix zj v0 v3).2.1,())) fun q28=>bif q28.1 then k0 (v0,wI (v3 + 1)) else some (false,()) else Option.bind (zH ((ix zj v0 v3).2.1,())) fun q29=>bif q29.1 then some (false,()) else some (false,()) else Option.bind (zH ((ix zj v0 v3).2.1,())) fun q30=>bif q30.1 then some (false,()) else some (false,()) else Option.bind (zH ((ix zj v0 v3).2.1,())) fun q31=>bif q31.1 then some (false,()) else some (false,()) else bif (ix zj v0 v3).2.2.1 == 2 then bif (ix zj v0 v3).2.2.2.1 == 0 then Option.bind (qx ((ix zj v0 v3).2.2.2.2.1,())) fun q32=>bif q32.1 then Option.bind (zH ((ix zj v0 v3).2.1,())) fun q33=>bif q33.1 then k0 (v0,wI (v3 + 1)) else some (false,()) else Option.bind (zH ((ix zj v0 v3).2.1,())) fun q34=>bif q34.1 then some (false,()) else some (false,()) else Option.bind (zH ((ix zj v0 v3).2.1,())) fun q35=>bif q35.1 then some (false,()) else some (false,()) else Option.bind (zH ((ix zj v0 v3).2.1,())) fun q36=>bif q36.1 then some (false,()) else some (false,()) else bif !eqI zi (ix zj v0 v3) (zd zi) then some (false,()) else k0 (v0,wI (v3 + 1))) else some (true,())
abbrev zqF (K:Nat):zcN→Option (Bool × Unit):=zg zcO K
theorem zB1 (K:Nat):∀ n,evV Es1 K Tryz.f84 0 (ch [.bool]) [1,0,1,0] [] zB0 n = zg zcO n:=zq fun n0 (v0,v3)=>by kernel_rfl
def znm (L0:zcN→Option (Bool × Unit)):((List zh) × Unit)→Option (Bool × Unit):=fun (x0,()) =>
  L0 (x0,0)
def yq:((List zh) × Unit)→Option (Bool × Unit):=znm (zqF K0)
abbrev zuM:Fun:=⟨84,(ch [(.sl zi)]),(ch [.bool]),0,yq⟩
theorem zGh:Sq zuM:=ml1 (d:=false) (S:=fun K=>znm (zqF K)) Tryz.func84 (by kernel_rfl) (fun K=>tr1 (T:=znm) (zB1 K K) fun (x0,())=>by kernel_rfl) rfl
end
end Go.Proofs.YtejbgeokcpillaaGreatDoor
end
