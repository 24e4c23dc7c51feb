import Derived.Test.YtejbgeokcpillaaGreatDoorGlc
import Derived.Carry
import Derived.OpenShut
import Derived.Test.YtejbgeokcpillaaGreatDoorProg
set_option linter.unusedSimpArgs false
set_option linter.unusedVariables false
section
namespace Go.Ev
open Go.RowKit
section
variable {P:Program} {nt:Up} {F0 F G:FH} {w0 w:World} {st st':St} {m:MM} {a:Act} {E:Env} {v:AV} {u:Value}
def znC (ids:Nat→Option Nat) (h:List Obj):(b:Ty)→Nat→b.I→List AV→Prop
  | .pair (.sl σ) b,i,x,v :: vs=>(∃ id,v = .ow id ∧ ids i = some id ∧ atN h id = some (mkO σ (bif σ.deep then some (List.length x.1) else none) x.1)) ∧ znC ids h b (i + 1) x.2 vs
  | .pair a b,i,x,v :: vs=>v = .dat a x.1 ∧ znC ids h b (i + 1) x.2 vs
  | .unit,_,_,[]=>True
  | _,_,_,_=>False
theorem znC.ids {ids ids':Nat→Option Nat} {h:List Obj}:∀ {b:Ty} {i:Nat} {x:b.I} {vs:List AV},(∀ f,i ≤ f→ids' f = ids f)→znC ids h b i x vs→znC ids' h b i x vs:=by
  intro b
  induction b with
  | unit=>intro i x vs _ ho; cases vs <;> exact ho
  | pair t b _ ihb =>
    intro i x vs hi ho
    cases vs with
    | nil=>cases t <;> exact ho.elim
    | cons v vs =>
      cases t with
      | sl σ =>
        obtain ⟨⟨id,h1,h2,h3⟩,h4⟩:=ho
        exact ⟨⟨id,h1,by rw [hi i (Nat.le_refl _)]; exact h2,h3⟩,ihb (fun f hf=>hi f (by omega)) h4⟩
      | _=>exact ⟨ho.1,ihb (fun f hf=>hi f (by omega)) ho.2⟩
  | _=>intro i x vs _ ho; cases vs <;> exact ho.elim
theorem znC.heap {ids:Nat→Option Nat} {h h':List Obj}:∀ {b:Ty} {i:Nat} {x:b.I} {vs:List AV},(∀ f id,ids f = some id→atN h' id = atN h id)→znC ids h b i x vs→znC ids h' b i x vs:=by
  intro b
  induction b with
  | unit=>intro i x vs _ ho; cases vs <;> exact ho
  | pair t b _ ihb =>
    intro i x vs hi ho
    cases vs with
    | nil=>cases t <;> exact ho.elim
    | cons v vs =>
      cases t with
      | sl σ =>
        obtain ⟨⟨id,h1,h2,h3⟩,h4⟩:=ho
        exact ⟨⟨id,h1,h2,by rw [hi _ _ h2]; exact h3⟩,ihb hi h4⟩
      | _=>exact ⟨ho.1,ihb hi ho.2⟩
  | _=>intro i x vs _ ho; cases vs <;> exact ho.elim
theorem zHe {h h0 h1:List Obj} (hdr:∀ i τ xs k,atN h i = some (.drow τ xs k)→τ.deep = true) {t:Ty} {x:t.I} (hz:zuz h0 t v = some (x,h1)) (l:yK h0 h) :
    (v = .dat t x ∧ t.dl = false ∧ h1 = h0) ∨ ∃ (σ:Ty) (xs:List σ.I) (id:Nat),(⟨t,x⟩:(τ:Ty) × τ.I) = ⟨.sl σ,xs⟩ ∧ v = .ow id ∧ atN h id = some (mkO σ (bif σ.deep then some (List.length xs) else none) xs) ∧ atN h0 id ≠ some .gone ∧ (∃ o,atN h0 id = some o) ∧ h1 = zj h0 id .gone:=by
  cases v with
  | dat τ y =>
    simp only [zuz] at hz
    obtain ⟨hdl,hz⟩:=qo hz
    split at hz
    · rename_i z hc
      cases hz
      obtain ⟨rfl,rfl⟩:=zM hc
      exact .inl ⟨rfl,hdl,rfl⟩
    · cases hz
  | ow id =>
    simp only [zuz] at hz
    right
    split at hz
    · rename_i τ xs ho
      obtain ⟨hd,hz⟩:=qo hz
      split at hz
      · rename_i z hc
        cases hz
        obtain ⟨e,rfl⟩:=zM hc
        subst e
        refine ⟨τ,xs,id,rfl,rfl,?_,(by rw [ho]; intro e; cases e),⟨_,ho⟩,rfl⟩
        rw [l.at ho (by intro e; cases e),hd]
        rfl
      · cases hz
    · rename_i τ xs n ho
      split at hz
      · rename_i z hc
        obtain ⟨hn,hz⟩:=za hz
        cases hz
        obtain ⟨e,rfl⟩:=zM hc
        subst e
        have hat:=l.at ho (by intro e; cases e)
        refine ⟨τ,xs,id,rfl,rfl,?_,(by rw [ho]; intro e; cases e),⟨_,ho⟩,rfl⟩
        rw [hat,hdr _ _ _ _ hat,of_decide_eq_true hn]
        rfl
      · cases hz
    · cases hz
  | _=>cases hz
theorem zzG {h:List Obj} (hdr:∀ i τ xs k,atN h i = some (.drow τ xs k)→τ.deep = true):∀ {b:Ty} {vs:List AV} {x:b.I} {h0 h1:List Obj} (i:Nat),ownC b vs h0 = some (x,h1)→yK h0 h →
    ∃ ids:Nat→Option Nat,znC ids h b i x vs ∧ yK h1 h ∧ (∀ f id,ids f = some id→i ≤ f ∧ atN h0 id ≠ some .gone ∧ atN h1 id = some .gone ∧ ∃ σ k xs,atN h id = some (mkO σ k xs)) ∧ (∀ j,atN h0 j = some .gone→atN h1 j = some .gone) ∧
      ∀ f f' id,ids f = some id→ids f' = some id→f = f':=by
  intro b
  induction b with
  | unit =>
    intro vs x h0 h1 i hz l
    cases vs with
    | nil=>cases hz; exact ⟨fun _=>none,trivial,l,fun f id e=>(by cases e),fun _ h=>h,fun f f' id e=>(by cases e)⟩
    | cons _ _=>cases hz
  | pair t b _ ihb =>
    intro vs x h0 h1 i hz l
    cases vs with
    | nil=>cases hz
    | cons v vs =>
      simp only [ownC] at hz
      split at hz
      · rename_i y h2 hy
        split at hz
        · rename_i ys h3 hys
          cases hz
          rcases zHe hdr hy l with ⟨rfl,hdl,rfl⟩ | ⟨σ,xs,id,e,rfl,hat,hng,⟨o,ho⟩,rfl⟩
          · obtain ⟨ids,g1,g2,g3,g4,g5⟩:=ihb (i + 1) hys l
            refine ⟨ids,?_,g2,fun f id hf=>⟨by have:=(g3 f id hf).1; omega,(g3 f id hf).2⟩,g4,g5⟩
            cases t with
            | sl σ=>cases hdl
            | _=>exact ⟨rfl,g1⟩
          · cases e
            obtain ⟨ids,g1,g2,g3,g4,g5⟩:=ihb (i + 1) hys (l.gone ho)
            have hid:atN (zj h0 id .gone) id = some .gone:=yu ho
            have hids:∀ f,i + 1 ≤ f→(if f = i then some id else ids f) = ids f:=fun f hf=>by rw [if_neg (by omega)]
            refine ⟨fun f=>if f = i then some id else ids f,⟨⟨id,rfl,if_pos rfl,hat⟩,g1.ids hids⟩,g2,fun f id' hf=>?_,fun j hj=>?_,fun f f' id' hf hf'=>?_⟩
            · by_cases e:f = i
              · simp only [e,if_true,Option.some.injEq] at hf
                subst hf
                exact ⟨by omega,hng,g4 _ hid,σ,_,_,hat⟩
              · simp only [e,if_false] at hf
                obtain ⟨k1,k2,k3,k4⟩:=g3 f id' hf
                refine ⟨by omega,fun hg=>k2 ?_,k3,k4⟩
                by_cases e2:id = id'
                · rw [← e2]; exact hid
                · rw [qg e2]; exact hg
            · refine g4 j ?_
              by_cases e2:id = j
              · rw [← e2]; exact hid
              · rw [qg e2]; exact hj
            · by_cases e:f = i <;> by_cases e':f' = i
              · omega
              · simp only [e,if_true,Option.some.injEq] at hf
                simp only [e',if_false] at hf'
                subst hf
                exact absurd hid (g3 f' _ hf').2.1
              · simp only [e,if_false] at hf
                simp only [e',if_true,Option.some.injEq] at hf'
                subst hf'
                exact absurd hid (g3 f _ hf).2.1
              · simp only [e,if_false] at hf
                simp only [e',if_false] at hf'
                exact g5 f f' id' hf hf'
        · cases hz
      · cases hz
  | _=>intro vs x h0 h1 i hz l; cases vs <;> cases hz
def MM.ofI (m:MM) (ids:Nat→Option Nat):Nat→Nat→List Nat→Option (Nat × Nat):=fun f=>match ids f with | some id=>m.d id | none=>fun _ _=>none
theorem MM.ofI_some {m:MM} {ids:Nat→Option Nat} {f j:Nat} {p:List Nat} {b:Nat × Nat} (h:m.ofI ids f j p = some b):∃ id,ids f = some id ∧ m.d id j p = some b:=by
  unfold MM.ofI at h
  cases hi:ids f with
  | none=>rw [hi] at h; cases h
  | some id=>rw [hi] at h; exact ⟨id,rfl,h⟩
theorem zEU (h:Rel P nt F0 w0 st m F a w) {ids:Nat→Option Nat}:∀ {b:Ty} {i:Nat} {x:b.I} {vs:List AV} {cs:List Value},znC ids st.h b i x vs→zS P st.h m F b vs cs→zhh P F w (fun f=>(ids f).bind m) (m.ofI ids) b i x cs:=by
  intro b
  induction b with
  | unit =>
    intro i x vs cs ho hv
    cases vs with
    | nil=>exact hv
    | cons _ _=>exact hv.elim
  | pair t b _ ihb =>
    intro i x vs cs ho hv
    cases vs with
    | nil=>exact hv.elim
    | cons v vs =>
      obtain ⟨c,d,rfl,h1,h2⟩:=hv
      cases t with
      | sl σ =>
        obtain ⟨⟨id,rfl,hi,hat⟩,h4⟩:=ho
        obtain ⟨σ',u,e1,rfl,hs,_⟩:=h1
        cases e1
        refine ⟨u,d,rfl,⟨fun j p bk n hp=>?_,?_⟩,ihb h4 h2⟩
        · obtain ⟨id',hi',hp⟩:=MM.ofI_some hp
          rw [hi] at hi'; cases hi'
          obtain ⟨⟨o,g1,g2⟩,_⟩:=h.dok _ _ _ _ _ hp
          rw [hat] at g1
          cases g1
          cases hd:σ.deep with
          | false=>rw [hd] at g2; cases g2
          | true =>
            rw [hd] at g2
            simp only [cond_true,mkO,Obj.deepAt,decide_eq_true_eq] at g2
            exact ⟨rfl,g2⟩
        · have hq:=zG.owAt hat (zn3 _ _ _) hs
          show match (ids i).bind m with | some (b,n)=>_ | none=>_
          rw [hi,Option.bind_some]
          cases hmi:m id with
          | none =>
            rw [hmi] at hq
            exact ⟨zBC (h.obs _ _ hat) hmi,hq.2⟩
          | some bn =>
            obtain ⟨bk,n⟩:=bn
            rw [hmi] at hq
            obtain ⟨cap,g1,g2,g3⟩:=hq
            refine ⟨cap,g1,g2,g3,?_⟩
            have:=zpn (h.obs _ _ hat) hmi
            have hd:m.ofI ids i = m.d id:=by unfold MM.ofI; rw [hi]
            rw [hd]
            exact this
      | _ =>
        obtain ⟨rfl,h4⟩:=ho
        exact ⟨c,d,rfl,h1.2,ihb h4 h2⟩
  | _=>intro i x vs cs ho; cases vs <;> exact ho.elim
theorem zEV (h:Rel P nt F0 w0 st m F a w) {ids:Nat→Option Nat} (hat:∀ f id,ids f = some id→∃ σ k xs,atN st.h id = some (mkO σ k xs)) (hinj:∀ f f' id,ids f = some id→ids f' = some id→f = f'):zBp F w w0.heap.size (fun f=>(ids f).bind m) (m.ofI ids):=by
  refine ⟨fun f b n hf=>?_,fun f j p b n hp=>?_,fun f f' b n n' hf hf'=>?_,fun f j p b n f' j' p' n' hp hp'=>?_,fun f b n f' j p n' hf hp=>?_⟩
  · obtain ⟨id,hi,hf⟩:=Option.bind_eq_some_iff.1 hf
    obtain ⟨σ,k,xs,ho⟩:=hat f id hi
    obtain ⟨el,cs,c,d,_,_,_,hF,_⟩:=zpn (h.obs _ _ ho) hf
    have:=h.rng _ _ _ hf
    exact ⟨this.2.1,this.2.2,hF⟩
  · obtain ⟨id,hi,hp⟩:=MM.ofI_some hp
    have:=h.dok _ _ _ _ _ hp
    exact ⟨this.2.1,this.2.2.1,this.2.2.2.1⟩
  · obtain ⟨id,hi,hf⟩:=Option.bind_eq_some_iff.1 hf
    obtain ⟨id',hi',hf'⟩:=Option.bind_eq_some_iff.1 hf'
    have:=h.inj _ _ _ _ _ hf hf'
    subst this
    exact hinj _ _ _ hi hi'
  · obtain ⟨id,hi,hp⟩:=MM.ofI_some hp
    obtain ⟨id',hi',hp'⟩:=MM.ofI_some hp'
    obtain ⟨rfl,e2,e3⟩:=h.din _ _ _ _ _ _ _ _ _ hp hp'
    exact ⟨hinj _ _ _ hi hi',e2,e3⟩
  · obtain ⟨id,hi,hf⟩:=Option.bind_eq_some_iff.1 hf
    obtain ⟨id',hi',hp⟩:=MM.ofI_some hp
    exact (h.dok _ _ _ _ _ hp).2.2.2.2 _ _ hf
theorem zIe {ρ:Type} {h:List Obj} {σ:Ty} {v:AV} {k:σ.I→List Obj→Option ρ}:zFb h σ v k = (zuz h σ v).bind fun p=>k p.1 p.2:=by
  unfold zFb zuz
  cases v with
  | dat τ x =>
    simp only
    cases τ.dl with
    | true=>rfl
    | false=>simp only [cond_false]; cases qJ τ σ x <;> rfl
  | ow id =>
    simp only
    cases atN h id with
    | none=>rfl
    | some o =>
      cases o with
      | row τ xs f =>
        cases f with
        | true=>rfl
        | false =>
          simp only
          cases τ.deep with
          | true=>rfl
          | false=>simp only [cond_false]; cases qJ (.sl τ) σ xs <;> rfl
      | drow τ xs n =>
        simp only
        cases qJ (.sl τ) σ xs with
        | none=>rfl
        | some x=>simp only; cases decide (n = List.length xs) <;> rfl
      | _=>rfl
  | _=>rfl
theorem zBU {ρ:Type}:∀ {σ:Ty} {vs:List AV} {h:List Obj} {k:σ.I→List Obj→Option ρ},zvZ σ vs h k = (ownC σ vs h).bind fun p=>k p.1 p.2:=by
  intro σ
  induction σ with
  | unit=>intro vs h k; cases vs <;> rfl
  | pair a b _ ihb =>
    intro vs h k
    cases vs with
    | nil=>rfl
    | cons v vs =>
      simp only [zvZ,ownC,zIe,ihb]
      cases zuz h a v with
      | none=>rfl
      | some p =>
        obtain ⟨x,h1⟩:=p
        simp only [Option.bind_some]
        cases ownC b vs h1 <;> rfl
  | _=>intro vs h k; cases vs <;> rfl
theorem zHf {md:Nat} {r:Ty} {y:r.I} {vs:List AV} {us:List Value} (h:Rel P nt F0 w0 st m F a w) (hv:jm P st.h m F vs us) (hz:zFc md r vs st = some y) :
    ∃ F',F0.grow F' w0.heap.size ∧ F'.ok w ∧ ziQ P F' w w0.heap.size md r y us:=by
  unfold zFc at hz
  split at hz
  ·
    rename_i b c v vs
    split at hz
    · rename_i x h1 hx
      split at hz
      · rename_i p hp
        cases hz
        obtain ⟨u,r,rfl,hv1,hv2⟩:=hv
        obtain ⟨id,k,rfl,hat,rfl,hkr⟩:∃ id k,v = .ow id ∧ atN st.h id = some (mkO b k x) ∧ h1 = zj st.h id .gone ∧ (k = none ∨ k = some 0):=by
          unfold zGC at hx
          split at hx
          · rename_i id
            split at hx
            · rename_i τ xs ho
              split at hx
              · rename_i z hc
                cases hx
                obtain ⟨e,rfl⟩:=zM hc
                cases e
                exact ⟨id,none,rfl,ho,rfl,.inl rfl⟩
              · cases hx
            · rename_i τ xs n ho
              split at hx
              · rename_i z hc
                obtain ⟨hn,hx⟩:=za hx
                cases hx
                obtain ⟨e,rfl⟩:=zM hc
                cases e
                have hn:n = 0:=of_decide_eq_true hn
                subst hn
                exact ⟨id,some 0,rfl,ho,rfl,.inr rfl⟩
              · cases hx
            · cases hx
          · cases hx
        obtain ⟨st2fr,st2h⟩:=st
        have l:yK (zj st2h id .gone) st2h:=(yK.refl st2h).gone hat
        obtain ⟨h',e1,e2,e3⟩:=znB l (show jw false c vs ⟨st2fr,zj st2h id .gone⟩ = some (p.1,p.2) from hp)
        obtain ⟨m',F',g1,g2,g3⟩:=zed e1 h hv2
        have hat':atN h' id = some (mkO b k x):=by rw [(e3.2 id (yu hat)).2]; exact hat
        have hq:=zG.owAt hat' (zn3 _ _ _) (show zG P h' m' F' (.ow id) u from hv1.ext g3)
        refine ⟨F',g1.gro,g1.fok,?_⟩
        simp only [ziQ]
        refine ⟨u,r,rfl,g2,?_⟩
        cases hmi:m' id with
        | none =>
          rw [hmi] at hq
          exact .inr ⟨zBC (g1.obs _ _ hat') hmi,hq.2⟩
        | some bn =>
          obtain ⟨bk,n⟩:=bn
          rw [hmi] at hq
          obtain ⟨cap,k1,k2,k3⟩:=hq
          obtain ⟨el,cs,cc,d,f1,f2,f3,f4,f5⟩:=zpn (g1.obs _ _ hat') hmi
          refine .inl ⟨bk,cap,el,cs,cc,d,k3,k2,(g1.rng _ _ _ hmi).2.1,f1,f4,by rw [f2,k1],f3,?_⟩
          rcases hkr with rfl | rfl
          · exact f5
          · exact zW.toL (fun j x c _ _ hx=>by unfold DE at hx; rw [if_neg (by omega)] at hx; exact hx) (show zW (DE P F' w (m'.d id) b 0) 0 x cc from f5)
      · cases hz
    · cases hz
  ·
    rename_i b c c' vs us'
    obtain ⟨hbc,hz⟩:=za hz
    simp only [decide_eq_true_eq] at hbc
    rw [zBU] at hz
    obtain ⟨⟨x,h1⟩,hx,hz⟩:=Option.bind_eq_some_iff.1 hz
    · split at hz
      · rename_i p hp
        cases hz
        obtain ⟨u,r,rfl,hv1,hv2⟩:=hv
        obtain ⟨cs,rfl,hfs⟩:=(show zF P st.h m F (.fld c' vs) u from hv1)
        subst hbc
        obtain ⟨ids,k1,k2,k3,k4,k5⟩:=zzG (fun i τ xs k ho=>(h.drowk ho).2) 0 hx (yK.refl _)
        obtain ⟨st2fr,st2h⟩:=st
        obtain ⟨h',e1,e2,e3⟩:=znB k2 (show jw false c us' ⟨st2fr,h1⟩ = some (p.1,p.2) from hp)
        obtain ⟨m',F',g1,g2,g3⟩:=zed e1 h hv2
        have hkeep:∀ f id,ids f = some id→atN h' id = atN st2h id:=fun f id hf=>(e3.2 id (k3 f id hf).2.2.1).2
        refine ⟨F',g1.gro,g1.fok,?_⟩
        simp only [ziQ]
        refine ⟨.agg cs,r,cs,_,_,rfl,g2,rfl,zEU g1 (k1.heap hkeep) (hfs.ext g3),zEV g1 (fun f id hf=>?_) k5⟩
        obtain ⟨σ,k,xs,ho⟩:=(k3 f id hf).2.2.2
        exact ⟨σ,k,xs,by rw [hkeep f id hf]; exact ho⟩
      · cases hz
  ·
    rename_i b c v us'
    rw [zBU] at hz
    obtain ⟨⟨x,h1⟩,hx,hz⟩:=Option.bind_eq_some_iff.1 hz
    · split at hz
      · rename_i p hp
        cases hz
        obtain ⟨u,r,rfl,hv1,hv2⟩:=hv
        obtain ⟨ids,k1,k2,k3,k4,k5⟩:=zzG (fun i τ xs k ho=>(h.drowk ho).2) 0 hx (yK.refl _)
        obtain ⟨⟨id,rfl,hi0,hat0⟩,_⟩:=(show (∃ id,v = .ow id ∧ ids 0 = some id ∧ atN st.h id = some (mkO b _ x.1)) ∧ _ from k1)
        have hT:zaO st.h id = some b:=by rw [zs1 hat0,zn3]; rfl
        have hfs:zS P st.h m F (.pair (.sl b) .unit) [.ow id] [u]:=⟨[u],[],rfl,vC.ofRow hT (show zG P st.h m F (.ow id) u from hv1),rfl⟩
        obtain ⟨st2fr,st2h⟩:=st
        obtain ⟨h',e1,e2,e3⟩:=znB k2 (show jw false c us' ⟨st2fr,h1⟩ = some (p.1,p.2) from hp)
        obtain ⟨m',F',g1,g2,g3⟩:=zed e1 h hv2
        have hkeep:∀ f id,ids f = some id→atN h' id = atN st2h id:=fun f id hf=>(e3.2 id (k3 f id hf).2.2.1).2
        refine ⟨F',g1.gro,g1.fok,?_⟩
        simp only [ziQ]
        refine ⟨u,r,_,_,rfl,g2,zEU g1 (k1.heap hkeep) (hfs.ext g3),zEV g1 (fun f id hf=>?_) k5⟩
        obtain ⟨σ,k,xs,ho⟩:=(k3 f id hf).2.2.2
        exact ⟨σ,k,xs,by rw [hkeep f id hf]; exact ho⟩
      · cases hz
  ·
    split at hz
    · rename_i p hp
      cases hz
      obtain ⟨m',F',g1,g2,_⟩:=zed (x:=p.1) (st':=p.2) hp h hv
      exact ⟨F',g1.gro,g1.fok,g2⟩
    · cases hz
  · cases hz
theorem zHg (hm:P.follows .mixedOrders = true) (hE:EnvOk P G E) {fi:FuncId} {f:Func} (hf:P.funcs[fi]? = some f) {K md:Nat} {a r:Ty} {x:a.I} {y:r.I} (he:evF E K f md a r x = some y)
    {F0:FH} {w:World} {vs:List Value} (hG:G.le F0) (hk:F0.ok w) (hr:RepA P F0 a x vs) :
    Calls P fi vs.toArray w fun e w'=>∃ us F',e = .returned (zo9 us) ∧ Below w.heap.size w w' ∧ F0.grow F' w.heap.size ∧ F'.ok w' ∧ ziQ P F' w' w.heap.size md r y us:=by
  unfold evF at he
  cases hb:f.body with
  | none=>rw [hb] at he; cases he
  | some c =>
    rw [hb] at he
    simp only at he
    have hE':EnvOk P G { E with nt:=f.ntmps }:=⟨hE.types,hE.funs,hE.glob,hE.ext,hE.hnd⟩
    refine calls_of_wp hf hb ?_
    refine zET (nt:=⟨f.ntmps,[],F0⟩) (F0:=F0) (w0:=w) (.inr rfl) hm hE' hG rfl c (r:=y) ?_ ⟨_,F0,Rel.enter hk hr f.ntmps⟩ he
    rintro e st a' w' ⟨m,F,h⟩ hfin
    have hdone:(cond ((f.results.toList.map (zcF { E with nt:=f.ntmps } st)).all Option.isSome) (zFc md r ((f.results.toList.map (zcF { E with nt:=f.ntmps } st)).filterMap id) st) none) = some y →
        a'.defers = [] ∧ ∃ v,(results f a'.tmps).run P w' = .ok v w' ∧ ∃ us F',Ending.returned v = .returned (zo9 us) ∧ Below w.heap.size w w' ∧ F0.grow F' w.heap.size ∧ F'.ok w' ∧ ziQ P F' w' w.heap.size md r y us:=by
      intro hfin
      obtain ⟨h1,h2⟩:=za hfin
      obtain ⟨us,h3,h4⟩:=zt4 hE' h (zj6 h1)
      obtain ⟨F',g1,g2,g3⟩:=zHf h h4 h2
      exact ⟨h.dfr,_,h3,us,F',rfl,h.bel,g1,g2,g3⟩
    cases e with
    | normal=>exact hdone hfin
    | ret=>exact hdone hfin
    | exit id=>cases hfin
theorem jm.one {h:List Obj}:∀ {vs:List AV} {us:List Value},jm P h m F vs us→vs.all AV.one = true→zjk P h m F vs us
  | [],_,e,_=>e
  | v :: vs,_,⟨u,r,e,h1,h2⟩,ho=>by
    simp only [List.all_cons,Bool.and_eq_true] at ho
    rw [zh.eq1 (by rintro ws rfl; cases ho.1)] at h1
    exact ⟨u,r,e,h1,jm.one h2 ho.2⟩
theorem zwz:∀ {vs:List AV} {us:List Value} {h:List Obj} {m:MM} {F:FH} {i t:Nat} {v:AV},look (slots vs i) t = some v→jm P h m F vs us→i ≤ t ∧ ∃ u,us[t - i]? = some u ∧ zh P h m F v u
  | [],_,_,_,_,_,_,_,h,_=>by simp [slots,look] at h
  | x :: vs,_,hp,m,F,i,t,v,h,⟨u,r,rfl,h1,h2⟩=>by
    simp only [slots] at h
    by_cases e:i = t
    · subst e
      simp only [look,beq_self,cond_true,Option.some.injEq] at h
      subst h
      exact ⟨Nat.le_refl _,u,by simp,h1⟩
    · simp only [look,zaQ e,cond_false] at h
      obtain ⟨g1,u',g2,g3⟩:=zwz h h2
      refine ⟨by omega,u',?_,g3⟩
      rw [show t - i = (t - (i + 1)) + 1 by omega,List.getElem?_cons_succ]
      exact g2
theorem zIY (hm:P.follows .mixedOrders = true) (hE:EnvOk P G E) {fi:FuncId} {f:Func} (hf:P.funcs[fi]? = some f) (hn:(f.name == "runtime.NumGoroutine") = false) (hb':f.body.isNone = false):zJm P G fi (zJv E f):=by
  refine ⟨⟨f,hf,hn,hb'⟩,fun args h h' v he nt F0 w0 fr m F a w vs hG hr hv=>?_⟩
  change zpt E f (AV × List Obj) args h (fun v h=>some (v,h)) = some (v,h') at he
  unfold zpt at he
  cases hb:f.body with
  | none=>rw [hb] at he; cases he
  | some c =>
    rw [hb] at he
    simp only at he
    have hE':EnvOk P G (inE E f):=⟨hE.types,hE.funs,hE.glob,hE.ext,hE.hnd⟩
    refine calls_of_wp hf hb ?_
    let up:List (AV × Value):=fr.filterMap (fun p=>(look fr p.1).map fun v=>(v,a.tmps.getD p.1 undef)) ++ nt.up
    have hup:∀ v u,(v,u) ∈ up→zh P h m F v u:=by
      intro v u hv
      rcases List.mem_append.1 hv with hv | hv
      · obtain ⟨p,hp,e⟩:=List.mem_filterMap.1 hv
        obtain ⟨v',h1,h2⟩:=Option.map_eq_some_iff.1 e
        cases h2
        exact hr.fr _ _ h1
      · exact hr.up v u hv
    have hst:Rel P ⟨f.ntmps,up,F⟩ F0 w0 ⟨slots args 0,h⟩ m F { tmps:=vs.toArray ++ Array.replicate (f.ntmps - vs.toArray.size) undef,defers:=[] } w:=by
      refine ⟨by simp; omega,fun t v ht=>?_,hup,.refl F,hr.obs,hr.inj,hr.rng,hr.dok,hr.din,hr.fok,hr.gro,hr.bel,rfl⟩
      obtain ⟨_,u,h2,h3⟩:=zwz ht hv
      rw [Nat.sub_zero] at h2
      have hlt:=(List.getElem?_eq_some_iff.1 h2).1
      have:(vs.toArray ++ Array.replicate (f.ntmps - vs.toArray.size) undef).getD t undef = u:=by
        rw [Array.getD_eq_getD_getElem?,Array.getElem?_append_left (by simpa using hlt)]
        simp [h2]
      rw [this]
      exact h3
    refine zET (nt:=⟨f.ntmps,up,F⟩) (F0:=F0) (w0:=w0) (.inl rfl) hm hE' hG rfl c (r:=(v,h')) ?_ ⟨m,F,hst⟩ he
    rintro e st a' w' ⟨m',F',h2⟩ hfin
    have hdone:(cond ((f.results.toList.map (zcF (inE E f) st)).all Option.isSome && ((f.results.toList.map (zcF (inE E f) st)).filterMap id).all AV.one) (some (unT ((f.results.toList.map (zcF (inE E f) st)).filterMap id),st.h)) none) = some (v,h') →
        a'.defers = [] ∧ ∃ v1,(results f a'.tmps).run P w' = .ok v1 w' ∧ ∃ u m' F',Ending.returned v1 = .returned u ∧ F.le F' ∧ Rel P nt F0 w0 ⟨fr,h'⟩ m' F' a w' ∧ zh P h' m' F' v u:=by
      intro hfin
      obtain ⟨g1,g2⟩:=za hfin
      rw [Bool.and_eq_true] at g1
      cases g2
      obtain ⟨us,g3,g4⟩:=zt4 hE' h2 (zj6 g1.1)
      refine ⟨h2.dfr,_,g3,_,m',F',rfl,h2.lo,⟨hr.nt,fun t v ht=>?_,fun v u hv=>h2.up v u (List.mem_append.2 (.inr hv)),hr.lo.trans h2.lo,h2.obs,h2.inj,h2.rng,h2.dok,h2.din,h2.fok,h2.gro,h2.bel,hr.dfr⟩,zcQ (jm.one g4 g1.2)⟩
      have hmem:∀ (l:List (Nat × AV)),look l t = some v→∃ p ∈ l,p.1 = t:=by
        intro l
        induction l with
        | nil=>intro h; simp [look] at h
        | cons p l ih =>
          intro h
          obtain ⟨k,y⟩:=p
          simp only [look] at h
          cases hb:Nat.beq k t with
          | true=>exact ⟨(k,y),by simp,Nat.eq_of_beq_eq_true hb⟩
          | false=>rw [hb] at h; obtain ⟨p,hp,e⟩:=ih h; exact ⟨p,by simp [hp],e⟩
      obtain ⟨p,hp,rfl⟩:=hmem fr ht
      exact h2.up v _ (List.mem_append.2 (.inl (List.mem_filterMap.2 ⟨p,hp,by rw [ht]; rfl⟩)))
    cases e with
    | normal=>exact hdone hfin
    | ret=>exact hdone hfin
    | exit id=>cases hfin
end
end Go.Ev
end
section
namespace Go.Ev
open Go.RowKit Go.ChangeShapes
def InR:(τ:Ty)→τ.I→Prop
  | .int k,n=>(Lit.int k n).wf = true
  | .str,s=>ByteArray.size s ≤ maxLen
  | .pair a b,x=>InR a x.1 ∧ InR b x.2
  | .st a,x=>InR a x
  | .arr n a,xs=>List.length xs = n ∧ ∀ x ∈ (show List a.I from xs),InR a x
  | .sl a,xs=>List.length xs ≤ maxLen ∧ ∀ x ∈ (show List a.I from xs),InR a x
  | _,_=>True
def Ty.data:Ty→Bool
  | .bool | .int _ | .str | .unit=>true
  | .pair a b=>a.data && b.data
  | .st a=>a.data
  | .arr _ a=>a.data
  | .sl a=>a.data
  | _=>false
mutual
def dbk {H:Type}:DataW H→Nat
  | .slice elems _=>dbkAll elems + 1
  | .agg parts=>dbkAll parts + 1
  | _=>1
def dbkAll {H:Type}:List (DataW H)→Nat
  | []=>0
  | d :: r=>dbk d + dbkAll r
end
def bkI:(τ:Ty)→τ.I→Nat
  | .unit,_=>0
  | .pair a b,x=>bkI a x.1 + bkI b x.2
  | .st a,x=>bkI a x + 1
  | .arr _ a,xs=>(List.map (bkI a) xs).sum + 1
  | .sl a,xs=>(List.map (bkI a) xs).sum + 1
  | _,_=>1
theorem ztb {H:Type} (d:DataW H):1 ≤ dbk d:=by cases d <;> simp [dbk]
section
variable {P:Program} {H:Type} {enc:TypeId × Value→H} {w:World} {base:Nat} {sp:Nat→Bool} {held:Bool}
theorem zBV {a:Addr} {j:Nat} {v:Value} (h:w.cell? (a.add j) = some v) (h0:a.spot = none ∨ j = 0):a.spot = none ∧ ∃ c el fz,w.heap[a.block]? = some (.cells c el fz) ∧ c[a.off + j]? = some v:=by
  have hs:a.spot = none:=by
    rcases h0 with h0 | rfl
    · exact h0
    · have:a.add 0 = a:=by unfold Addr.add; rfl
      rw [this] at h
      unfold World.cell? at h
      split at h
      · cases hsp:a.spot with
        | none=>rfl
        | some x=>rw [hsp] at h; simp at h
      · cases h
  refine ⟨hs,?_⟩
  rw [zpd hs] at h
  unfold World.cell? at h
  simp only at h
  split at h
  · rename_i c el fz hk
    exact ⟨c,el,fz,hk,by simpa using h⟩
  · cases h
theorem zBW {a:Addr} {n:Nat} {cs:List Value} (h:w.cells? base a n = some cs) (hn:0 < n):∃ c,FH.of w a.block = some c ∧ a.spot = none ∧ ∀ (j:Nat) (v:Value),cs[j]? = some v→c[a.off + j]? = some v:=by
  obtain ⟨hb,hl,hc⟩:=World.cells?_some h
  have h0:=hc 0 hn
  rw [List.getElem?_eq_getElem (by omega)] at h0
  obtain ⟨hs,c,el,fz,hk,_⟩:=zBV h0 (.inr rfl)
  refine ⟨c,by simp [FH.of,hk],hs,fun j v hv=>?_⟩
  have hj:=(List.getElem?_eq_some_iff.1 hv).1
  have:=hc j (by omega)
  rw [hv] at this
  obtain ⟨_,c',_,_,hk',h2⟩:=zBV this (.inl hs)
  rw [hk] at hk'
  cases hk'
  exact h2
theorem zEW {ad:Addr} {n:Nat} (hn:0 < n) {c:Array Value} (hs:ad.spot = none) (hc:FH.of w ad.block = some c):∀ (m i0:Nat) (css:List (List Value)),((List.range' i0 m).mapM fun i=>w.cells? base (ad.add (i * n)) n) = some css →
    ∀ (j:Nat) (v:Value),css.flatten[j]? = some v→c[ad.off + i0 * n + j]? = some v
  | 0,i0,css,h,j,v,hj=>by simp at h; subst h; simp at hj
  | m + 1,i0,css,h,j,v,hj=>by
    rw [List.range'_succ,List.mapM_cons] at h
    simp only [Option.bind_eq_bind,Option.bind_eq_some_iff,Option.pure_def,Option.some.injEq] at h
    obtain ⟨cs,h1,css',h2,rfl⟩:=h
    have hl:=(World.cells?_some h1).2.1
    obtain ⟨c',h3,_,h5⟩:=zBW h1 hn
    rw [zpd hs] at h3 h5
    simp only at h3 h5
    rw [hc] at h3
    cases h3
    rw [List.flatten_cons] at hj
    by_cases hjn:j < n
    · rw [List.getElem?_append_left (by omega)] at hj
      exact h5 j v hj
    · rw [List.getElem?_append_right (by omega),hl] at hj
      have:=zEW hn hs hc m (i0 + 1) css' h2 (j - n) v hj
      rw [show ad.off + i0 * n + j = ad.off + (i0 + 1) * n + (j - n) by rw [Nat.add_mul]; omega]
      exact this
theorem zuO {α:Type} {R:α→List Value→Prop} {f:Nat→Option (List Value)} {g:List Value→Option (DataW H × List MemPlace)} {I:α→Prop} {bk:α→Nat} (hg:∀ cs y,g cs = some y→∃ x,R x cs ∧ I x ∧ bk x ≤ dbk y.1) :
    ∀ (l:List Nat) (ys:List (DataW H × List MemPlace)),(l.mapM fun i=>(f i).bind g) = some ys→∃ (xs:List α) (css:List (List Value)),xs.length = l.length ∧ l.mapM f = some css ∧ zu R xs css.flatten ∧ (∀ x ∈ xs,I x) ∧ (xs.map bk).sum ≤ dbkAll (ys.map (·.1))
  | [],ys,h=>⟨[],[],rfl,rfl,rfl,by simp,Nat.zero_le _⟩
  | i :: l,ys,h=>by
    rw [List.mapM_cons] at h
    simp only [Option.bind_eq_bind,Option.bind_eq_some_iff,Option.pure_def,Option.some.injEq] at h
    obtain ⟨y,⟨cs,hcs,hy⟩,ys',h2,rfl⟩:=h
    obtain ⟨x,hx,hI,hk⟩:=hg cs y hy
    obtain ⟨xs,css,h3,h4,h5,h6,h7⟩:=zuO hg l ys' h2
    refine ⟨x :: xs,cs :: css,by simp [h3],?_,⟨cs,css.flatten,rfl,hx,h5⟩,?_,by simp only [List.map_cons,List.sum_cons,dbkAll]; omega⟩
    · rw [List.mapM_cons,hcs,h4]; rfl
    · intro z hz
      rcases List.mem_cons.1 hz with rfl | hz
      · exact hI
      · exact h6 z hz
theorem zn7 {cs:List Value} {n:Nat}:∀ (m i0:Nat) (css:List (List Value)),(i0 + m) * n ≤ cs.length→((List.range' i0 m).mapM fun i=>some ((cs.drop (i * n)).take n)) = some css→css.flatten = (cs.drop (i0 * n)).take (m * n)
  | 0,i0,css,_,h=>by simp at h; subst h; simp
  | m + 1,i0,css,hl,h=>by
    rw [List.range'_succ,List.mapM_cons] at h
    simp only [Option.bind_eq_bind,Option.bind_some,Option.bind_eq_some_iff,Option.pure_def,Option.some.injEq] at h
    obtain ⟨css',h2,rfl⟩:=h
    have:=zn7 m (i0 + 1) css' (by rw [show i0 + 1 + m = i0 + (m + 1) by omega]; exact hl) h2
    rw [List.flatten_cons,this,Nat.add_mul i0 1 n,Nat.one_mul,← List.drop_drop,show (m + 1) * n = n + m * n by rw [Nat.add_mul]; omega,List.take_add]
theorem zIf:∀ (τ:Ty),τ.data = true →
    (∀ (fuel:Nat) (t:TypeId) (cs:List Value) (x:DataW H × List MemPlace),τ.np = true→zU P t τ→DataW.trod enc P w base sp held fuel t cs = some x→∃ y,Rep P (FH.of w) τ y cs ∧ InR τ y ∧ bkI τ y ≤ dbk x.1) ∧
    (∀ (fuel:Nat) (fs:List Field) (off:Nat) (cs:List Value) (xs:List (DataW H × List MemPlace)),(tyB P τ).2 fs off = true→(fs.mapM fun f=>DataW.trod enc P w base sp held fuel f.type ((cs.drop f.offset).take (P.cellsOf f.type))) = some xs→cs.length = off + nc τ→∃ y,Rep P (FH.of w) τ y (cs.drop off) ∧ InR τ y ∧ bkI τ y ≤ dbkAll (xs.map (·.1))):=by
  intro τ
  induction τ with
  | unit =>
    intro _
    refine ⟨fun fuel t cs x _ h=>(by cases h),fun fuel fs off cs xs h _ hl=>⟨(),?_,trivial,Nat.zero_le _⟩⟩
    show cs.drop off = []
    rw [List.drop_eq_nil_iff]
    simp only [nc] at hl
    omega
  | bool =>
    intro _
    refine ⟨fun fuel t cs x _ h hx=>?_,fun fuel fs off cs xs h=>(by cases h)⟩
    have hu:P.underlying t = some .bool:=by
      simp only [zU,tyB,Bool.and_eq_true] at h
      have:=h.2
      split at this
      · assumption
      · cases this
    cases fuel with
    | zero=>simp [DataW.trod] at hx
    | succ fuel =>
      unfold DataW.trod at hx
      rw [hu] at hx
      split at hx <;> first | (cases hx; done) | skip
      all_goals first | exact ⟨_,rfl,trivial,ztb _⟩ | (rename_i hh; simp at hh)
  | int k =>
    intro _
    refine ⟨fun fuel t cs x _ h hx=>?_,fun fuel fs off cs xs h=>(by cases h)⟩
    have hu:P.underlying t = some (.int k):=by
      simp only [zU,tyB,Bool.and_eq_true] at h
      have:=h.2
      split at this
      · simp only [decide_eq_true_eq] at this; subst this; assumption
      · cases this
    cases fuel with
    | zero=>simp [DataW.trod] at hx
    | succ fuel =>
      unfold DataW.trod at hx
      rw [hu] at hx
      split at hx <;> first | (cases hx; done) | skip
      · rename_i hh; cases hh
      · rename_i k1 k2 n hh
        cases hh
        split at hx
        · rename_i hc; obtain ⟨rfl,hw⟩:=hc; exact ⟨n,rfl,hw,ztb _⟩
        · cases hx
      all_goals (rename_i hh; simp at hh)
  | str =>
    intro _
    refine ⟨fun fuel t cs x _ h hx=>?_,fun fuel fs off cs xs h=>(by cases h)⟩
    have hu:P.underlying t = some .string:=by
      simp only [zU,tyB,Bool.and_eq_true] at h
      have:=h.2
      split at this
      · assumption
      · cases this
    cases fuel with
    | zero=>simp [DataW.trod] at hx
    | succ fuel =>
      unfold DataW.trod at hx
      rw [hu] at hx
      split at hx <;> first | (cases hx; done) | skip
      all_goals first
        | (rename_i hh; simp at hh; done)
        | (rename_i s hh; split at hx; · rename_i hc; exact ⟨s,rfl,hc,ztb _⟩
           · cases hx)
        | skip
  | pair a b iha ihb =>
    intro hd
    simp only [Ty.data,Bool.and_eq_true] at hd
    refine ⟨fun fuel t cs x _ h hx=>?_,fun fuel fs off cs xs h hx hl=>?_⟩
    · rename_i hnp; cases hnp
    · cases fs with
      | nil=>cases h
      | cons f fs =>
        simp only [tyB,Bool.and_eq_true] at h
        obtain ⟨⟨⟨⟨h1,h2⟩,h3⟩,_⟩,h4⟩:=h
        obtain rfl:=Nat.eq_of_beq_eq_true h1
        obtain ⟨i,hi,hsz⟩:=zU.size h2 (Ty.np_spec h3.2)
        rw [List.mapM_cons] at hx
        simp only [Option.bind_eq_bind,Option.bind_eq_some_iff,Option.pure_def,Option.some.injEq] at hx
        obtain ⟨x1,hx1,xs2,hx2,rfl⟩:=hx
        have hcells:P.cellsOf f.type = nc a:=by unfold Program.cellsOf; rw [hi]; exact hsz
        rw [hcells] at hx1
        obtain ⟨y1,g1,g2,b1⟩:=(iha hd.1).1 fuel f.type _ x1 h3.2 h2 hx1
        simp only [nc] at hl
        obtain ⟨y2,g3,g4,b2⟩:=(ihb hd.2).2 fuel fs (f.offset + nc a) cs xs2 h4 hx2 (by omega)
        refine ⟨(y1,y2),⟨_,_,?_,g1,g3⟩,⟨g2,g4⟩,by simp only [bkI,List.map_cons,dbkAll]; omega⟩
        rw [← List.drop_drop,List.take_append_drop]
  | st a iha =>
    intro hd
    refine ⟨fun fuel t cs x _ h hx=>?_,fun fuel fs off cs xs h=>(by cases h)⟩
    obtain ⟨fs,hu,hf,_⟩:=zU.st h
    obtain ⟨i,hi,hsz⟩:=zU.size h (by intro a b e; cases e)
    have hcells:P.cellsOf t = nc a:=by unfold Program.cellsOf; rw [hi]; exact hsz
    cases fuel with
    | zero=>simp [DataW.trod] at hx
    | succ fuel =>
      unfold DataW.trod at hx
      rw [hu] at hx
      simp only at hx
      split at hx
      · rename_i hl
        simp only [Option.map_eq_some_iff] at hx
        obtain ⟨xs,hx,rfl⟩:=hx
        obtain ⟨y,g1,g2,b1⟩:=(iha hd).2 fuel fs.toList 0 cs xs hf hx (by omega)
        exact ⟨y,g1,g2,by simp only [bkI,dbk]; omega⟩
      · cases hx
  | arr n a iha =>
    intro hd
    refine ⟨fun fuel t cs x _ h hx=>?_,fun fuel fs off cs xs h=>(by cases h)⟩
    obtain ⟨e,hu,he,hpos,hnp,_⟩:=zU.arr h
    obtain ⟨i,hi,hsz⟩:=zU.size h (by intro a b e; cases e)
    obtain ⟨ie,hie,hsze⟩:=zU.size he (Ty.np_spec hnp)
    have hcells:P.cellsOf t = n * nc a:=by unfold Program.cellsOf; rw [hi]; exact hsz
    have hcellse:P.cellsOf e = nc a:=by unfold Program.cellsOf; rw [hie]; exact hsze
    cases fuel with
    | zero=>simp [DataW.trod] at hx
    | succ fuel =>
      unfold DataW.trod at hx
      rw [hu] at hx
      simp only at hx
      split at hx
      · rename_i hl
        simp only [Option.map_eq_some_iff] at hx
        obtain ⟨xs,hx,rfl⟩:=hx
        rw [hcellse] at hx
        obtain ⟨ys,css,h1,h2,h3,h4,h5⟩:=zuO (bk:=bkI a) (f:=fun i=>some ((cs.drop (i * nc a)).take (nc a))) (g:=DataW.trod enc P w base sp held fuel e) (R:=Rep P (FH.of w) a) (I:=InR a) (fun cs y hy=>(iha hd).1 fuel e cs y hnp he hy) (List.range n) xs hx
        rw [List.range_eq_range'] at h2
        have:=zn7 n 0 css (by rw [Nat.zero_add]; omega) h2
        rw [this] at h3
        simp only [Nat.zero_mul,List.drop_zero] at h3
        rw [List.take_of_length_le (by omega)] at h3
        refine ⟨ys,⟨by simpa using h1,h3⟩,⟨by simpa using h1,h4⟩,by simp only [bkI,dbk]; omega⟩
      · cases hx
  | sl a iha =>
    intro hd
    refine ⟨fun fuel t cs x _ h hx=>?_,fun fuel fs off cs xs h=>(by cases h)⟩
    obtain ⟨e,hu,he,hpos,hnp⟩:=zU.sl h
    obtain ⟨ie,hie,hsze⟩:=zU.size he (Ty.np_spec hnp)
    have hcellse:P.cellsOf e = nc a:=by unfold Program.cellsOf; rw [hie]; exact hsze
    cases fuel with
    | zero=>simp [DataW.trod] at hx
    | succ fuel =>
      unfold DataW.trod at hx
      rw [hu] at hx
      split at hx <;> first | (cases hx; done) | skip
      all_goals first
        | (rename_i hh; cases hh; done)
        | exact ⟨[],⟨_,0,rfl,Nat.le_refl _,fun hne=>absurd rfl hne⟩,⟨Nat.zero_le _,fun x hx=>(by cases hx)⟩,ztb _⟩
        | skip
      rename_i e' ad len cap heq
      simp only [Option.some.injEq,TypeDesc.slice.injEq] at heq
      subst heq
      simp only at hx
      split at hx
      · rename_i hc
        simp only [Option.bind_eq_some_iff] at hx
        obtain ⟨elems,hx,hx2⟩:=hx
        rw [hcellse] at hx
        obtain ⟨ys,css,h1,h2,h3,h4,h5⟩:=zuO (bk:=bkI a) (f:=fun i=>w.cells? base (ad.add (i * nc a)) (nc a)) (g:=DataW.trod enc P w base sp held fuel e) (R:=Rep P (FH.of w) a) (I:=InR a) (fun cs y hy=>(iha hd).1 fuel e cs y hnp he hy) (List.range len) elems hx
        rw [List.length_range] at h1
        refine ⟨ys,⟨some ad,cap,by rw [h1],by rw [h1]; exact hc.2.1,fun hne=>?_⟩,⟨(show ys.length ≤ maxLen by omega),h4⟩,?_⟩
        rotate_left
        · obtain ⟨rest,-,rfl⟩:=Option.map_eq_some_iff.1 hx2
          simp only [bkI,dbk]; omega
        have hlen:0 < len:=by
          rw [← h1]
          exact List.length_pos_iff.2 hne
        rw [List.range_eq_range'] at h2
        obtain ⟨m,rfl⟩:∃ m,len = m + 1:=⟨len - 1,by omega⟩
        have h2':=h2
        rw [List.range'_succ,List.mapM_cons] at h2'
        simp only [Option.bind_eq_bind,Option.bind_eq_some_iff,Option.pure_def,Option.some.injEq] at h2'
        obtain ⟨cs0,g1,_⟩:=h2'
        rw [Nat.zero_mul,show ad.add 0 = ad from rfl] at g1
        obtain ⟨c,g2,g3,g4⟩:=zBW g1 hpos
        refine ⟨ad,css.flatten,rfl,⟨g3,c,g2,fun j v hv=>?_⟩,h3⟩
        have:=zEW hpos g3 g2 (m + 1) 0 css h2 j v hv
        simpa using this
      · cases hx
  | ptr a=>intro hd; cases hd
  | fn a b=>intro hd; cases hd
def tyL (P:Program):Ty→List TypeId→Bool
  | .unit,[]=>true
  | .pair a b,t :: ts=>(tyB P a).1 t && a.np && a.data && tyL P b ts
  | _,_=>false
theorem zt5:∀ {τ:Ty} {ts:List TypeId} {vs:List Value} {ds:List (DataW H)} {ps:List MemPlace},tyL P τ ts = true→DataW.TrodAll enc P w base sp held ts vs ds ps→(∀ (j:Nat) (t:TypeId) (v:Value),ts[j]? = some t→vs[j]? = some v→∃ W r b,Value.okWide P W r b t v) →
    ∃ x,RepA P (FH.of w) τ x vs ∧ InR τ x ∧ bkI τ x ≤ dbkAll ds
  | .unit,[],[],[],ps,_,_,_=>⟨(),rfl,trivial,Nat.zero_le _⟩
  | .pair a b,t :: ts,v :: vs,d :: ds,ps,h,hr,hf=>by
    simp only [tyL,Bool.and_eq_true] at h
    obtain ⟨⟨⟨h1,h2⟩,h3⟩,h4⟩:=h
    obtain ⟨p,q,⟨fuel,h5⟩,h6,_⟩:=hr
    obtain ⟨y,g1,g2,b1⟩:=(zIf a h3).1 fuel t v.cells.toList (d,p) h2 h1 h5
    obtain ⟨x,g3,g4,b2⟩:=zt5 h4 h6 fun j t v ht hv=>hf (j + 1) t v (by simpa using ht) (by simpa using hv)
    refine ⟨(y,x),⟨v,vs,rfl,g1,?_,g3⟩,⟨g2,g4⟩,by simp only [bkI,dbkAll]; exact Nat.add_le_add b1 b2⟩
    obtain ⟨W,r,b0,hform⟩:=hf 0 t v rfl rfl
    obtain ⟨de,hu,hagg⟩:=zU.isAgg h1
    unfold Value.okWide at hform
    rw [hu] at hform
    rw [← hagg]
    have hno:∀ cs,v = .agg cs→Cell.okWide P W r b0 t v→(match de with | .struct _ | .array _ _=>true | _=>false) = false→False:=by
      rintro cs rfl hc hde
      unfold Cell.okWide at hc
      rw [hu] at hc
      cases de <;> simp [Cell.ok,hu] at hc hde
    cases de <;> simp only at hform hno ⊢
    case struct=>obtain ⟨cs,rfl,_⟩:=hform; rfl
    case array=>obtain ⟨cs,rfl,_⟩:=hform; rfl
    all_goals (cases v <;> first | rfl | exact (hno _ rfl hform trivial).elim)
  | .unit,[],[],_ :: _,_,_,h,_=>h.elim
  | .unit,[],_ :: _,_,_,_,h,_=>(by cases h)
  | .unit,_ :: _,_,_,_,h,_,_=>(by cases h)
  | .pair _ _,[],_,_,_,h,_,_=>(by cases h)
  | .pair _ _,_ :: _,[],_,_,_,h,_=>(by cases h)
  | .pair _ _,_ :: _,_ :: _,[],_,_,h,_=>(by cases h)
  | .bool,_,_,_,_,h,_,_=>(by cases h)
  | .int _,_,_,_,_,h,_,_=>(by cases h)
  | .str,_,_,_,_,h,_,_=>(by cases h)
  | .st _,_,_,_,_,h,_,_=>(by cases h)
  | .arr _ _,_,_,_,_,h,_,_=>(by cases h)
  | .sl _,_,_,_,_,h,_,_=>(by cases h)
  | .ptr _,_,_,_,_,h,_,_=>(by cases h)
  | .fn _ _,_,_,_,_,h,_,_=>(by cases h)
theorem zp8 {W W':World} (hl:laidOutB P = true) (hb:Below W.heap.size W W'):∀ {ts:List TypeId} {vs:List Value} {ds:List (DataW H)} {ps:List MemPlace},
    (∀ t ∈ ts,P.readableRec t = true ∧ t < P.types.size)→DataW.TrodAll enc P W 0 (fun _=>true) true ts vs ds ps→(∀ x ∈ ps,x.block < W.heap.size)→∀ s:Nat→Bool,(∀ p ∈ ps,s p.block = true)→DataW.TrodAll enc P W' 0 s true ts vs ds ps
  | [],[],[],ps,_,h,_,s,_=>h
  | t :: ts,v :: vs,d :: ds,ps,ht,⟨p,q,h1,h2,e⟩,hlt,s,hs=>by
    subst e
    have h0:=ht t (by simp)
    refine ⟨p,q,?_,zp8 hl hb (fun t' h'=>ht t' (by simp [h'])) h2 (fun x hx=>hlt x (by simp [hx])) s (fun x hx=>hs x (by simp [hx])),rfl⟩
    exact WideElems.Trod_stays hl h0.1 h0.2 h1 (fun x hx=>hb.same (hlt x (by simp [hx]))) (fun x hx=>hs x (by simp [hx]))
  | [],[],_ :: _,_,_,h,_,_,_=>h.elim
  | [],_ :: _,_,_,_,h,_,_,_=>h.elim
  | _ :: _,[],_,_,_,h,_,_,_=>h.elim
  | _ :: _,_ :: _,[],_,_,h,_,_,_=>h.elim
end
section
variable {P:Program} {H:Type} {enc:TypeId × Value→H}
theorem law_contract {fi:FuncId} {f:Func} {a:Ty} {tb:TypeId} {spec:ChangeSpec} {W:World} {base:Nat} {args:Array Value} {ds gs:List (DataW H)} {before:List MemPlace}
    (hl:laidOutB P = true) (hts:∀ t ∈ f.params.toList,P.readableRec t = true ∧ t < P.types.size) (hty:tyL P a f.params.toList = true) (hres:f.resultTypes = #[tb]) (hbool:P.underlying tb = some .bool) (hvars:spec.vars = [])
    (hfn:∀ ds:List (DataW H),ds.length = f.params.size→spec.fn H ds = { results:=[.lit (.bool true)],args:=ds })
    (hval:∀ (j:Nat) t v,f.params[j]? = some t→args[j]? = some v→Value.okWide P W .any base t v)
    (hW:DataW.Whole enc P f.params.toList spec.vars false W args.toList ds gs before)
    (hcall:∀ x,InR a x→bkI a x ≤ dbkAll ds→RepA P (FH.of W) a x args.toList→Calls P fi args W fun e W'=>e = .returned (.bool true) ∧ Below W.heap.size W W') :
    Calls P fi args W fun e W'=>∃ v,e = .returned v ∧ spec.post enc P f false true false false W args v W':=by
  have hW':=hW
  obtain ⟨p,q,hA,hV,rfl,hfz,hnd⟩:=hW
  rw [hvars] at hV
  obtain ⟨rfl,rfl⟩:=trodVars_none hV
  have hlt:∀ x ∈ p,x.block < W.heap.size:=fun x hx=>by simpa using hW'.lt x (by simp [hx])
  obtain ⟨x,hx,hin,hbk⟩:=zt5 (w:=W) hty hA fun j t v ht hv=>⟨W,.any,base,hval j t v (by rw [← Array.getElem?_toList]; exact ht) (by rw [← Array.getElem?_toList]; exact hv)⟩
  have hlen:∀ {ts:List TypeId} {vs:List Value} {ds:List (DataW H)} {ps:List MemPlace},DataW.TrodAll enc P W 0 (fun _=>true) true ts vs ds ps→ds.length = ts.length:=by
    intro ts
    induction ts with
    | nil=>intro vs ds ps h; cases vs <;> cases ds <;> first | rfl | exact h.elim
    | cons t ts ih=>intro vs ds ps h; cases vs <;> cases ds <;> first | exact h.elim | (obtain ⟨_,_,_,h2,_⟩:=h; simp [ih h2])
  have hfn':=hfn ds (by rw [hlen hA]; simp)
  refine (hcall x hin hbk hx).mono fun e W' ⟨he,hb⟩=>?_
  subst he
  simp only [List.append_nil] at *
  refine ⟨_,rfl,ds,[],p,[],p,[],hW',?_,?_,?_,hb.frame _,fun h=>(by cases h)⟩
  · rw [List.append_nil,hfn',hres]
    exact trodAll_cons_mk (shut_bool hbool _) trodAll_mk0
  · rw [List.append_nil,hfn']
    exact zp8 hl hb hts hA hlt _ (fun x hx=>by simpa using hlt x hx)
  · rw [List.append_nil,hfn',hvars]
    rfl
end
end Go.Ev
end
section
namespace Go.Ev
open Go.RowKit
section
variable {P:Program} {G:FH} {E:Env}
theorem zld.mk (hm:P.follows .mixedOrders = true) (hE:EnvOk P G E) {fi:FuncId} {f:Func} (hf:P.funcs[fi]? = some f) (hn:(f.name == "runtime.NumGoroutine") = false) (hb:f.body.isNone = false)
    {F:Fun} (h:∀ x y,F.spec x = some y→∃ K,evF E K f F.md F.a F.r x = some y):zld P G fi F:=by
  refine ⟨⟨f,hf,hn,hb⟩,fun x y hy F0 w vs hG hk hr=>?_⟩
  obtain ⟨K,he⟩:=h x y hy
  exact zHg hm hE hf he hG hk hr
theorem EnvOk.nil {types:TT} {nt:Nat} {dp:Bool} (ht:types.all (fun k τ=>(tyB P τ).1 k) = true) {glob:List (Nat × AV)} (hg:∀ g v,look glob g = some v→∃ τ x cs,v = .dat (.ptr τ) (some x) ∧ At G ⟨g,0,none⟩ cs ∧ Rep P G τ x cs) {ext:List (Nat × Bool)} {jn:List Nat} (hx:∀ f add,look ext f = some add→ExtOk P f add):EnvOk P G ⟨types,[],glob,nt,dp,ext,jn,fun _=>none,false,false⟩ :=
  ⟨fun t τ h=>TT.all_look ht h,fun f F h=>by simp [look] at h,hg,hx,fun f H h=>by cases h⟩
theorem EnvOk.deep (hE:EnvOk P G E) (d:Bool):EnvOk P G { E with deep:=d }:=⟨hE.types,hE.funs,hE.glob,hE.ext,hE.hnd⟩
theorem EnvOk.cons (hE:EnvOk P G E) {fi:FuncId} {F:Fun} (h:zld P G fi F):EnvOk P G { E with funs:=(fi,F) :: E.funs }:=by
  refine ⟨hE.types,fun f F' h'=>?_,hE.glob,hE.ext,hE.hnd⟩
  simp only [look] at h'
  cases hb:Nat.beq fi f with
  | true =>
    rw [hb] at h'
    simp only [cond_true,Option.some.injEq] at h'
    subst h'
    rw [← Nat.eq_of_beq_eq_true hb]
    exact h
  | false=>rw [hb] at h'; exact hE.funs f F' h'
end
end Go.Ev
end
section
namespace Go.Ev
theorem zBX {n:Nat} (h:n ≤ Go.maxLen):IntKind.wrap .i64 (n:Int) = (n:Int):=by
  unfold Go.maxLen at h
  exact IntWalk.i64_in _ (by omega)
def qR {α:Type} (p:α→Bool):List α→Int→Int
  | [],_=>-1
  | x :: xs,i=>cond (p x) i (qR p xs (i + 1))
theorem zuP {α:Type} {p:α→Bool}:∀ (xs:List α) (i:Int),0 ≤ i→decide (qR p xs i ≥ 0) = xs.any p
  | [],_,_=>rfl
  | x :: xs,i,h=>by
    have ih:=zuP (p:=p) xs (i + 1) (by omega)
    simp only [qR,List.any_cons]
    by_cases hp:p x = true
    · simp [hp,h]
    · simp only [Bool.not_eq_true] at hp
      simp only [hp,cond_false,Bool.false_or]
      exact ih
end Go.Ev
end
section
namespace Go.Ev
theorem zwA {i len:Nat} (h:i < len) (hl:len ≤ Go.maxLen):IntKind.wrap .i64 ((i:Int) + 1) = (i:Int) + 1:=by
  rw [show (i:Int) + 1 = ((i + 1:Nat):Int) by omega]
  exact zBX (by omega)
theorem vW {α:Type} {l:List α} {i:Nat} (d:α) (h:i < l.length):l.drop i = l.getD i d :: l.drop (i + 1):=by
  rw [List.drop_eq_getElem_cons h]
  simp [List.getD,h]
theorem zIg {σ ρ:Type} {L:Nat→Int→σ→Option ρ} {len:Nat} (hl:len ≤ Go.maxLen) (F:Nat→σ→Option ρ) (I:Nat→σ→Prop)
    (hstep:∀ n i s,i < len→I i s→(∀ s',I (i + 1) s'→L n ((i:Int) + 1) s' = F (i + 1) s')→L (n + 1) (i:Int) s = F i s)
    (hend:∀ n s,I len s→L (n + 1) (len:Int) s = F len s) :
    ∀ (k i n:Nat) (s:σ),i + k = len→k < n→I i s→L n (i:Int) s = F i s:=by
  intro k
  induction k with
  | zero =>
    intro i n s hi hn hI
    obtain ⟨m,rfl⟩:∃ m,n = m + 1:=⟨n - 1,by omega⟩
    obtain rfl:i = len:=by omega
    exact hend m s hI
  | succ k ih =>
    intro i n s hi hn hI
    obtain ⟨m,rfl⟩:∃ m,n = m + 1:=⟨n - 1,by omega⟩
    refine hstep m i s (by omega) hI fun s' hI'=>?_
    have:=ih (i + 1) m s' (by omega) (by omega) hI'
    rw [show (i:Int) + 1 = ((i + 1:Nat):Int) by omega]
    exact this
theorem zHh {σ ρ:Type} {L:Nat→Int→σ→Option ρ} {len:Nat} (hl:len ≤ Go.maxLen) (F:Nat→σ→Option ρ) (I:Nat→σ→Prop)
    (hstep:∀ n i s,i < len→I i s→(∀ s',I (i + 1) s'→L n ((i:Int) + 1) s' = F (i + 1) s')→L (n + 1) (i:Int) s = F i s)
    (hend:∀ n s,I len s→L (n + 1) (len:Int) s = F len s) (n:Nat) (hn:len < n) (s:σ) (h0:I 0 s):L n 0 s = F 0 s :=
  zIg hl F I hstep hend len 0 n s (by omega) hn h0
end Go.Ev
end
section
namespace Go.Ev
abbrev Fnc (A R:Ty):Type:=A.I→Option R.I
def zm {σ ρ:Type} (B:(σ→Option ρ)→σ→Option ρ):Nat→σ→Option ρ
  | 0,_=>none
  | n + 1,s=>B (zm B n) s
noncomputable def evV {σ:Type} (E:Env) (K:Nat) (f:Func) (md:Nat) (R:Ty) (p ns:List Nat) (S:σ→St) (n:Nat):σ→Option R.I:=fun s=>evL E K f md R p ns n (S s)
theorem zBY {E:Env} {K:Nat} {f:Func} {md:Nat} {R:Ty} {p ns:List Nat} {st:St}:evL E K f md R p ns 0 st = none:=by
  unfold evL
  split
  · split <;> rfl
  · rfl
theorem zv {σ:Type} {E:Env} {K:Nat} {f:Func} {md:Nat} {R:Ty} {p ns:List Nat} {S:σ→St} {B:(σ→Option R.I)→σ→Option R.I}
    (h:∀ n s,evV E K f md R p ns S (n + 1) s = B (evV E K f md R p ns S n) s):∀ n,evV E K f md R p ns S n = zm B n
  | 0=>by funext s; exact zBY
  | n + 1=>by funext s; rw [h,zv h n]; rfl
theorem zeG {σ τ:Type} {E:Env} {K:Nat} {f:Func} {md:Nat} {R:Ty} {p ns:List Nat} {S:σ→St} {B:(τ→Option R.I)→(σ→Option R.I)→σ→Option R.I} {V1:Nat→τ→Option R.I} {W1:(σ→Option R.I)→τ→Option R.I}
    (h1:∀ n,V1 n = W1 (evV E K f md R p ns S n)) (h:∀ n s,evV E K f md R p ns S (n + 1) s = B (V1 n) (evV E K f md R p ns S n) s):∀ n,evV E K f md R p ns S n = zm (fun k=>B (W1 k) k) n :=
  zv fun n s=>by rw [← h1]; exact h n s
def zwB {σ τ ρ:Type} (B0:(τ→Option ρ)→σ→Option ρ) (B1:(τ→Option ρ)→τ→Option ρ):Nat→σ→Option ρ
  | 0,_=>none
  | n + 1,s=>B0 (zm B1 n) s
theorem zHi {σ τ:Type} {E:Env} {K:Nat} {f:Func} {md:Nat} {R:Ty} {p ns:List Nat} {S0:σ→St} {S1:τ→St} {B0:(τ→Option R.I)→σ→Option R.I} {B1:(τ→Option R.I)→τ→Option R.I}
    (h1:∀ n,evV E K f md R p ns S1 n = zm B1 n) (h:∀ n s,evV E K f md R p ns S0 (n + 1) s = B0 (evV E K f md R p ns S1 n) s):∀ n,evV E K f md R p ns S0 n = zwB B0 B1 n
  | 0=>by funext s; exact zBY
  | n + 1=>by funext s; rw [h,h1]; rfl
theorem tr1 {α X Y:Type} {T:α→X→Y} {V W:α} (h:V = W) {F:X→Y} (hx:∀ x,F x = T V x):F = T W:=by subst h; funext x; exact hx x
def En (E:Env) (d:Bool) (l:List Fun):Env:=⟨E.types,l.map fun F=>(F.id,F),E.glob,0,d,E.ext,[],fun _=>none,false,false⟩
def Ej (E:Env) (d:Bool) (js:List Nat) (l:List Fun):Env:=⟨E.types,l.map fun F=>(F.id,F),E.glob,0,d,E.ext,js,fun _=>none,false,js.any (Nat.beq 999999)⟩
def Sd (P:Program) (E:Env) (F:Fun):Prop:=∀ G,EnvOk P G E→zld P G F.id F
def Sds (P:Program) (E:Env):List Fun→Prop
  | []=>True
  | F :: l=>Sd P E F ∧ Sds P E l
def qW (f:Func):Bool:=!(f.name == "runtime.NumGoroutine") && !f.body.isNone
theorem Sds.env {P:Program} {E:Env} {l:List Fun} {d:Bool} {G:FH} (h:Sds P E l) (hE:EnvOk P G E):EnvOk P G (En E d l):=by
  refine ⟨hE.types,?_,hE.glob,hE.ext,fun f H h=>by cases h⟩
  intro f F hf
  have key:∀ l:List Fun,Sds P E l→look (l.map fun F=>(F.id,F)) f = some F→zld P G f F:=by
    intro l
    induction l with
    | nil=>intro _ h; cases h
    | cons F' l ih =>
      intro hs hl
      simp only [List.map_cons,look] at hl
      cases hb:Nat.beq F'.id f with
      | true =>
        rw [hb] at hl
        cases hl
        rw [← Nat.eq_of_beq_eq_true hb]
        exact hs.1 G hE
      | false=>rw [hb] at hl; exact ih hs.2 hl
  exact key l h hf
theorem Sds.envJ {P:Program} {E:Env} {l:List Fun} {d:Bool} {js:List Nat} {G:FH} (h:Sds P E l) (hE:EnvOk P G E):EnvOk P G (Ej E d js l) :=
  have h':=h.env (d:=d) hE
  ⟨h'.types,h'.funs,h'.glob,h'.ext,fun f H h=>by cases h⟩
theorem Sd.mkJ {P:Program} {E:Env} {l:List Fun} {d:Bool} {js:List Nat} {F:Fun} {f:Func} {K:Nat} (hm:P.follows .mixedOrders = true) (hl:Sds P E l) (hf:P.funcs[F.id]? = some f) (ho:qW f = true)
    (h:evF (Ej E d js l) K f F.md F.a F.r = F.spec):Sd P E F:=by
  intro G hE
  unfold qW at ho
  simp only [Bool.and_eq_true,Bool.not_eq_true'] at ho
  exact zld.mk hm (hl.envJ hE) hf ho.1 ho.2 fun x y hy=>⟨K,by rw [h]; exact hy⟩
theorem Sd.mk {P:Program} {E:Env} {l:List Fun} {d:Bool} {F:Fun} {f:Func} {K:Nat} (hm:P.follows .mixedOrders = true) (hl:Sds P E l) (hf:P.funcs[F.id]? = some f) (ho:qW f = true)
    (h:evF (En E d l) K f F.md F.a F.r = F.spec):Sd P E F:=by
  intro G hE
  unfold qW at ho
  simp only [Bool.and_eq_true,Bool.not_eq_true'] at ho
  exact zld.mk hm (hl.env hE) hf ho.1 ho.2 fun x y hy=>⟨K,by rw [h]; exact hy⟩
def FOk (P:Program):List (Nat × Func)→Prop
  | []=>True
  | p :: l=>(P.funcs[p.1]? = some p.2 ∧ qW p.2 = true) ∧ FOk P l
theorem FOk.look {P:Program}:∀ {l:List (Nat × Func)} {i:Nat} {f:Func},FOk P l→look l i = some f→P.funcs[i]? = some f ∧ qW f = true
  | (j,g) :: l,i,f,h,hl=>by
    simp only [Go.Ev.look] at hl
    cases hb:Nat.beq j i with
    | true=>rw [hb] at hl; cases hl; rw [← Nat.eq_of_beq_eq_true hb]; exact h.1
    | false=>rw [hb] at hl; exact FOk.look h.2 hl
theorem EnvOk.inl {P:Program} {G:FH} {E:Env} (hm:P.follows .mixedOrders = true) (hE:EnvOk P G E) {fs:List (Nat × Func)} (hfs:FOk P fs):∀ d,EnvOk P G (E.inl fs d)
  | 0=>hE
  | d + 1=>⟨hE.types,hE.funs,hE.glob,hE.ext,fun i H h=>by
    obtain ⟨fn,h1,rfl⟩:=Option.map_eq_some_iff.1 h
    obtain ⟨h2,h3⟩:=hfs.look h1
    unfold qW at h3
    simp only [Bool.and_eq_true,Bool.not_eq_true'] at h3
    exact zIY hm (EnvOk.inl hm hE hfs d) h2 h3.1 h3.2⟩
theorem Sd.mkI {P:Program} {E:Env} {l:List Fun} {d:Bool} {js:List Nat} {fs:List (Nat × Func)} {n:Nat} {F:Fun} {f:Func} {K:Nat} (hm:P.follows .mixedOrders = true) (hl:Sds P E l) (hfs:FOk P fs) (hf:P.funcs[F.id]? = some f) (ho:qW f = true)
    (h:evF ((Ej E d js l).inl fs n) K f F.md F.a F.r = F.spec):Sd P E F:=by
  intro G hE
  unfold qW at ho
  simp only [Bool.and_eq_true,Bool.not_eq_true'] at ho
  exact zld.mk hm ((hl.envJ hE).inl hm hfs n) hf ho.1 ho.2 fun x y hy=>⟨K,by rw [h]; exact hy⟩
@[reducible] def ch:List Ty→Ty
  | []=>.unit
  | a :: l=>.pair a (ch l)
abbrev u0 {a0 a1:Type} (x:a0 × a1) (v:a0):a0 × a1:=(v,x.2)
abbrev u1 {a0 a1 a2:Type} (x:a0 × a1 × a2) (v:a1):a0 × a1 × a2:=(x.1,v,x.2.2)
abbrev u2 {a0 a1 a2 a3:Type} (x:a0 × a1 × a2 × a3) (v:a2):a0 × a1 × a2 × a3:=(x.1,x.2.1,v,x.2.2.2)
def inR {ρ:Type} (i n:Int) (x:Option ρ):Option ρ:=cond (decide (0 ≤ i)) (cond (decide (i < n)) x none) none
theorem zHj {ρ:Type} {i n:Int} {x:Option ρ} (h0:0 ≤ i) (h1:i < n):inR i n x = x:=by unfold inR; rw [decide_eq_true h0,decide_eq_true h1]; rfl
abbrev ix {α:Type} (d:α) (l:List α) (i:Int):α:=List.getD l (Int.toNat i) d
def K0:Nat:=Go.maxLen + 2
theorem zA6 {n:Nat} (h:n ≤ Go.maxLen):n < K0:=by unfold K0; omega
abbrev tI:Ty:=.int .i64
abbrev tU:Ty:=.int .u64
abbrev wI (n:Int):Int:=IntKind.wrap .i64 n
abbrev wU (n:Int):Int:=IntKind.wrap .u64 n
end Go.Ev
end
section
namespace Go.Ev
theorem ve {σ α ρ:Type} {B:(σ→Option ρ)→σ→Option ρ} {len:Nat} (hl:len ≤ Go.maxLen) (st:Int→α→σ) (F:Nat→α→Option ρ) (I:Nat→α→Prop)
    (hstep:∀ k (i:Nat) s,i < len→I i s→(∀ s',I (i + 1) s'→k (st (wI (i + 1)) s') = F (i + 1) s')→B k (st i s) = F i s)
    (hend:∀ k s,I len s→B k (st len s) = F len s) (s:α) (h0:I 0 s):zm B K0 (st 0 s) = F 0 s:=by
  refine zHh (L:=fun n i s=>zm B n (st i s)) hl F I (fun n i s hi hI h=>?_) (fun n s hI=>hend _ s hI) K0 (zA6 hl) s h0
  refine hstep _ i s hi hI fun s' hI'=>?_
  rw [wI,zwA hi hl]
  exact h s' hI'
theorem z9 {α:Type} {l:List α} {i:Nat} {d:α} (h:i < l.length):l.getD i d ∈ l:=by
  rw [List.getD_eq_getElem?_getD,List.getElem?_eq_getElem h]
  exact List.getElem_mem h
theorem zP (p:Bool):some (p,()) = bif p then some (true,()) else some (false,()):=by cases p <;> rfl
theorem zuQ {σ α ρ:Type} {B:(σ→Option ρ)→σ→Option ρ} {l:List α} (d:α) {p:α→Bool} {fin bad:Option ρ} (st:Int→σ) (hl:l.length ≤ Go.maxLen)
    (hin:∀ k (i:Nat) x,i < l.length→l.getD i d = x→x ∈ l→B k (st i) = bif p x then k (st (wI (i + 1))) else bad) (hout:∀ k,B k (st l.length) = fin):zm B K0 (st 0) = bif l.all p then fin else bad:=by
  have:=ve (α:=Unit) (B:=B) hl (fun i _=>st i) (fun i _=>bif (l.drop i).all p then fin else bad) (fun _ _=>True) (fun k i s hi _ h=>?_) (fun k s _=>?_) () trivial
  · simpa using this
  · rw [hin k i _ hi rfl (z9 hi),h () trivial,vW d hi,List.all_cons]
    cases p (l.getD i d) <;> rfl
  · rw [hout,List.drop_of_length_le (Nat.le_refl _)]; rfl
theorem zrD {σ α β ρ:Type} {B:(σ→Option ρ)→σ→Option ρ} {l:List β} (d:β) (st:Int→α→σ) (G:List β→α→Option ρ) (hl:l.length ≤ Go.maxLen)
    (hin:∀ k (i:Nat) x rest s,i < l.length→l.getD i d = x→x ∈ l→l.drop (i + 1) = rest→(∀ s',k (st (wI (i + 1)) s') = G rest s')→B k (st i s) = G (x :: rest) s) (hout:∀ k s,B k (st l.length s) = G [] s) (s:α):zm B K0 (st 0 s) = G l s:=by
  have:=ve (B:=B) hl st (fun i s=>G (l.drop i) s) (fun _ _=>True) (fun k i s hi _ h=>?_) (fun k s _=>?_) s trivial
  · simpa using this
  · rw [vW d hi]
    exact hin k i _ _ s hi rfl (z9 hi) rfl fun s'=>h s' trivial
  · rw [hout,List.drop_of_length_le (Nat.le_refl _)]
def ql (p:Nat→Bool) (i:Nat):Nat→Bool
  | 0=>true
  | n + 1=>p i && ql p (i + 1) n
theorem jl {p:Nat→Bool}:∀ {n i:Nat},ql p i n = true ↔ ∀ j,i ≤ j→j < i + n→p j = true
  | 0,i=>by simp only [ql,true_iff]; intro j h1 h2; omega
  | n + 1,i=>by
    simp only [ql,Bool.and_eq_true,jl (n:=n)]
    constructor
    · rintro ⟨h1,h2⟩ j h3 h4
      by_cases e:j = i
      · subst e; exact h1
      · exact h2 j (by omega) (by omega)
    · intro h
      exact ⟨h i (Nat.le_refl i) (by omega),fun j h1 h2=>h j (by omega) (by omega)⟩
theorem yF {σ ρ:Type} {B:(σ→Option ρ)→σ→Option ρ} {i0 n:Nat} (hn:n ≤ Go.maxLen) (h0:i0 ≤ n) {p:Nat→Bool} {fin bad:Option ρ} (st:Int→σ)
    (hin:∀ k (i:Nat),i0 ≤ i→i < n→B k (st i) = bif p i then k (st (wI (i + 1))) else bad) (hout:∀ k,B k (st n) = fin):zm B K0 (st i0) = bif ql p i0 (n - i0) then fin else bad:=by
  have key:∀ (m i fuel:Nat),i0 ≤ i→i + m = n→m < fuel→zm B fuel (st i) = bif ql p i m then fin else bad:=by
    intro m
    induction m with
    | zero =>
      intro i fuel _ h1 h2
      obtain ⟨f,rfl⟩:∃ f,fuel = f + 1:=⟨fuel - 1,by omega⟩
      obtain rfl:i = n:=by omega
      exact hout _
    | succ m ih =>
      intro i fuel h1 h2 h3
      obtain ⟨f,rfl⟩:∃ f,fuel = f + 1:=⟨fuel - 1,by omega⟩
      show B (zm B f) (st i) = _
      rw [hin _ i h1 (by omega),wI,zwA (len:=n) (by omega) hn,show ((i:Int) + 1) = ((i + 1:Nat):Int) by omega,ih (i + 1) f (by omega) (by omega) (by omega)]
      simp only [ql]
      cases p i <;> rfl
  exact key (n - i0) i0 K0 (Nat.le_refl _) (by omega) (by have:=zA6 hn; omega)
theorem ztc {i:Nat} (h:1 ≤ i) (hi:i ≤ Go.maxLen):wI ((i:Int) - 1) = ((i - 1:Nat):Int):=by
  rw [show ((i:Int) - 1) = ((i - 1:Nat):Int) by omega]
  exact zBX (by omega)
section
variable {τ:Ty} {l:List τ.I} {g:τ.I × Unit→Option (Bool × Unit)} {p:τ.I→Bool}
theorem zE {ρ:Type} {i n:Nat} {x:Option ρ} (h:i < n):inR (i:Int) (n:Int) x = x:=zHj (by omega) (by omega)
theorem ltT {i n:Nat} (h:i < n):decide ((i:Int) < (n:Int)) = true:=decide_eq_true (by omega)
theorem ltF (n:Nat):decide ((n:Int) < (n:Int)) = false:=decide_eq_false (by omega)
theorem qe {α:Type} {d:α} {l:List α} {i:Nat}:ix d l (i:Int) = l.getD i d:=by rw [ix,Int.toNat_natCast]
theorem qH {B:((List τ.I × Option (τ.I × Unit→Option (Bool × Unit)) × Int × Int)→Option (Int × Unit))→(List τ.I × Option (τ.I × Unit→Option (Bool × Unit)) × Int × Int)→Option (Int × Unit)}
    (hB:∀ k l g n i,B k (l,g,n,i) = bif decide (i < n) then inR i (List.length l:Int) (Option.bind g fun q0=>Option.bind (q0 (ix (ze τ) l i,())) fun q1=>bif q1.1 then some (i,()) else k (l,g,n,wI (i + 1))) else some (-1,()))
    (hl:l.length ≤ Go.maxLen) (hp:∀ x ∈ l,g (x,()) = some (p x,())):zm B K0 (l,some g,(l.length:Int),0) = some (qR p l 0,()):=by
  have:=ve (α:=Unit) (B:=B) hl (fun i _=>(l,some g,(l.length:Int),i)) (fun i _=>some (qR p (l.drop i) i,())) (fun _ _=>True) (fun k i s hi _ h=>?_) (fun k s _=>?_) () trivial
  · simpa using this
  · rw [hB,ltT hi,zE hi,qe,Option.bind_some,hp _ (z9 hi),Option.bind_some,h () trivial,vW (ze τ) hi]
    simp only [qR,cond_true]
    cases p (l.getD i (ze τ)) <;> rfl
  · rw [hB,ltF,List.drop_of_length_le (Nat.le_refl _)]; rfl
theorem qi {f:Fnc (.pair (.sl τ) (.pair (.fn (.pair τ .unit) (.pair .bool .unit)) .unit)) (.pair (.int .i64) .unit)} (hf:f (l,some g,()) = some (qR p l 0,())) :
    (Option.bind (f (l,some g,())) fun q0=>bif decide ((q0.1:Int) ≥ 0) then some (true,()) else some (false,())) = some (l.any p,()):=by
  rw [hf,Option.bind_some,zuP (p:=p) l 0 (Int.le_refl 0)]
  cases l.any p <;> rfl
theorem jP {α:Type} {l:List α} {p:α→Bool}:(!(l.any fun x=>!p x)) = l.all p:=by
  rw [List.not_any_eq_all_not]
  congr 1
  funext x
  simp
def eqL (τ:Ty) (a b:List τ.I):Bool:=decide (a.length = b.length) && (List.zip a b).all fun q=>eqI τ q.1 q.2
theorem zmI (a b:Nat):((a:Int) != (b:Int)) = !decide (a = b):=by
  by_cases h:a = b
  · subst h; simp
  · have:(a:Int) ≠ (b:Int):=by omega
    simp [h,this]
theorem zpu {α β:Type} {d:α} {e:β}:∀ (a:List α) (b:List β) (i:Nat),i < a.length→i < b.length→(List.zip a b).getD i (d,e) = (a.getD i d,b.getD i e)
  | x :: a,y :: b,0,_,_=>rfl
  | x :: a,y :: b,i + 1,h1,h2=>zpu a b i (by simpa using h1) (by simpa using h2)
  | [],_,_,h,_=>by simp at h
  | _ :: _,[],_,_,h=>by simp at h
theorem zaB {B:((List τ.I × List τ.I × Int × Int)→Option (Bool × Unit))→(List τ.I × List τ.I × Int × Int)→Option (Bool × Unit)}
    (hB:∀ k a b n i,B k (a,b,n,i) = bif decide (i < n) then inR i (List.length a:Int) (inR i (List.length b:Int) (bif !eqI τ (ix (ze τ) a i) (ix (ze τ) b i) then some (false,()) else k (a,b,n,wI (i + 1)))) else some (true,()))
    {a b:List τ.I} (hl:a.length ≤ Go.maxLen):(bif ((List.length a:Int) != (List.length b:Int)) then some (false,()) else zm B K0 (a,b,(a.length:Int),0)) = some (eqL τ a b,()):=by
  rw [zmI]
  unfold eqL
  by_cases h:a.length = b.length
  · rw [decide_eq_true h]
    simp only [Bool.not_true,cond_false,Bool.true_and]
    have hz:(List.zip a b).length = a.length:=by rw [List.length_zip]; omega
    have hx:∀ i,i < a.length→(List.zip a b).getD i (ze τ,ze τ) = (a.getD i (ze τ),b.getD i (ze τ)):=fun i hi=>zpu a b i hi (by omega)
    have:=zuQ (B:=B) (l:=List.zip a b) (ze τ,ze τ) (p:=fun q=>eqI τ q.1 q.2) (fin:=some (true,())) (bad:=some (false,())) (fun i=>(a,b,(a.length:Int),i)) (by rw [hz]; exact hl) (fun k i x hi hx' _=>?_) (fun k=>?_)
    · rw [this]
      cases (List.zip a b).all fun q=>eqI τ q.1 q.2 <;> rfl
    · rw [hz] at hi
      rw [hx i hi] at hx'
      subst hx'
      rw [hB,ltT hi,zE hi,zE (by omega),qe,qe]
      simp only [cond_true]
      cases eqI τ (a.getD i (ze τ)) (b.getD i (ze τ)) <;> rfl
    · rw [hB,hz,ltF]; rfl
  · rw [decide_eq_false h]; rfl
theorem vX {x:Option (List τ.I × Unit)} (h:l.length ≤ lim) (hx:x = bif decide (List.length (List.replicate 0 (ze τ)) + List.length l ≤ lim) then some (List.replicate 0 (ze τ) ++ l,()) else none) :
    (bif List.isEmpty l then zeg (some ([],())) x else x) = some (l,()):=by
  have e:x = some (l,()):=by rw [hx,decide_eq_true (by simpa using h)]; rfl
  rw [e]
  cases l with
  | nil=>exact zG4 _
  | cons y l=>rfl
end
end Go.Ev
end
section
namespace Go.Proofs.YtejbgeokcpillaaGreatDoor
open Go.Ev
abbrev tMe:Ty:=.st (.pair (.int .i64) (.pair (.int .i64) (.pair (.int .i64) .unit)))
abbrev pMe:Type:=(Int × (Int × (Int × Unit)))
abbrev jh:Ty:=.st (.pair (.int .i64) (.pair (.int .i64) (.pair (.int .i64) (.pair .str .unit))))
abbrev zcH:Type:=(Int × (Int × (Int × (ByteArray × Unit))))
abbrev zD:Ty:=.st (.pair (.int .i64) (.pair (.int .u64) .unit))
abbrev zA:Type:=(Int × (Int × Unit))
abbrev qK:zA:=ze zD
abbrev zo:Ty:=.st (.pair .bool (.pair (.int .i64) (.pair (.int .i64) (.pair (.int .i64) (.pair (.int .i64) (.pair (.int .i64) (.pair (.int .u64) (.pair (.int .u64) (.pair (.int .u64) (.pair (.int .i64) .unit))))))))))
abbrev zp:Type:=(Bool × (Int × (Int × (Int × (Int × (Int × (Int × (Int × (Int × (Int × Unit))))))))))
abbrev qp:zp:=ze zo
abbrev zw:Ty:=.st (.pair (.int .u64) (.pair (.int .i64) (.pair (.int .i64) (.pair (.int .i64) (.pair (.int .i64) (.pair (.int .i64) (.pair (.int .i64) (.pair (.int .u64) (.pair (.int .u64) (.pair (.int .i64) .unit))))))))))
abbrev zH:Type:=(Int × (Int × (Int × (Int × (Int × (Int × (Int × (Int × (Int × (Int × Unit))))))))))
abbrev zhn:zH:=ze zw
abbrev qh:Ty:=.st (.pair .bool (.pair .str .unit))
abbrev qX:Type:=(Bool × (ByteArray × Unit))
abbrev ztd:qX:=ze qh
abbrev zB:Ty:=.st (.pair (.int .i64) (.pair (.int .i64) .unit))
abbrev qw:Type:=(Int × (Int × Unit))
abbrev zIh:qw:=ze zB
abbrev zV:Ty:=.st (.pair .bool (.pair zB (.pair zB (.pair (.int .i64) .unit))))
abbrev z8:Type:=(Bool × (qw × (qw × (Int × Unit))))
abbrev vF:z8:=ze zV
abbrev zl:Ty:=.st (.pair .bool (.pair .str (.pair (.int .i64) (.pair (.int .i64) (.pair zB .unit)))))
abbrev zi:Type:=(Bool × (ByteArray × (Int × (Int × (qw × Unit)))))
abbrev zO:zi:=ze zl
abbrev zZ:Ty:=.st (.pair .bool (.pair (.int .i64) (.pair (.int .i64) (.pair (.int .i64) (.pair .str .unit)))))
abbrev qq:Type:=(Bool × (Int × (Int × (Int × (ByteArray × Unit)))))
abbrev zA7:qq:=ze zZ
abbrev zdu:Ty:=.st (.pair (.int .i64) (.pair (.int .u64) (.pair (.int .i64) .unit)))
abbrev zkM:Type:=(Int × (Int × (Int × Unit)))
abbrev zx:Ty:=.st (.pair .bool (.pair (.int .i64) (.pair (.int .i64) (.pair zdu (.pair zdu .unit)))))
abbrev zt:Type:=(Bool × (Int × (Int × (zkM × (zkM × Unit)))))
abbrev qD:zt:=ze zx
abbrev qa:Ty:=.st (.pair (.int .i64) (.pair (.int .i64) (.pair zB .unit)))
abbrev qx:Type:=(Int × (Int × (qw × Unit)))
abbrev zcS:Ty:=.st (.pair (.int .i64) (.pair (.int .i64) (.pair (.int .i64) (.pair (.int .i64) (.pair (.int .i64) (.pair (.int .u64) .unit))))))
abbrev zbG:Type:=(Int × (Int × (Int × (Int × (Int × (Int × Unit))))))
abbrev jS:zbG:=ze zcS
abbrev qN:Ty:=.st (.pair .str (.pair .str (.pair (.int .i64) (.pair .bool .unit))))
abbrev qO:Type:=(ByteArray × (ByteArray × (Int × (Bool × Unit))))
abbrev zpv:qO:=ze qN
abbrev vf:Ty:=.st (.pair (.int .i64) (.pair (.int .i64) .unit))
abbrev zI:Type:=(Int × (Int × Unit))
abbrev qE:zI:=ze vf
abbrev vG:Ty:=.st (.pair (.sl zx) (.pair (.fn (.pair zx .unit) (.pair .bool .unit)) .unit))
abbrev zbH:Type:=((List zt) × ((Option ((zt × Unit)→Option (Bool × Unit))) × Unit))
abbrev vY:Ty:=.st (.pair (.sl zl) (.pair (.fn (.pair zl .unit) (.pair .bool .unit)) .unit))
abbrev zbI:Type:=((List zi) × ((Option ((zi × Unit)→Option (Bool × Unit))) × Unit))
abbrev yG:Ty:=.st (.pair (.sl zo) (.pair (.fn (.pair zo .unit) (.pair .bool .unit)) .unit))
abbrev zdv:Type:=((List zp) × ((Option ((zp × Unit)→Option (Bool × Unit))) × Unit))
abbrev zkq:Ty:=.st (.pair (.int .u8) (.pair (.int .u8) .unit))
abbrev zy:Ty:=.st (.pair (.sl zD) (.pair (.sl (.int .i64)) (.pair (.sl qN) (.pair (.sl vf) (.pair (.sl zcS) (.pair (.int .i64) (.pair (.int .i64) (.pair (.int .i64) (.pair (.int .i64) .unit)))))))))
abbrev zd:Type:=((List zA) × ((List Int) × ((List qO) × ((List zI) × ((List zbG) × (Int × (Int × (Int × (Int × Unit)))))))))
abbrev zn:Ty:=.st (.pair (.sl qh) (.pair (.sl zV) (.pair (.sl zl) (.pair (.sl zZ) (.pair (.sl zx) (.pair (.sl (.arr 4 (.int .u64))) (.pair (.sl zB) (.pair (.arr 4 (.int .u64)) (.pair (.arr 4 (.int .u64)) .unit)))))))))
abbrev zg:Type:=((List qX) × ((List z8) × ((List zi) × ((List qq) × ((List zt) × ((List (List Int)) × ((List qw) × ((List Int) × ((List Int) × Unit)))))))))
abbrev zf:zg:=ze zn
abbrev zq:Ty:=.st (.pair (.int .u64) (.pair (.sl zn) (.pair (.sl (.sl (.int .i64))) (.pair (.sl zo) (.pair (.sl zw) (.pair (.sl (.int .i64)) .unit))))))
abbrev zb:Type:=(Int × ((List zg) × ((List (List Int)) × ((List zp) × ((List zH) × ((List Int) × Unit))))))
abbrev qb:Ty:=.st (.pair zy (.pair zq .unit))
abbrev qL:Type:=(zd × (zb × Unit))
def types:TT:=(.node (.node (.node (.node (.node (.node (.node (.node (.node .nil 1 (.fn .unit .unit) .nil) 2 (.int .i64) .nil) 3 (.int .i64) (.node .nil 4 .bool .nil)) 5 (.int .u8) (.node (.node (.node .nil 6 (.int .u8) .nil) 7 (.st (.pair (.int .i64) (.pair (.int .i64) (.pair .bool (.pair (.int .u8) .unit))))) .nil) 8 (.st (.pair (.int .i64) (.pair (.int .i64) (.pair .bool (.pair (.int .u8) .unit))))) (.node .nil 9 .str .nil))) 10 .str (.node (.node (.node (.node .nil 11 .str .nil) 12 (.int .u64) .nil) 21 (.int .i32) (.node .nil 22 (.sl zD) .nil)) 23 (.sl (.int .i64)) (.node (.node .nil 24 (.sl qN) .nil) 25 (.sl vf) (.node .nil 26 (.sl zcS) .nil)))) 27 (.st (.pair (.sl zD) (.pair (.sl (.int .i64)) (.pair (.sl qN) (.pair (.sl vf) (.pair (.sl zcS) (.pair (.int .i64) (.pair (.int .i64) (.pair (.int .i64) (.pair (.int .i64) .unit)))))))))) (.node (.node (.node (.node (.node .nil 28 zy .nil) 29 (.int .u64) .nil) 30 (.sl zn) (.node .nil 31 (.sl (.sl (.int .i64))) .nil)) 32 (.sl zo) (.node (.node (.node .nil 33 (.sl zw) .nil) 34 (.st (.pair (.int .u64) (.pair (.sl zn) (.pair (.sl (.sl (.int .i64))) (.pair (.sl zo) (.pair (.sl zw) (.pair (.sl (.int .i64)) .unit))))))) .nil) 35 zq (.node .nil 36 (.st (.pair (.int .i64) (.pair (.int .i64) (.pair (.int .i64) .unit)))) .nil))) 37 tMe (.node (.node (.node (.node .nil 38 (.st (.pair (.int .i64) (.pair (.int .i64) (.pair (.int .i64) (.pair .str .unit))))) .nil) 39 jh .nil) 40 (.fn (.pair zq .unit) (.pair zq .unit)) (.node .nil 41 (.int .i64) .nil)) 43 (.fn (.pair zy (.pair zq (.pair tMe (.pair jh .unit)))) (.pair zq (.pair (.int .i64) (.pair (.int .i64) .unit)))) (.node (.node .nil 44 (.fn (.pair zy (.pair zq (.pair tMe (.pair (.int .i64) (.pair (.int .i64) (.pair (.int .i64) (.pair .str .unit))))))) (.pair zq (.pair (.int .i64) (.pair (.int .i64) .unit)))) .nil) 46 (.fn (.pair zy (.pair zq (.pair tMe .unit))) (.pair (.sl (.int .i64)) (.pair (.int .i64) .unit))) (.node .nil 47 (.sl zB) .nil))))) 49 (.fn (.pair zy (.pair zq (.pair tMe .unit))) (.pair (.sl zB) (.pair (.int .i64) .unit))) (.node (.node (.node (.node (.node (.node .nil 50 (.fn .unit (.pair .bool .unit)) .nil) 51 (.fn (.pair zq (.pair zq .unit)) (.pair .bool .unit)) .nil) 52 (.fn (.pair (.sl (.int .i64)) (.pair (.sl (.int .i64)) .unit)) (.pair .bool .unit)) (.node .nil 53 (.fn (.pair (.sl zB) (.pair (.sl zB) .unit)) (.pair .bool .unit)) .nil)) 54 (.fn (.pair zy (.pair zq (.pair tMe (.pair jh .unit)))) (.pair .bool .unit)) (.node (.node (.node .nil 55 (.st (.pair (.int .i64) (.pair (.int .u64) .unit))) .nil) 56 zD .nil) 57 (.fn (.pair zy (.pair zq (.pair tMe .unit))) (.pair .bool .unit)) (.node .nil 58 (.fn (.pair zy (.pair zq .unit)) (.pair .bool .unit)) .nil))) 59 (.fn (.pair zq .unit) (.pair (.int .i64) .unit)) (.node (.node (.node (.node .nil 60 (.fn (.pair zD (.pair zD .unit)) (.pair .bool .unit)) .nil) 61 (.fn (.pair zD .unit) (.pair .bool .unit)) .nil) 62 (.fn (.pair zy (.pair zq (.pair zq (.pair zD .unit)))) (.pair .bool .unit)) (.node .nil 63 (.fn (.pair zy (.pair zq (.pair tMe (.pair jh (.pair zD .unit))))) (.pair .bool .unit)) .nil)) 64 (.fn (.pair zy (.pair zq (.pair zq (.pair tMe (.pair jh (.pair zD .unit)))))) (.pair .bool .unit)) (.node (.node .nil 65 (.fn (.pair (.sl zo) .unit) (.pair (.sl zo) .unit)) .nil) 66 (.st (.pair .bool (.pair (.int .i64) (.pair (.int .i64) (.pair (.int .i64) (.pair (.int .i64) (.pair (.int .i64) (.pair (.int .u64) (.pair (.int .u64) (.pair (.int .u64) (.pair (.int .i64) .unit))))))))))) (.node .nil 67 zo .nil)))) 68 (.fn (.pair (.sl zw) .unit) (.pair (.sl zw) .unit)) (.node (.node (.node (.node (.node .nil 69 (.st (.pair (.int .u64) (.pair (.int .i64) (.pair (.int .i64) (.pair (.int .i64) (.pair (.int .i64) (.pair (.int .i64) (.pair (.int .i64) (.pair (.int .u64) (.pair (.int .u64) (.pair (.int .i64) .unit))))))))))) .nil) 70 zw .nil) 71 (.fn (.pair (.sl (.int .i64)) .unit) (.pair (.sl (.int .i64)) .unit)) (.node .nil 72 (.fn (.pair (.sl (.sl (.int .i64))) .unit) (.pair (.sl (.sl (.int .i64))) .unit)) .nil)) 73 (.fn (.pair (.sl zn) .unit) (.pair (.sl zn) .unit)) (.node (.node .nil 74 (.sl qh) .nil) 75 (.sl zV) (.node .nil 76 (.sl zl) .nil))) 77 (.sl zZ) (.node (.node (.node (.node .nil 78 (.sl zx) .nil) 79 (.sl (.arr 4 (.int .u64))) .nil) 80 (.arr 4 (.int .u64)) (.node .nil 81 (.st (.pair (.sl qh) (.pair (.sl zV) (.pair (.sl zl) (.pair (.sl zZ) (.pair (.sl zx) (.pair (.sl (.arr 4 (.int .u64))) (.pair (.sl zB) (.pair (.arr 4 (.int .u64)) (.pair (.arr 4 (.int .u64)) .unit)))))))))) .nil)) 82 zn (.node (.node .nil 83 (.fn (.pair (.sl qh) .unit) (.pair (.sl qh) .unit)) .nil) 84 (.st (.pair .bool (.pair .str .unit))) (.node .nil 85 qh .nil)))))) 86 (.fn (.pair (.sl zV) .unit) (.pair (.sl zV) .unit)) (.node (.node (.node (.node (.node (.node (.node .nil 87 (.st (.pair (.int .i64) (.pair (.int .i64) .unit))) .nil) 88 zB .nil) 89 (.st (.pair .bool (.pair zB (.pair zB (.pair (.int .i64) .unit))))) (.node .nil 90 zV .nil)) 91 (.fn (.pair (.sl zl) .unit) (.pair (.sl zl) .unit)) (.node (.node (.node .nil 92 (.st (.pair .bool (.pair .str (.pair (.int .i64) (.pair (.int .i64) (.pair zB .unit)))))) .nil) 93 zl .nil) 94 (.fn (.pair (.sl zZ) .unit) (.pair (.sl zZ) .unit)) (.node .nil 95 (.st (.pair .bool (.pair (.int .i64) (.pair (.int .i64) (.pair (.int .i64) (.pair .str .unit)))))) .nil))) 96 zZ (.node (.node (.node (.node .nil 97 (.fn (.pair (.sl zx) .unit) (.pair (.sl zx) .unit)) .nil) 98 (.st (.pair (.int .i64) (.pair (.int .u64) (.pair (.int .i64) .unit)))) .nil) 99 zdu (.node .nil 100 (.st (.pair .bool (.pair (.int .i64) (.pair (.int .i64) (.pair zdu (.pair zdu .unit)))))) .nil)) 101 zx (.node (.node .nil 102 (.fn (.pair (.sl (.arr 4 (.int .u64))) .unit) (.pair (.sl (.arr 4 (.int .u64))) .unit)) .nil) 103 (.fn (.pair (.sl zB) .unit) (.pair (.sl zB) .unit)) (.node .nil 104 (.fn (.pair zy (.pair zq (.pair tMe (.pair .str .unit)))) (.pair zq (.pair (.int .i64) (.pair (.int .i64) .unit)))) .nil)))) 106 (.fn (.pair zy (.pair zq (.pair tMe (.pair (.int .i64) .unit)))) (.pair zq (.pair (.int .i64) .unit))) (.node (.node (.node (.node (.node .nil 107 (.fn (.pair zy (.pair zq (.pair tMe (.pair (.int .i64) (.pair (.int .i64) .unit))))) (.pair zq (.pair (.int .i64) .unit))) .nil) 109 (.fn (.pair (.sl zl) (.pair .str (.pair (.int .i64) .unit))) (.pair (.sl zl) (.pair (.int .i64) (.pair (.int .i64) .unit)))) .nil) 111 (.fn (.pair (.sl zl) (.pair (.int .i64) (.pair (.int .i64) .unit))) (.pair (.sl zl) (.pair (.int .i64) .unit))) (.node .nil 112 (.fn (.pair (.sl zl) (.pair (.int .i64) (.pair (.int .i64) (.pair zB .unit)))) (.pair (.sl zl) (.pair (.int .i64) .unit))) .nil)) 113 (.fn (.pair zq (.pair tMe .unit)) (.pair zB .unit)) (.node (.node (.node .nil 114 (.fn (.pair (.sl zl) (.pair (.int .i64) (.pair (.int .i64) .unit))) (.pair .bool .unit)) .nil) 115 (.fn (.pair (.sl zl) (.pair (.int .i64) (.pair (.int .i64) (.pair (.int .i64) (.pair (.int .i64) .unit))))) (.pair (.sl zl) (.pair (.int .i64) .unit))) .nil) 116 (.fn (.pair zq (.pair (.int .i64) (.pair zn .unit))) (.pair zq .unit)) (.node .nil 117 (.fn (.pair (.sl zl) (.pair (.int .i64) .unit)) (.pair (.sl (.int .i64)) .unit)) .nil))) 118 (.fn (.pair zq (.pair tMe .unit)) (.pair (.sl zl) .unit)) (.node (.node (.node (.node .nil 119 (.fn (.pair zy (.pair (.int .i64) (.pair (.int .i64) .unit))) (.pair .bool .unit)) .nil) 120 (.fn (.pair (.sl zl) (.pair zB .unit)) (.pair (.sl (.int .i64)) .unit)) .nil) 121 (.fn .unit (.pair zy .unit)) (.node .nil 122 (.fn (.pair zy .unit) (.pair zq (.pair (.int .i64) .unit))) .nil)) 123 (.fn (.pair (.sl (.sl (.int .i64))) (.pair (.sl (.sl (.int .i64))) .unit)) (.pair .bool .unit)) (.node (.node .nil 124 (.fn (.pair (.sl zo) (.pair (.sl zo) .unit)) (.pair .bool .unit)) .nil) 125 (.fn (.pair (.sl zw) (.pair (.sl zw) .unit)) (.pair .bool .unit)) (.node .nil 126 (.fn (.pair zn (.pair zn .unit)) (.pair .bool .unit)) .nil))))) 127 (.st (.pair zy (.pair zq .unit))) (.node (.node (.node (.node (.node (.node .nil 128 qb .nil) 129 (.sl (.fn .unit (.pair .bool .unit))) .nil) 130 (.fn (.pair zy (.pair zq (.pair zD .unit))) (.pair zq (.pair (.int .i64) .unit))) (.node .nil 131 (.fn (.pair zy (.pair zq (.pair tMe (.pair (.fn (.pair (.sl zl) .unit) (.pair (.sl zl) (.pair (.int .i64) .unit))) .unit)))) (.pair zq (.pair (.int .i64) .unit))) .nil)) 132 (.fn (.pair (.sl zl) .unit) (.pair (.sl zl) (.pair (.int .i64) .unit))) (.node (.node (.node .nil 133 (.fn (.pair (.sl zl) (.pair (.int .i64) (.pair (.int .i64) (.pair (.int .i64) .unit)))) (.pair (.sl zl) (.pair (.int .i64) .unit))) .nil) 134 (.fn (.pair zy (.pair tMe .unit)) (.pair .bool .unit)) .nil) 135 (.fn (.pair (.sl zl) .unit) (.pair .bool .unit)) (.node .nil 136 (.fn (.pair (.int .i64) .unit) (.pair .bool .unit)) .nil))) 137 (.fn (.pair .str .unit) (.pair .bool .unit)) (.node (.node (.node (.node .nil 138 (.fn (.pair (.sl zl) (.pair (.int .i64) (.pair zl .unit))) (.pair (.sl zl) .unit)) .nil) 139 (.fn (.pair zB .unit) (.pair .bool .unit)) .nil) 140 (.fn (.pair (.sl zl) (.pair qa .unit)) (.pair (.sl (.int .i64)) .unit)) (.node .nil 141 (.st (.pair (.int .i64) (.pair (.int .i64) (.pair zB .unit)))) .nil)) 142 qa (.node (.node .nil 143 (.fn (.pair (.int .i64) .unit) (.pair qa .unit)) .nil) 144 (.fn (.pair zy (.pair (.int .i64) .unit)) (.pair .bool .unit)) (.node .nil 145 (.fn (.pair zB .unit) (.pair qa .unit)) .nil)))) 146 (.st (.pair (.int .i64) (.pair (.int .i64) (.pair (.int .i64) (.pair (.int .i64) (.pair (.int .i64) (.pair (.int .u64) .unit))))))) (.node (.node (.node (.node (.node .nil 147 zcS .nil) 148 (.st (.pair .str (.pair .str (.pair (.int .i64) (.pair .bool .unit))))) .nil) 149 qN (.node .nil 150 (.st (.pair (.int .i64) (.pair (.int .i64) .unit))) .nil)) 151 vf (.node (.node .nil 152 (.fn (.pair zy .unit) (.pair .bool .unit)) .nil) 153 (.fn (.pair zy .unit) (.pair (.sl (.sl (.int .i64))) .unit)) (.node .nil 154 (.fn (.pair zy (.pair zcS .unit)) (.pair zn .unit)) .nil))) 155 (.fn (.pair (.sl qh) (.pair (.sl qh) .unit)) (.pair .bool .unit)) (.node (.node (.node (.node .nil 156 (.fn (.pair (.sl zV) (.pair (.sl zV) .unit)) (.pair .bool .unit)) .nil) 157 (.fn (.pair (.sl zl) (.pair (.sl zl) .unit)) (.pair .bool .unit)) .nil) 158 (.fn (.pair (.sl zZ) (.pair (.sl zZ) .unit)) (.pair .bool .unit)) (.node .nil 159 (.fn (.pair (.sl zx) (.pair (.sl zx) .unit)) (.pair .bool .unit)) .nil)) 160 (.fn (.pair (.sl zn) (.pair (.fn (.pair zn .unit) (.pair .bool .unit)) .unit)) (.pair .bool .unit)) (.node (.node .nil 161 (.fn (.pair (.sl qh) .unit) (.pair .bool .unit)) .nil) 162 (.fn (.pair (.sl zV) .unit) (.pair .bool .unit)) (.node .nil 163 (.fn (.pair (.sl zZ) .unit) (.pair .bool .unit)) .nil))))))) 164 (.fn (.pair (.sl zx) .unit) (.pair .bool .unit)) (.node (.node (.node (.node (.node (.node (.node (.node .nil 165 (.fn (.pair zn .unit) (.pair .bool .unit)) .nil) 166 (.fn (.pair zy (.pair (.sl (.sl (.int .i64))) .unit)) (.pair .bool .unit)) .nil) 167 (.fn (.pair (.sl zo) .unit) (.pair .bool .unit)) (.node .nil 168 (.fn (.pair (.sl zw) .unit) (.pair .bool .unit)) .nil)) 169 (.fn (.pair zq (.pair zB .unit)) (.pair .bool .unit)) (.node (.node (.node .nil 170 (.fn (.pair (.sl zo) (.pair (.fn (.pair zo .unit) (.pair .bool .unit)) .unit)) (.pair .bool .unit)) .nil) 171 (.fn (.pair zo .unit) (.pair .bool .unit)) .nil) 172 (.fn (.pair (.sl zw) (.pair (.fn (.pair zw .unit) (.pair .bool .unit)) .unit)) (.pair .bool .unit)) (.node .nil 173 (.fn (.pair zw .unit) (.pair .bool .unit)) .nil))) 174 (.fn (.pair (.sl (.int .i64)) (.pair (.fn (.pair (.int .i64) .unit) (.pair .bool .unit)) .unit)) (.pair .bool .unit)) (.node (.node (.node (.node .nil 175 (.fn (.pair (.int .i64) .unit) (.pair (.fn (.pair zB .unit) (.pair .bool .unit)) .unit)) .nil) 176 (.fn (.pair (.sl zV) (.pair (.fn (.pair zV .unit) (.pair .bool .unit)) .unit)) (.pair .bool .unit)) .nil) 177 (.fn (.pair zV .unit) (.pair .bool .unit)) (.node .nil 178 (.fn (.pair (.sl zl) (.pair (.fn (.pair zl .unit) (.pair .bool .unit)) .unit)) (.pair .bool .unit)) .nil)) 179 (.fn (.pair zl .unit) (.pair .bool .unit)) (.node (.node .nil 180 (.fn (.pair (.sl zB) (.pair (.fn (.pair zB .unit) (.pair .bool .unit)) .unit)) (.pair .bool .unit)) .nil) 181 (.fn (.pair (.sl zZ) (.pair (.fn (.pair zZ .unit) (.pair .bool .unit)) .unit)) (.pair .bool .unit)) (.node .nil 182 (.fn (.pair (.int .i64) (.pair (.int .i64) .unit)) (.pair .bool .unit)) .nil)))) 183 (.fn (.pair zZ .unit) (.pair .bool .unit)) (.node (.node (.node (.node (.node .nil 184 (.fn (.pair (.sl zx) (.pair (.fn (.pair zx .unit) (.pair .bool .unit)) .unit)) (.pair .bool .unit)) .nil) 185 (.fn (.pair zx .unit) (.pair .bool .unit)) .nil) 186 (.ptr vG) (.node .nil 187 (.fn (.pair (.sl zx) (.pair (.fn (.pair zx .unit) (.pair .bool .unit)) .unit)) (.pair (.ptr vG) .unit)) .nil)) 188 (.fn .unit (.pair (.sl (.int .i64)) .unit)) (.node (.node (.node .nil 190 (.fn (.pair zq (.pair (.int .i64) .unit)) (.pair (.int .u64) (.pair (.int .i64) .unit))) .nil) 192 (.fn (.pair (.int .i64) .unit) (.pair zD (.pair (.int .i64) .unit))) .nil) 193 (.fn (.pair (.sl zn) (.pair (.sl zn) (.pair (.fn (.pair (.int .i64) .unit) (.pair .bool .unit)) .unit))) (.pair (.sl zn) .unit)) (.node .nil 194 (.fn (.pair (.sl (.sl (.int .i64))) (.pair (.sl (.sl (.int .i64))) (.pair (.fn (.pair (.int .i64) .unit) (.pair .bool .unit)) .unit))) (.pair (.sl (.sl (.int .i64))) .unit)) .nil))) 195 (.fn (.pair (.sl (.int .i64)) (.pair (.sl (.int .i64)) (.pair (.fn (.pair (.int .i64) .unit) (.pair .bool .unit)) .unit))) (.pair (.sl (.int .i64)) .unit)) (.node (.node (.node (.node .nil 196 (.fn (.pair (.sl zn) (.pair (.sl zn) (.pair (.fn (.pair zn (.pair zn .unit)) (.pair .bool .unit)) .unit))) (.pair .bool .unit)) .nil) 197 (.fn (.pair (.sl (.sl (.int .i64))) (.pair (.sl (.sl (.int .i64))) (.pair (.fn (.pair (.sl (.int .i64)) (.pair (.sl (.int .i64)) .unit)) (.pair .bool .unit)) .unit))) (.pair .bool .unit)) .nil) 198 (.ptr vY) (.node .nil 199 (.fn (.pair (.sl zl) .unit) (.pair (.ptr vY) .unit)) .nil)) 200 (.fn (.pair zl .unit) (.pair (.sl zl) (.pair (.int .i64) (.pair (.int .i64) .unit)))) (.node (.node .nil 201 (.fn (.pair zl (.pair qa .unit)) (.pair zl .unit)) .nil) 202 (.fn (.pair (.sl zl) (.pair (.int .i64) (.pair qa (.pair qa .unit)))) (.pair (.sl zl) (.pair (.int .i64) .unit))) (.node .nil 203 (.fn (.pair (.int .i64) (.pair zl .unit)) (.pair (.sl zl) (.pair (.int .i64) .unit))) .nil))))) 204 (.fn (.pair zy (.pair zq (.pair (.int .i64) .unit))) (.pair .bool .unit)) (.node (.node (.node (.node (.node (.node .nil 205 (.fn (.pair zl .unit) (.pair qa .unit)) .nil) 206 (.fn (.pair (.int .i64) (.pair (.int .i64) (.pair (.int .i64) .unit))) (.pair .bool .unit)) .nil) 207 (.fn (.pair zD (.pair (.int .i64) .unit)) (.pair .bool .unit)) (.node .nil 208 (.sl (.fn (.pair zy .unit) (.pair .bool .unit))) .nil)) 209 (.fn (.pair (.sl qh) (.pair (.fn (.pair qh .unit) (.pair .bool .unit)) .unit)) (.pair .bool .unit)) (.node (.node (.node .nil 210 (.fn (.pair qh .unit) (.pair .bool .unit)) .nil) 211 (.fn (.pair (.sl zV) (.pair zB (.pair (.int .i64) .unit))) (.pair (.int .i64) .unit)) .nil) 212 (.pair (.int .i64) (.int .i64)) (.node .nil 213 (.fn (.pair zw (.pair zw .unit)) (.pair (.int .i64) .unit)) .nil))) 214 (.st (.pair (.sl zx) (.pair (.fn (.pair zx .unit) (.pair .bool .unit)) .unit))) (.node (.node (.node (.node .nil 215 vG .nil) 216 (.fn (.pair (.sl zo) (.pair (.int .i64) .unit)) (.pair (.int .u64) (.pair (.int .i64) .unit))) .nil) 217 (.sl (.int .u64)) (.node .nil 218 (.fn (.pair (.sl zx) (.pair (.int .i64) .unit)) (.pair (.int .u64) (.pair (.int .i64) .unit))) .nil)) 219 (.fn (.pair (.sl (.int .u64)) .unit) (.pair (.int .u64) (.pair (.int .i64) .unit))) (.node (.node .nil 220 (.fn (.pair zq (.pair (.int .i64) (.pair (.fn (.pair zn .unit) (.pair (.arr 4 (.int .u64)) .unit)) .unit))) (.pair (.int .u64) (.pair (.int .i64) .unit))) .nil) 221 (.fn (.pair zn .unit) (.pair (.arr 4 (.int .u64)) .unit)) (.node .nil 222 (.fn (.pair (.int .u64) (.pair (.int .u64) .unit)) (.pair (.int .u64) (.pair (.int .i64) .unit))) .nil)))) 223 (.fn (.pair (.sl (.arr 4 (.int .u64))) (.pair (.sl (.arr 4 (.int .u64))) .unit)) (.pair .bool .unit)) (.node (.node (.node (.node (.node .nil 224 (.fn (.pair (.int .u8) .unit) (.pair .bool .unit)) .nil) 225 (.fn (.pair .str (.pair (.fn (.pair (.int .u8) .unit) (.pair .bool .unit)) .unit)) (.pair .bool .unit)) .nil) 226 (.fn (.pair (.sl zl) (.pair (.fn (.pair zl .unit) (.pair .bool .unit)) .unit)) (.pair (.ptr vY) .unit)) (.node .nil 228 (.fn .unit (.pair (.int .i64) (.pair (.int .i64) .unit))) .nil)) 229 (.st (.pair (.sl zl) (.pair (.fn (.pair zl .unit) (.pair .bool .unit)) .unit))) (.node (.node .nil 230 vY .nil) 231 (.fn (.pair (.sl zD) .unit) (.pair .bool .unit)) (.node .nil 232 (.fn (.pair (.sl qN) .unit) (.pair .bool .unit)) .nil))) 233 (.fn (.pair (.sl vf) (.pair (.sl zD) (.pair (.int .i64) .unit))) (.pair .bool .unit)) (.node (.node (.node (.node .nil 234 (.fn (.pair (.sl zcS) .unit) (.pair .bool .unit)) .nil) 235 (.fn (.pair zy (.pair zq (.pair zB (.pair (.int .i64) .unit)))) (.pair .bool .unit)) .nil) 236 (.fn (.pair zy (.pair zq (.pair (.int .i64) (.pair (.int .i64) .unit)))) (.pair .bool .unit)) (.node .nil 237 (.fn (.pair zy (.pair zn (.pair (.int .i64) .unit))) (.pair .bool .unit)) .nil)) 238 (.int .u64) (.node (.node .nil 239 (.fn (.pair (.sl zD) (.pair (.fn (.pair zD .unit) (.pair .bool .unit)) .unit)) (.pair .bool .unit)) .nil) 240 (.fn (.pair zD (.pair zD .unit)) (.pair (.int .i64) .unit)) (.node .nil 241 (.fn (.pair qN .unit) (.pair .bool .unit)) .nil)))))) 242 (.fn (.pair (.sl qN) (.pair (.fn (.pair qN .unit) (.pair .bool .unit)) .unit)) (.pair .bool .unit)) (.node (.node (.node (.node (.node (.node (.node .nil 243 (.fn (.pair (.sl .str) .unit) (.pair .bool .unit)) .nil) 244 (.sl .str) .nil) 245 (.fn (.pair zy .unit) (.pair (.sl .str) .unit)) (.node .nil 246 (.fn (.pair (.sl zD) (.pair zD .unit)) (.pair .bool .unit)) .nil)) 247 (.fn (.pair zcS .unit) (.pair (.sl (.int .i64)) .unit)) (.node (.node (.node .nil 248 (.fn (.pair (.sl zn) (.pair (.fn (.pair zn .unit) (.pair .bool .unit)) .unit)) (.pair (.int .i64) .unit)) .nil) 249 (.fn (.pair (.sl qh) (.pair (.fn (.pair qh .unit) (.pair .bool .unit)) .unit)) (.pair (.int .i64) .unit)) .nil) 250 (.fn (.pair (.sl zV) (.pair (.fn (.pair zV .unit) (.pair .bool .unit)) .unit)) (.pair (.int .i64) .unit)) (.node .nil 251 (.fn (.pair (.sl zl) (.pair (.fn (.pair zl .unit) (.pair .bool .unit)) .unit)) (.pair (.int .i64) .unit)) .nil))) 252 (.fn (.pair (.sl zZ) (.pair (.fn (.pair zZ .unit) (.pair .bool .unit)) .unit)) (.pair (.int .i64) .unit)) (.node (.node (.node (.node .nil 253 (.fn (.pair (.sl zx) (.pair (.fn (.pair zx .unit) (.pair .bool .unit)) .unit)) (.pair (.int .i64) .unit)) .nil) 254 (.fn (.pair zdu .unit) (.pair .bool .unit)) .nil) 255 (.fn (.pair (.sl (.int .i64)) (.pair (.fn (.pair (.int .i64) .unit) (.pair .bool .unit)) .unit)) (.pair (.int .i64) .unit)) (.node .nil 256 (.fn (.pair (.int .i64) (.pair (.int .u64) (.pair (.int .u64) .unit))) (.pair (.int .u64) (.pair (.int .i64) .unit))) .nil)) 257 (.fn (.pair (.sl (.int .i64)) .unit) (.pair (.int .i64) .unit)) (.node (.node .nil 258 (.fn (.pair (.int .u64) (.pair (.int .u64) .unit)) (.pair (.int .i64) .unit)) .nil) 259 (.fn (.pair (.int .i64) (.pair (.int .i64) .unit)) (.pair (.int .i64) .unit)) (.node .nil 260 (.fn (.pair (.sl zo) (.pair (.fn (.pair zo .unit) (.pair .bool .unit)) .unit)) (.pair (.int .i64) .unit)) .nil)))) 261 (.fn (.pair (.sl zw) (.pair (.fn (.pair zw .unit) (.pair .bool .unit)) .unit)) (.pair (.int .i64) .unit)) (.node (.node (.node (.node (.node .nil 262 (.fn (.pair (.sl zB) (.pair (.fn (.pair zB .unit) (.pair .bool .unit)) .unit)) (.pair (.int .i64) .unit)) .nil) 263 (.fn (.pair (.sl zo) .unit) (.pair (.sl (.int .i64)) .unit)) .nil) 264 (.fn (.pair zo .unit) (.pair (.int .i64) .unit)) (.node .nil 265 (.fn (.pair (.sl zx) .unit) (.pair (.ptr vG) .unit)) .nil)) 267 (.fn (.pair (.int .u64) (.pair (.int .u64) (.pair (.int .u64) .unit))) (.pair (.int .u64) (.pair (.int .u64) .unit))) (.node (.node .nil 268 (.fn (.pair (.sl (.int .u8)) (.pair (.fn (.pair (.int .u8) .unit) (.pair .bool .unit)) .unit)) (.pair .bool .unit)) .nil) 269 (.sl (.int .u8)) (.node .nil 270 (.fn (.pair (.sl zD) (.pair zD .unit)) (.pair (.int .i64) .unit)) .nil))) 271 (.fn (.pair (.int .i64) .unit) (.pair zD .unit)) (.node (.node (.node (.node .nil 272 (.fn (.pair (.sl vf) (.pair (.int .i64) .unit)) (.pair .bool .unit)) .nil) 273 (.fn (.pair (.sl zo) (.pair (.int .i64) (.pair (.int .i64) .unit))) (.pair .bool .unit)) .nil) 274 (.fn (.pair zw (.pair zw .unit)) (.pair .bool .unit)) (.node .nil 275 (.fn (.pair zo (.pair (.int .i64) .unit)) (.pair (.int .u64) .unit)) .nil)) 276 (.fn (.pair (.sl zD) (.pair (.fn (.pair zD .unit) (.pair .bool .unit)) .unit)) (.pair (.int .i64) .unit)) (.node (.node .nil 277 (.fn (.pair (.sl qN) (.pair (.fn (.pair qN .unit) (.pair .bool .unit)) .unit)) (.pair (.int .i64) .unit)) .nil) 278 (.pair .str (.int .i64)) (.node .nil 279 (.fn (.pair .str (.pair .str .unit)) (.pair .str .unit)) .nil))))) 280 (.fn (.pair (.int .u64) .unit) (.pair .bool .unit)) (.node (.node (.node (.node (.node (.node .nil 281 (.ptr yG) .nil) 282 (.fn (.pair (.sl zo) .unit) (.pair (.ptr yG) .unit)) .nil) 283 (.fn (.pair (.sl (.int .u8)) (.pair (.fn (.pair (.int .u8) .unit) (.pair .bool .unit)) .unit)) (.pair (.int .i64) .unit)) (.node .nil 284 (.fn (.pair .str (.pair (.int .u8) .unit)) (.pair .str .unit)) .nil)) 285 (.arr 256 .bool) (.node (.node (.node .nil 286 (.arr 256 .bool) .nil) 288 (.fn (.pair .str .unit) (.pair (.arr 256 .bool) (.pair .bool .unit))) .nil) 289 (.fn (.pair .str (.pair (.ptr (.arr 256 .bool)) .unit)) (.pair .str .unit)) (.node .nil 290 (.ptr (.arr 256 .bool)) .nil))) 291 (.fn (.pair (.int .u64) (.pair (.int .u64) .unit)) (.pair (.int .u64) (.pair (.int .u64) .unit))) (.node (.node (.node (.node .nil 292 (.fn (.pair (.sl zo) (.pair (.fn (.pair zo .unit) (.pair .bool .unit)) .unit)) (.pair (.ptr yG) .unit)) .nil) 293 (.st (.pair (.sl zo) (.pair (.fn (.pair zo .unit) (.pair .bool .unit)) .unit))) .nil) 294 yG (.node .nil 296 (.fn (.pair .str .unit) (.pair (.int .i32) (.pair (.int .i64) .unit))) .nil)) 297 (.fn (.pair .str (.pair (.int .i32) .unit)) (.pair .bool .unit)) (.node (.node .nil 298 (.fn (.pair .str (.pair (.int .i32) .unit)) (.pair (.int .i64) .unit)) .nil) 299 (.arr 256 (.int .u8)) (.node .nil 300 (.st (.pair (.int .u8) (.pair (.int .u8) .unit))) .nil)))) 301 zkq (.node (.node (.node (.node (.node .nil 302 (.arr 16 zkq) .nil) 303 (.fn (.pair .str (.pair (.int .u8) .unit)) (.pair (.int .i64) .unit)) .nil) 304 (.fn (.pair (.int .i32) .unit) (.pair .bool .unit)) (.node .nil 305 (.fn (.pair (.int .i64) .unit) (.pair (.int .i64) .unit)) .nil)) 306 (.fn (.pair .str (.pair .str .unit)) (.pair (.int .i64) .unit)) (.node (.node .nil 307 (.fn .unit (.pair .str .unit)) .nil) 313 (.fn .unit (.pair (.int .i64) .unit)) (.node .nil 314 (.int .u32) .nil))) 315 (.int .u8) (.node (.node (.node (.node .nil 316 (.int .u8) .nil) 318 (.ptr (.int .u8)) .nil) 319 (.int .i32) (.node .nil 320 (.int .i32) .nil)) 323 (.fn (.pair zx .unit) (.pair (.sl zx) (.pair (.int .i64) (.pair (.int .i64) .unit)))) (.node (.node .nil 324 (.fn (.pair (.int .i64) (.pair zx .unit)) (.pair (.sl zx) (.pair (.int .i64) .unit))) .nil) 325 (.fn (.pair zo .unit) (.pair (.sl zo) (.pair (.int .i64) (.pair (.int .i64) .unit)))) (.node .nil 326 (.fn (.pair (.int .i64) (.pair zo .unit)) (.pair (.sl zo) (.pair (.int .i64) .unit))) .nil))))))))
def glob:List (Nat × AV):=[]
abbrev zrE:Ty:=(.pair zy (.pair zq (.pair zq (.pair tMe (.pair jh (.pair zD .unit))))))
def ext:List (Nat × Bool):=[(292,false),(322,true)]
def E0:Env:=⟨types,[],glob,0,false,ext,[],fun _=>none,false,false⟩
theorem zFL:Tryz.prog.follows .mixedOrders = true:=by kernel_rfl
theorem mkS {l:List Fun} {d:Bool} {F:Fun} {f:Go.Func} {K:Nat} (hl:Sds Tryz.prog E0 l) (hf:Tryz.prog.funcs[F.id]? = some f) (ho:qW f = true) (h:evF (En E0 d l) K f F.md F.a F.r = F.spec):Sd Tryz.prog E0 F:=Sd.mk zFL hl hf ho h
theorem zJ2 {l:List Fun} {d:Bool} {js:List Nat} {F:Fun} {f:Go.Func} {K:Nat} (hl:Sds Tryz.prog E0 l) (hf:Tryz.prog.funcs[F.id]? = some f) (ho:qW f = true) (h:evF (Ej E0 d js l) K f F.md F.a F.r = F.spec):Sd Tryz.prog E0 F:=Sd.mkJ zFL hl hf ho h
end Go.Proofs.YtejbgeokcpillaaGreatDoor
end
section
namespace Go.Proofs.YtejbgeokcpillaaGreatDoor
open Go.Ev
noncomputable section
abbrev Sq (F:Fun):Prop:=Sd Tryz.prog E0 F
def L0:List Fun:=[]
theorem h0:Sds Tryz.prog E0 L0:=trivial
theorem ms0 {d:Bool} {F:Fun} {f:Go.Func} {K:Nat} (hf:Tryz.prog.funcs[F.id]? = some f) (ho:qW f = true) (h:evF (En E0 d L0) K f F.md F.a F.r = F.spec):Sd Tryz.prog E0 F:=mkS h0 hf ho h
theorem ml0 {d:Bool} {F:Fun} {f:Go.Func} {S:Nat→F.a.I→Option F.r.I} (hf:Tryz.prog.funcs[F.id]? = some f) (ho:qW f = true) (h:∀ K,evF (En E0 d L0) K f F.md F.a F.r = S K) (e:S K0 = F.spec):Sd Tryz.prog E0 F:=mkS h0 hf ho ((h K0).trans e)
abbrev Es0:Env:=En E0 false L0
def zdW:(zA × Unit)→Option (Bool × Unit):=fun (x0,()) =>
  bif decide (x0.1 ≥ 0) then bif decide (x0.1 < 4) then some (true,()) else some (false,()) else some (false,())
abbrev zp9:Fun:=⟨21,(ch [zD]),(ch [.bool]),0,zdW⟩
theorem zzZ:Sq zp9:=ms0 (d:=false) (K:=0) Tryz.func21 (by kernel_rfl) (funext fun (x0,())=>by kernel_rfl)
def qj:(Int × (Int × (Int × Unit)))→Option (Bool × Unit):=fun (x0,x1,x2,()) =>
  bif decide (x0 ≥ x1) then bif decide (x0 ≤ x2) then some (true,()) else some (false,()) else some (false,())
abbrev zn8:Fun:=⟨168,(ch [tI,tI,tI]),(ch [.bool]),0,qj⟩
theorem zyh:Sq zn8:=ms0 (d:=false) (K:=0) Tryz.func168 (by kernel_rfl) (funext fun (x0,x1,x2,())=>by kernel_rfl)
abbrev jT:Type:=(List zA) × (Option ((zA × Unit)→Option (Bool × Unit))) × Int × Int
abbrev znD:jT→St:=fun (v0,v1,v7,v8)=>St.mk [(0,.dat (.sl zD) v0),(1,.dat (.fn (.pair zD .unit) (.pair .bool .unit)) v1),(7,.dat tI v7),(8,.dat tI v8)] []
def zco (k0:jT→Option (Int × Unit)):jT→Option (Int × Unit):=fun (v0,v1,v7,v8) =>
  bif decide (v8 < v7) then inR v8 ((List.length v0):Int) (Option.bind v1 fun q0=>Option.bind (q0 (ix qK v0 v8,())) fun q1=>bif q1.1 then some (v8,()) else k0 (v0,v1,v7,wI (v8 + 1))) else some ((-1),())
abbrev zfS (K:Nat):jT→Option (Int × Unit):=zm zco K
theorem znE (K:Nat):∀ n,evV Es0 K Tryz.f310 0 (ch [tI]) [1,0,1,0] [] znD n = zm zco n:=zv fun n0 (v0,v1,v7,v8)=>by kernel_rfl
def zdw (L0:jT→Option (Int × Unit)):((List zA) × ((Option ((zA × Unit)→Option (Bool × Unit))) × Unit))→Option (Int × Unit):=fun (x0,x1,()) =>
  L0 (x0,x1,((List.length x0):Int),0)
def zaq:((List zA) × ((Option ((zA × Unit)→Option (Bool × Unit))) × Unit))→Option (Int × Unit):=zdw (zfS K0)
abbrev zho:Fun:=⟨310,(ch [(.sl zD),(.fn (ch [zD]) (ch [.bool]))]),(ch [tI]),0,zaq⟩
theorem zpw:Sq zho:=ml0 (d:=false) (S:=fun K=>zdw (zfS K)) Tryz.func310 (by kernel_rfl) (fun K=>tr1 (T:=zdw) (znE K K) fun (x0,x1,())=>by kernel_rfl) rfl
def yY:(Int × Unit)→Option (Bool × Unit):=fun (x0,()) =>
  bif x0 != x0 then some (true,()) else some (false,())
abbrev zmJ:Fun:=⟨318,(ch [tI]),(ch [.bool]),0,yY⟩
theorem zwC:Sq zmJ:=ms0 (d:=false) (K:=0) Tryz.func318 (by kernel_rfl) (funext fun (x0,())=>by kernel_rfl)
def vg:(Int × Unit)→Option (Bool × Unit):=fun (x0,()) =>
  bif x0 != x0 then some (true,()) else some (false,())
abbrev zjH:Fun:=⟨317,(ch [tU]),(ch [.bool]),0,vg⟩
theorem zrF:Sq zjH:=ms0 (d:=false) (K:=0) Tryz.func317 (by kernel_rfl) (funext fun (x0,())=>by kernel_rfl)
abbrev zcT:Type:=Int × (List Int) × Int × Int
abbrev zyi:zcT→St:=fun (v3,v6,v7,v8)=>St.mk [(3,.dat tI v3),(6,.dat (.sl tI) v6),(7,.dat tI v7),(8,.dat tI v8)] []
def qS (k0:zcT→Option (Int × Unit)):zcT→Option (Int × Unit):=fun (v3,v6,v7,v8) =>
  bif decide (v8 < v7) then inR v8 ((List.length v6):Int) (bif ix (0:Int) v6 v8 != v3 then some (ix (0:Int) v6 v8,()) else k0 (v3,v6,v7,wI (v8 + 1))) else some (v3,())
abbrev zn9 (K:Nat):zcT→Option (Int × Unit):=zm qS K
theorem zyj (K:Nat):∀ n,evV Es0 K Tryz.f282 0 (ch [tI]) [1,1,0,1,0] [] zyi n = zm qS n:=zv fun n0 (v3,v6,v7,v8)=>by kernel_rfl
def zli (L0:zcT→Option (Int × Unit)):((List Int) × Unit)→Option (Int × Unit):=fun (x0,()) =>
  L0 (0,x0,((List.length x0):Int),0)
def zcU:((List Int) × Unit)→Option (Int × Unit):=zli (zn9 K0)
abbrev zrG:Fun:=⟨282,(ch [(.sl tI)]),(ch [tI]),0,zcU⟩
theorem zBZ:Sq zrG:=ml0 (d:=false) (S:=fun K=>zli (zn9 K)) Tryz.func282 (by kernel_rfl) (fun K=>tr1 (T:=zli) (zyj K K) fun (x0,())=>by kernel_rfl) rfl
abbrev vH:Type:=(List Int) × (Option ((Int × Unit)→Option (Bool × Unit))) × Int × Int
abbrev zpx:vH→St:=fun (v0,v1,v7,v8)=>St.mk [(0,.dat (.sl tI) v0),(1,.dat (.fn (.pair tI .unit) (.pair .bool .unit)) v1),(7,.dat tI v7),(8,.dat tI v8)] []
def zdx (k0:vH→Option (Int × Unit)):vH→Option (Int × Unit):=fun (v0,v1,v7,v8) =>
  bif decide (v8 < v7) then inR v8 ((List.length v0):Int) (Option.bind v1 fun q0=>Option.bind (q0 (ix (0:Int) v0 v8,())) fun q1=>bif q1.1 then some (v8,()) else k0 (v0,v1,v7,wI (v8 + 1))) else some ((-1),())
abbrev zhp (K:Nat):vH→Option (Int × Unit):=zm zdx K
theorem zpy (K:Nat):∀ n,evV Es0 K Tryz.f278 0 (ch [tI]) [1,0,1,0] [] zpx n = zm zdx n:=zv fun n0 (v0,v1,v7,v8)=>by kernel_rfl
def zeH (L0:vH→Option (Int × Unit)):((List Int) × ((Option ((Int × Unit)→Option (Bool × Unit))) × Unit))→Option (Int × Unit):=fun (x0,x1,()) =>
  L0 (x0,x1,((List.length x0):Int),0)
def zbJ:((List Int) × ((Option ((Int × Unit)→Option (Bool × Unit))) × Unit))→Option (Int × Unit):=zeH (zhp K0)
abbrev zjI:Fun:=⟨278,(ch [(.sl tI),(.fn (ch [tI]) (ch [.bool]))]),(ch [tI]),0,zbJ⟩
theorem zrH:Sq zjI:=ml0 (d:=false) (S:=fun K=>zeH (zhp K)) Tryz.func278 (by kernel_rfl) (fun K=>tr1 (T:=zeH) (zpy K K) fun (x0,x1,())=>by kernel_rfl) rfl
def zeI:(Int × Unit)→Option (Bool × Unit):=fun (x0,()) =>
  bif decide (x0 ≥ 97) then bif decide (x0 ≤ 122) then some (true,()) else some (false,()) else some (false,())
abbrev zrI:Fun:=⟨224,(ch [(.int .u8)]),(ch [.bool]),0,zeI⟩
theorem zB0:Sq zrI:=ms0 (d:=false) (K:=0) Tryz.func224 (by kernel_rfl) (funext fun (x0,())=>by kernel_rfl)
def zhq:(Int × ((Option (Option ((Int × Unit)→Option (Bool × Unit)))) × Unit))→Option (Bool × Unit):=fun (x0,x1,()) =>
  Option.bind x1 fun q0=>Option.bind q0 fun q1=>Option.bind (q1 (x0,())) fun q2=>bif q2.1 then some (false,()) else some (true,())
abbrev zrJ:Fun:=⟨293,(ch [(.int .u8),(.ptr (.fn (ch [(.int .u8)]) (ch [.bool])))]),(ch [.bool]),0,zhq⟩
theorem zB1:Sq zrJ:=ms0 (d:=false) (K:=0) Tryz.func293 (by kernel_rfl) (funext fun (x0,x1,())=>by kernel_rfl)
abbrev vh:Type:=(List Int) × (Option ((Int × Unit)→Option (Bool × Unit))) × Int × Int
abbrev zoa:vh→St:=fun (v0,v1,v7,v8)=>St.mk [(0,.dat (.sl (.int IntKind.u8)) v0),(1,.dat (.fn (.pair (.int IntKind.u8) .unit) (.pair .bool .unit)) v1),(7,.dat tI v7),(8,.dat tI v8)] []
def zcV (k0:vh→Option (Int × Unit)):vh→Option (Int × Unit):=fun (v0,v1,v7,v8) =>
  bif decide (v8 < v7) then inR v8 ((List.length v0):Int) (Option.bind v1 fun q0=>Option.bind (q0 (ix (ze (.int IntKind.u8)) v0 v8,())) fun q1=>bif q1.1 then some (v8,()) else k0 (v0,v1,v7,wI (v8 + 1))) else some ((-1),())
abbrev zg0 (K:Nat):vh→Option (Int × Unit):=zm zcV K
theorem zob (K:Nat):∀ n,evV Es0 K Tryz.f323 0 (ch [tI]) [1,0,1,0] [] zoa n = zm zcV n:=zv fun n0 (v0,v1,v7,v8)=>by kernel_rfl
def zeh (L0:vh→Option (Int × Unit)):((List Int) × ((Option ((Int × Unit)→Option (Bool × Unit))) × Unit))→Option (Int × Unit):=fun (x0,x1,()) =>
  L0 (x0,x1,((List.length x0):Int),0)
def zbc:((List Int) × ((Option ((Int × Unit)→Option (Bool × Unit))) × Unit))→Option (Int × Unit):=zeh (zg0 K0)
abbrev ziv:Fun:=⟨323,(ch [(.sl (.int .u8)),(.fn (ch [(.int .u8)]) (ch [.bool]))]),(ch [tI]),0,zbc⟩
theorem zqU:Sq ziv:=ml0 (d:=false) (S:=fun K=>zeh (zg0 K)) Tryz.func323 (by kernel_rfl) (fun K=>tr1 (T:=zeh) (zob K K) fun (x0,x1,())=>by kernel_rfl) rfl
def zhr:(Int × Unit)→Option (Bool × Unit):=fun (x0,()) =>
  bif decide (x0 ≥ 48) then bif decide (x0 ≤ 57) then some (true,()) else some (false,()) else some (false,())
abbrev zrK:Fun:=⟨227,(ch [(.int .u8)]),(ch [.bool]),0,zhr⟩
theorem zB2:Sq zrK:=ms0 (d:=false) (K:=0) Tryz.func227 (by kernel_rfl) (funext fun (x0,())=>by kernel_rfl)
abbrev jA:Type:=(List qO) × (Option ((qO × Unit)→Option (Bool × Unit))) × Int × Int
abbrev zlj:jA→St:=fun (v0,v1,v7,v8)=>St.mk [(0,.dat (.sl qN) v0),(1,.dat (.fn (.pair qN .unit) (.pair .bool .unit)) v1),(7,.dat tI v7),(8,.dat tI v8)] []
def zaT (k0:jA→Option (Int × Unit)):jA→Option (Int × Unit):=fun (v0,v1,v7,v8) =>
  bif decide (v8 < v7) then inR v8 ((List.length v0):Int) (Option.bind v1 fun q0=>Option.bind (q0 (ix zpv v0 v8,())) fun q1=>bif q1.1 then some (v8,()) else k0 (v0,v1,v7,wI (v8 + 1))) else some ((-1),())
abbrev zeJ (K:Nat):jA→Option (Int × Unit):=zm zaT K
theorem zlk (K:Nat):∀ n,evV Es0 K Tryz.f311 0 (ch [tI]) [1,0,1,0] [] zlj n = zm zaT n:=zv fun n0 (v0,v1,v7,v8)=>by kernel_rfl
def zcp (L0:jA→Option (Int × Unit)):((List qO) × ((Option ((qO × Unit)→Option (Bool × Unit))) × Unit))→Option (Int × Unit):=fun (x0,x1,()) =>
  L0 (x0,x1,((List.length x0):Int),0)
def yH:((List qO) × ((Option ((qO × Unit)→Option (Bool × Unit))) × Unit))→Option (Int × Unit):=zcp (zeJ K0)
abbrev zfT:Fun:=⟨311,(ch [(.sl qN),(.fn (ch [qN]) (ch [.bool]))]),(ch [tI]),0,yH⟩
theorem znF:Sq zfT:=ml0 (d:=false) (S:=fun K=>zcp (zeJ K)) Tryz.func311 (by kernel_rfl) (fun K=>tr1 (T:=zcp) (zlk K K) fun (x0,x1,())=>by kernel_rfl) rfl
abbrev yi:Type:=(List qO) × Int × Int × List ByteArray
abbrev zqV:yi→St:=fun (v7,v8,v9,o0)=>St.mk [(3,.ow 0),(7,.dat (.sl qN) v7),(8,.dat tI v8),(9,.dat tI v9)] [.row .str o0 false]
def yj (k0:yi→Option ((List ByteArray) × Unit)):yi→Option ((List ByteArray) × Unit):=fun (v7,v8,v9,o0) =>
  bif decide (v9 < v8) then inR v9 ((List.length v7):Int) (bif decide (List.length o0 + List.length (zj (List.replicate 1 (ze .str)) 0 (ix zpv v7 v9).1) ≤ lim) then k0 (v7,v8,wI (v9 + 1),o0 ++ zj (List.replicate 1 (ze .str)) 0 (ix zpv v7 v9).1) else none) else some (o0,())
abbrev ziw (K:Nat):yi→Option ((List ByteArray) × Unit):=zm yj K
theorem zqW (K:Nat):∀ n,evV Es0 K Tryz.f259 0 (ch [(.sl .str)]) [1,1,0,1,0] [] zqV n = zm yj n:=zv fun n0 (v7,v8,v9,o0)=>by kernel_rfl
def zfC (L0:yi→Option ((List ByteArray) × Unit)):(zd × Unit)→Option ((List ByteArray) × Unit):=fun (x0,()) =>
  L0 (x0.2.2.1,((List.length x0.2.2.1):Int),0,[])
def zfD:(zd × Unit)→Option ((List ByteArray) × Unit):=zfC (ziw K0)
abbrev zkr:Fun:=⟨259,(ch [zy]),(ch [(.sl .str)]),0,zfD⟩
theorem ztv:Sq zkr:=ml0 (d:=false) (S:=fun K=>zfC (ziw K)) Tryz.func259 (by kernel_rfl) (fun K=>tr1 (T:=zfC) (zqW K K) fun (x0,())=>by kernel_rfl) rfl
abbrev zcW:Type:=(List ByteArray) × (List ByteArray) × Int × Int × List (ByteArray × Int)
abbrev zyk:zcW→St:=fun (v0,v7,v8,v9,o0)=>St.mk [(0,.dat (.sl .str) v0),(3,.om 0),(7,.dat (.sl .str) v7),(8,.dat tI v8),(9,.dat tI v9)] [.mp .str tI o0]
def zcX (k0:zcW→Option (Bool × Unit)):zcW→Option (Bool × Unit):=fun (v0,v7,v8,v9,o0) =>
  bif decide (v9 < v8) then inR v9 ((List.length v7):Int) (k0 (v0,v7,v8,wI (v9 + 1),yt .str o0 (List.getD v7 (Int.toNat v9) (ze .str)) (wI (zcl .str (0:Int) o0 (List.getD v7 (Int.toNat v9) (ze .str)) + 1)))) else bif ((List.length o0):Int) == ((List.length v0):Int) then some (true,()) else some (false,())
abbrev zoc (K:Nat):zcW→Option (Bool × Unit):=zm zcX K
theorem zyl (K:Nat):∀ n,evV Es0 K Tryz.f258 0 (ch [.bool]) [1,1,0,1,0] [] zyk n = zm zcX n:=zv fun n0 (v0,v7,v8,v9,o0)=>by kernel_rfl
def zll (L0:zcW→Option (Bool × Unit)):((List ByteArray) × Unit)→Option (Bool × Unit):=fun (x0,()) =>
  L0 (x0,x0,((List.length x0):Int),0,[])
def zlm:((List ByteArray) × Unit)→Option (Bool × Unit):=zll (zoc K0)
abbrev zrL:Fun:=⟨258,(ch [(.sl .str)]),(ch [.bool]),0,zlm⟩
theorem zB3:Sq zrL:=ml0 (d:=false) (S:=fun K=>zll (zoc K)) Tryz.func258 (by kernel_rfl) (fun K=>tr1 (T:=zll) (zyl K K) fun (x0,())=>by kernel_rfl) rfl
def zeK:(Int × Unit)→Option (zA × (Int × Unit)):=fun (x0,()) =>
  bif decide (x0 < 0) then some ((0,0,()),1,()) else bif decide (x0 ≥ 64) then some ((0,0,()),1,()) else bif decide (x0 < 0) then none else some ((0,wU (1 * 2 ^ min (Int.toNat x0) (IntKind.bits IntKind.u64)),()),0,())
abbrev zrM:Fun:=⟨142,(ch [tI]),(ch [zD,tI]),0,zeK⟩
theorem zB4:Sq zrM:=ms0 (d:=false) (K:=0) Tryz.func142 (by kernel_rfl) (funext fun (x0,())=>by kernel_rfl)
abbrev yL:Type:=(List zA) × Int × Int × zA
abbrev zrN:yL→St:=fun (v0,v7,v8,o0)=>St.mk [(0,.dat (.sl zD) v0),(3,.bp 0 []),(7,.dat tI v7),(8,.dat tI v8)] [.bx (.dat zD o0) false]
def yM (k0:yL→Option (Int × Unit)):yL→Option (Int × Unit):=fun (v0,v7,v8,o0) =>
  bif decide (v8 < v7) then inR v8 ((List.length v0):Int) (bif eqI zD o0 (ix qK v0 v8) then some (v8,()) else k0 (v0,v7,wI (v8 + 1),o0)) else some ((-1),())
abbrev zjJ (K:Nat):yL→Option (Int × Unit):=zm yM K
theorem zrO (K:Nat):∀ n,evV Es0 K Tryz.f312 0 (ch [tI]) [1,0,1,0] [] zrN n = zm yM n:=zv fun n0 (v0,v7,v8,o0)=>by kernel_rfl
def zgz (L0:yL→Option (Int × Unit)):((List zA) × (zA × Unit))→Option (Int × Unit):=fun (x0,x1,()) =>
  L0 (x0,((List.length x0):Int),0,x1)
def zgA:((List zA) × zA × Unit)→Option (Int × Unit):=zgz (zjJ K0)
abbrev zln:Fun:=⟨312,(ch [(.sl zD),zD]),(ch [tI]),0,zgA⟩
theorem zuR:Sq zln:=ml0 (d:=false) (S:=fun K=>zgz (zjJ K)) Tryz.func312 (by kernel_rfl) (fun K=>tr1 (T:=zgz) (zrO K K) fun (x0,x1,())=>by kernel_rfl) rfl
def zgB:(zA × ((Option Int) × Unit))→Option (Bool × Unit):=fun (x0,x1,()) =>
  Option.bind x1 fun q0=>bif wU (↑(BitVec.toNat (BitVec.ofInt (IntKind.bits IntKind.u64) x0.2.1 &&& ~~~BitVec.ofInt (IntKind.bits IntKind.u64) q0)):Int) != 0 then some (true,()) else some (false,())
abbrev zlo:Fun:=⟨261,(ch [zD,(.ptr tU)]),(ch [.bool]),0,zgB⟩
theorem zuS:Sq zlo:=ms0 (d:=false) (K:=0) Tryz.func261 (by kernel_rfl) (funext fun (x0,x1,())=>by kernel_rfl)
def zhs:(zbG × Unit)→Option ((List Int) × Unit):=fun (x0,()) =>
  some ([x0.1,x0.2.1,x0.2.2.1,x0.2.2.2.1,x0.2.2.2.2.1],())
abbrev zmK:Fun:=⟨263,(ch [zcS]),(ch [(.sl tI)]),0,zhs⟩
theorem zwD:Sq zmK:=ms0 (d:=false) (K:=0) Tryz.func263 (by kernel_rfl) (funext fun (x0,())=>by kernel_rfl)
def zbd:(zg × ((Option (Option ((zg × Unit)→Option (Bool × Unit)))) × Unit))→Option (Bool × Unit):=fun (x0,x1,()) =>
  Option.bind x1 fun q0=>Option.bind q0 fun q1=>Option.bind (q1 (x0,())) fun q2=>bif q2.1 then some (false,()) else some (true,())
abbrev zix:Fun:=⟨177,(ch [zn,(.ptr (.fn (ch [zn]) (ch [.bool])))]),(ch [.bool]),0,zbd⟩
theorem zqX:Sq zix:=ms0 (d:=false) (K:=0) Tryz.func177 (by kernel_rfl) (funext fun (x0,x1,())=>by kernel_rfl)
abbrev jU:Type:=(List zg) × (Option ((zg × Unit)→Option (Bool × Unit))) × Int × Int
abbrev znG:jU→St:=fun (v0,v1,v7,v8)=>St.mk [(0,.dat (.sl zn) v0),(1,.dat (.fn (.pair zn .unit) (.pair .bool .unit)) v1),(7,.dat tI v7),(8,.dat tI v8)] []
def zcq (k0:jU→Option (Int × Unit)):jU→Option (Int × Unit):=fun (v0,v1,v7,v8) =>
  bif decide (v8 < v7) then inR v8 ((List.length v0):Int) (Option.bind v1 fun q0=>Option.bind (q0 (ix zf v0 v8,())) fun q1=>bif q1.1 then some (v8,()) else k0 (v0,v1,v7,wI (v8 + 1))) else some ((-1),())
abbrev zfU (K:Nat):jU→Option (Int × Unit):=zm zcq K
theorem znH (K:Nat):∀ n,evV Es0 K Tryz.f264 0 (ch [tI]) [1,0,1,0] [] znG n = zm zcq n:=zv fun n0 (v0,v1,v7,v8)=>by kernel_rfl
def zdy (L0:jU→Option (Int × Unit)):((List zg) × ((Option ((zg × Unit)→Option (Bool × Unit))) × Unit))→Option (Int × Unit):=fun (x0,x1,()) =>
  L0 (x0,x1,((List.length x0):Int),0)
def zar:((List zg) × ((Option ((zg × Unit)→Option (Bool × Unit))) × Unit))→Option (Int × Unit):=zdy (zfU K0)
abbrev zht:Fun:=⟨264,(ch [(.sl zn),(.fn (ch [zn]) (ch [.bool]))]),(ch [tI]),0,zar⟩
theorem zpz:Sq zht:=ml0 (d:=false) (S:=fun K=>zdy (zfU K)) Tryz.func264 (by kernel_rfl) (fun K=>tr1 (T:=zdy) (znH K K) fun (x0,x1,())=>by kernel_rfl) rfl
abbrev vi:Type:=(List qX) × (Option ((qX × Unit)→Option (Bool × Unit))) × Int × Int
abbrev zod:vi→St:=fun (v0,v1,v7,v8)=>St.mk [(0,.dat (.sl qh) v0),(1,.dat (.fn (.pair qh .unit) (.pair .bool .unit)) v1),(7,.dat tI v7),(8,.dat tI v8)] []
def zcY (k0:vi→Option (Int × Unit)):vi→Option (Int × Unit):=fun (v0,v1,v7,v8) =>
  bif decide (v8 < v7) then inR v8 ((List.length v0):Int) (Option.bind v1 fun q0=>Option.bind (q0 (ix ztd v0 v8,())) fun q1=>bif q1.1 then some (v8,()) else k0 (v0,v1,v7,wI (v8 + 1))) else some ((-1),())
abbrev zg1 (K:Nat):vi→Option (Int × Unit):=zm zcY K
theorem zoe (K:Nat):∀ n,evV Es0 K Tryz.f265 0 (ch [tI]) [1,0,1,0] [] zod n = zm zcY n:=zv fun n0 (v0,v1,v7,v8)=>by kernel_rfl
def zei (L0:vi→Option (Int × Unit)):((List qX) × ((Option ((qX × Unit)→Option (Bool × Unit))) × Unit))→Option (Int × Unit):=fun (x0,x1,()) =>
  L0 (x0,x1,((List.length x0):Int),0)
def zbe:((List qX) × ((Option ((qX × Unit)→Option (Bool × Unit))) × Unit))→Option (Int × Unit):=zei (zg1 K0)
abbrev ziy:Fun:=⟨265,(ch [(.sl qh),(.fn (ch [qh]) (ch [.bool]))]),(ch [tI]),0,zbe⟩
theorem zqY:Sq ziy:=ml0 (d:=false) (S:=fun K=>zei (zg1 K)) Tryz.func265 (by kernel_rfl) (fun K=>tr1 (T:=zei) (zoe K K) fun (x0,x1,())=>by kernel_rfl) rfl
def zeL:(zI × Unit)→Option (Bool × Unit):=fun (x0,()) =>
  bif decide (x0.1 ≥ 0) then bif decide (x0.1 ≤ 127) then bif decide (x0.2.1 ≥ 0) then bif decide (x0.2.1 ≤ 127) then some (true,()) else some (false,()) else some (false,()) else some (false,()) else some (false,())
abbrev zrP:Fun:=⟨266,(ch [zB]),(ch [.bool]),0,zeL⟩
theorem zB5:Sq zrP:=ms0 (d:=false) (K:=0) Tryz.func266 (by kernel_rfl) (funext fun (x0,())=>by kernel_rfl)
def zhu:(Int × Unit)→Option (Bool × Unit):=fun (x0,()) =>
  bif decide (x0 ≥ 0) then bif decide (x0 < 6) then some (true,()) else some (false,()) else some (false,())
abbrev zrQ:Fun:=⟨267,(ch [tI]),(ch [.bool]),0,zhu⟩
theorem zB6:Sq zrQ:=ms0 (d:=false) (K:=0) Tryz.func267 (by kernel_rfl) (funext fun (x0,())=>by kernel_rfl)
def zfc:(z8 × ((Option zI) × ((Option Int) × Unit)))→Option (Bool × Unit):=fun (x0,x1,x2,()) =>
  bif x0.1 then Option.bind x1 fun q0=>bif eqI zB x0.2.1 q0 then Option.bind x2 fun q1=>bif x0.2.2.2.1 == q1 then some (true,()) else some (false,()) else some (false,()) else some (false,())
abbrev zof:Fun:=⟨269,(ch [zV,(.ptr zB),(.ptr tI)]),(ch [.bool]),0,zfc⟩
theorem zym:Sq zof:=ms0 (d:=false) (K:=0) Tryz.func269 (by kernel_rfl) (funext fun (x0,x1,x2,())=>by kernel_rfl)
abbrev vj:Type:=(List z8) × (Option ((z8 × Unit)→Option (Bool × Unit))) × Int × Int
abbrev zog:vj→St:=fun (v0,v1,v7,v8)=>St.mk [(0,.dat (.sl zV) v0),(1,.dat (.fn (.pair zV .unit) (.pair .bool .unit)) v1),(7,.dat tI v7),(8,.dat tI v8)] []
def zcZ (k0:vj→Option (Int × Unit)):vj→Option (Int × Unit):=fun (v0,v1,v7,v8) =>
  bif decide (v8 < v7) then inR v8 ((List.length v0):Int) (Option.bind v1 fun q0=>Option.bind (q0 (ix vF v0 v8,())) fun q1=>bif q1.1 then some (v8,()) else k0 (v0,v1,v7,wI (v8 + 1))) else some ((-1),())
abbrev zg2 (K:Nat):vj→Option (Int × Unit):=zm zcZ K
theorem zoh (K:Nat):∀ n,evV Es0 K Tryz.f268 0 (ch [tI]) [1,0,1,0] [] zog n = zm zcZ n:=zv fun n0 (v0,v1,v7,v8)=>by kernel_rfl
def zej (L0:vj→Option (Int × Unit)):((List z8) × ((Option ((z8 × Unit)→Option (Bool × Unit))) × Unit))→Option (Int × Unit):=fun (x0,x1,()) =>
  L0 (x0,x1,((List.length x0):Int),0)
def yk:((List z8) × ((Option ((z8 × Unit)→Option (Bool × Unit))) × Unit))→Option (Int × Unit):=zej (zg2 K0)
abbrev ziz:Fun:=⟨268,(ch [(.sl zV),(.fn (ch [zV]) (ch [.bool]))]),(ch [tI]),0,yk⟩
theorem zqZ:Sq ziz:=ml0 (d:=false) (S:=fun K=>zej (zg2 K)) Tryz.func268 (by kernel_rfl) (fun K=>tr1 (T:=zej) (zoh K K) fun (x0,x1,())=>by kernel_rfl) rfl
abbrev vk:Type:=(List zi) × (Option ((zi × Unit)→Option (Bool × Unit))) × Int × Int
abbrev zoi:vk→St:=fun (v0,v1,v7,v8)=>St.mk [(0,.dat (.sl zl) v0),(1,.dat (.fn (.pair zl .unit) (.pair .bool .unit)) v1),(7,.dat tI v7),(8,.dat tI v8)] []
def zc0 (k0:vk→Option (Int × Unit)):vk→Option (Int × Unit):=fun (v0,v1,v7,v8) =>
  bif decide (v8 < v7) then inR v8 ((List.length v0):Int) (Option.bind v1 fun q0=>Option.bind (q0 (ix zO v0 v8,())) fun q1=>bif q1.1 then some (v8,()) else k0 (v0,v1,v7,wI (v8 + 1))) else some ((-1),())
abbrev zg3 (K:Nat):vk→Option (Int × Unit):=zm zc0 K
theorem zoj (K:Nat):∀ n,evV Es0 K Tryz.f270 0 (ch [tI]) [1,0,1,0] [] zoi n = zm zc0 n:=zv fun n0 (v0,v1,v7,v8)=>by kernel_rfl
def zek (L0:vk→Option (Int × Unit)):((List zi) × ((Option ((zi × Unit)→Option (Bool × Unit))) × Unit))→Option (Int × Unit):=fun (x0,x1,()) =>
  L0 (x0,x1,((List.length x0):Int),0)
def yl:((List zi) × ((Option ((zi × Unit)→Option (Bool × Unit))) × Unit))→Option (Int × Unit):=zek (zg3 K0)
abbrev ziA:Fun:=⟨270,(ch [(.sl zl),(.fn (ch [zl]) (ch [.bool]))]),(ch [tI]),0,yl⟩
theorem zq0:Sq ziA:=ml0 (d:=false) (S:=fun K=>zek (zg3 K)) Tryz.func270 (by kernel_rfl) (fun K=>tr1 (T:=zek) (zoj K K) fun (x0,x1,())=>by kernel_rfl) rfl
def zfd:(zi × Unit)→Option (qx × Unit):=fun (x0,()) =>
  some (x0.2.2,())
abbrev zwE:Fun:=⟨167,(ch [zl]),(ch [qa]),0,zfd⟩
theorem zFM:Sq zwE:=ms0 (d:=false) (K:=0) Tryz.func167 (by kernel_rfl) (funext fun (x0,())=>by kernel_rfl)
def zdz:(Int × Unit)→Option (Bool × Unit):=fun (x0,()) =>
  bif decide (x0 ≥ 0) then bif decide (x0 ≤ 127) then some (true,()) else some (false,()) else some (false,())
abbrev zwF:Fun:=⟨223,(ch [tI]),(ch [.bool]),0,zdz⟩
theorem zFN:Sq zwF:=ms0 (d:=false) (K:=0) Tryz.func223 (by kernel_rfl) (funext fun (x0,())=>by kernel_rfl)
abbrev vl:Type:=(List qq) × (Option ((qq × Unit)→Option (Bool × Unit))) × Int × Int
abbrev zok:vl→St:=fun (v0,v1,v7,v8)=>St.mk [(0,.dat (.sl zZ) v0),(1,.dat (.fn (.pair zZ .unit) (.pair .bool .unit)) v1),(7,.dat tI v7),(8,.dat tI v8)] []
def zc1 (k0:vl→Option (Int × Unit)):vl→Option (Int × Unit):=fun (v0,v1,v7,v8) =>
  bif decide (v8 < v7) then inR v8 ((List.length v0):Int) (Option.bind v1 fun q0=>Option.bind (q0 (ix zA7 v0 v8,())) fun q1=>bif q1.1 then some (v8,()) else k0 (v0,v1,v7,wI (v8 + 1))) else some ((-1),())
abbrev zg4 (K:Nat):vl→Option (Int × Unit):=zm zc1 K
theorem zol (K:Nat):∀ n,evV Es0 K Tryz.f271 0 (ch [tI]) [1,0,1,0] [] zok n = zm zc1 n:=zv fun n0 (v0,v1,v7,v8)=>by kernel_rfl
def zel (L0:vl→Option (Int × Unit)):((List qq) × ((Option ((qq × Unit)→Option (Bool × Unit))) × Unit))→Option (Int × Unit):=fun (x0,x1,()) =>
  L0 (x0,x1,((List.length x0):Int),0)
def zbf:((List qq) × ((Option ((qq × Unit)→Option (Bool × Unit))) × Unit))→Option (Int × Unit):=zel (zg4 K0)
abbrev ziB:Fun:=⟨271,(ch [(.sl zZ),(.fn (ch [zZ]) (ch [.bool]))]),(ch [tI]),0,zbf⟩
theorem zq1:Sq ziB:=ml0 (d:=false) (S:=fun K=>zel (zg4 K)) Tryz.func271 (by kernel_rfl) (fun K=>tr1 (T:=zel) (zol K K) fun (x0,x1,())=>by kernel_rfl) rfl
def zg5:(Int × Unit)→Option (Bool × Unit):=fun (x0,()) =>
  bif decide (x0 ≥ 0) then bif decide (x0 ≤ 127) then some (true,()) else some (false,()) else some (false,())
abbrev zzH:Fun:=⟨313,(ch [tI]),(ch [.bool]),0,zg5⟩
theorem zHk:Sq zzH:=ms0 (d:=false) (K:=0) Tryz.func313 (by kernel_rfl) (funext fun (x0,())=>by kernel_rfl)
def zhv:(Int × Unit)→Option (Bool × Unit):=fun (x0,()) =>
  bif decide (x0 ≥ 32) then bif decide (x0 ≤ 126) then some (true,()) else some (false,()) else some (false,())
abbrev zrR:Fun:=⟨314,(ch [(.int .u8)]),(ch [.bool]),0,zhv⟩
theorem zB7:Sq zrR:=ms0 (d:=false) (K:=0) Tryz.func314 (by kernel_rfl) (funext fun (x0,())=>by kernel_rfl)
abbrev jp:Type:=ByteArray × Int
abbrev zkN:jp→St:=fun (v0,v1)=>St.mk [(0,.dat .str v0),(1,.dat (.int IntKind.u8) v1)] []
def zL (k0:jp→Option (ByteArray × Unit)):jp→Option (ByteArray × Unit):=fun (v0,v1) =>
  bif decide ((↑(ByteArray.size v0):Int) > 0) then inR (wI ((↑(ByteArray.size v0):Int) - 1)) (↑(ByteArray.size v0):Int) (bif (↑(UInt8.toNat (List.getD (Array.toList (ByteArray.data v0)) (Int.toNat (wI ((↑(ByteArray.size v0):Int) - 1))) 0)):Int) == v1 then bif decide (0 ≤ wI ((↑(ByteArray.size v0):Int) - 1)) then bif decide (wI ((↑(ByteArray.size v0):Int) - 1) ≤ (↑(ByteArray.size v0):Int)) then k0 (ByteArray.extract v0 0 (Int.toNat (wI ((↑(ByteArray.size v0):Int) - 1))),v1) else none else none else some (v0,())) else some (v0,())
abbrev zer (K:Nat):jp→Option (ByteArray × Unit):=zm zL K
theorem zkO (K:Nat):∀ n,evV Es0 K Tryz.f331 0 (ch [.str]) [1,0,0] [] zkN n = zm zL n:=zv fun n0 (v0,v1)=>by kernel_rfl
def zbm (L0:jp→Option (ByteArray × Unit)):(ByteArray × (Int × Unit))→Option (ByteArray × Unit):=fun (x0,x1,()) =>
  L0 (x0,x1)
def zbn:(ByteArray × Int × Unit)→Option (ByteArray × Unit):=zbm (zer K0)
abbrev zfw:Fun:=⟨331,(ch [.str,(.int .u8)]),(ch [.str]),0,zbn⟩
theorem zmk:Sq zfw:=ml0 (d:=false) (S:=fun K=>zbm (zer K)) Tryz.func331 (by kernel_rfl) (fun K=>tr1 (T:=zbm) (zkO K K) fun (x0,x1,())=>by kernel_rfl) rfl
abbrev jB:Type:=ByteArray × Int
abbrev zlp:jB→St:=fun (v0,v1)=>St.mk [(0,.dat .str v0),(1,.dat (.int IntKind.u8) v1)] []
def zN (k0:jB→Option (ByteArray × Unit)):jB→Option (ByteArray × Unit):=fun (v0,v1) =>
  bif decide ((↑(ByteArray.size v0):Int) > 0) then bif decide (0 < (↑(ByteArray.size v0):Int)) then bif (↑(UInt8.toNat (List.getD (Array.toList (ByteArray.data v0)) (Int.toNat 0) 0)):Int) == v1 then bif decide (1 ≤ (↑(ByteArray.size v0):Int)) then k0 (ByteArray.extract v0 (Int.toNat 1) (ByteArray.size v0),v1) else none else some (v0,()) else none else some (v0,())
abbrev zeM (K:Nat):jB→Option (ByteArray × Unit):=zm zN K
theorem zlq (K:Nat):∀ n,evV Es0 K Tryz.f330 0 (ch [.str]) [1,0,0] [] zlp n = zm zN n:=zv fun n0 (v0,v1)=>by kernel_rfl
def zcr (L0:jB→Option (ByteArray × Unit)):(ByteArray × (Int × Unit))→Option (ByteArray × Unit):=fun (x0,x1,()) =>
  L0 (x0,x1)
def zcs:(ByteArray × Int × Unit)→Option (ByteArray × Unit):=zcr (zeM K0)
abbrev zfV:Fun:=⟨330,(ch [.str,(.int .u8)]),(ch [.str]),0,zcs⟩
theorem znI:Sq zfV:=ml0 (d:=false) (S:=fun K=>zcr (zeM K)) Tryz.func330 (by kernel_rfl) (fun K=>tr1 (T:=zcr) (zlq K K) fun (x0,x1,())=>by kernel_rfl) rfl
abbrev jV:Type:=(List zt) × (Option ((zt × Unit)→Option (Bool × Unit))) × Int × Int
abbrev znJ:jV→St:=fun (v0,v1,v7,v8)=>St.mk [(0,.dat (.sl zx) v0),(1,.dat (.fn (.pair zx .unit) (.pair .bool .unit)) v1),(7,.dat tI v7),(8,.dat tI v8)] []
def zct (k0:jV→Option (Int × Unit)):jV→Option (Int × Unit):=fun (v0,v1,v7,v8) =>
  bif decide (v8 < v7) then inR v8 ((List.length v0):Int) (Option.bind v1 fun q0=>Option.bind (q0 (ix qD v0 v8,())) fun q1=>bif q1.1 then some (v8,()) else k0 (v0,v1,v7,wI (v8 + 1))) else some ((-1),())
abbrev zfW (K:Nat):jV→Option (Int × Unit):=zm zct K
theorem znK (K:Nat):∀ n,evV Es0 K Tryz.f274 0 (ch [tI]) [1,0,1,0] [] znJ n = zm zct n:=zv fun n0 (v0,v1,v7,v8)=>by kernel_rfl
def zdA (L0:jV→Option (Int × Unit)):((List zt) × ((Option ((zt × Unit)→Option (Bool × Unit))) × Unit))→Option (Int × Unit):=fun (x0,x1,()) =>
  L0 (x0,x1,((List.length x0):Int),0)
def zas:((List zt) × ((Option ((zt × Unit)→Option (Bool × Unit))) × Unit))→Option (Int × Unit):=zdA (zfW K0)
abbrev zhw:Fun:=⟨274,(ch [(.sl zx),(.fn (ch [zx]) (ch [.bool]))]),(ch [tI]),0,zas⟩
theorem zpA:Sq zhw:=ml0 (d:=false) (S:=fun K=>zdA (zfW K)) Tryz.func274 (by kernel_rfl) (fun K=>tr1 (T:=zdA) (znK K K) fun (x0,x1,())=>by kernel_rfl) rfl
def zfe:(Int × Unit)→Option (Bool × Unit):=fun (x0,()) =>
  bif decide (x0 ≥ 0) then bif decide (x0 ≤ 127) then some (true,()) else some (false,()) else some (false,())
abbrev zwG:Fun:=⟨275,(ch [tI]),(ch [.bool]),0,zfe⟩
theorem zFO:Sq zwG:=ms0 (d:=false) (K:=0) Tryz.func275 (by kernel_rfl) (funext fun (x0,())=>by kernel_rfl)
def ja:(Int × Unit)→Option (Bool × Unit):=fun (x0,()) =>
  bif decide (x0 ≥ 0) then bif decide (x0 < 4) then some (true,()) else some (false,()) else some (false,())
abbrev zrS:Fun:=⟨208,(ch [tI]),(ch [.bool]),0,ja⟩
theorem zB8:Sq zrS:=ms0 (d:=false) (K:=0) Tryz.func208 (by kernel_rfl) (funext fun (x0,())=>by kernel_rfl)
def zeN:(zkM × Unit)→Option (Bool × Unit):=fun (x0,()) =>
  bif eqI zdu x0 (x0.1,(ze zdu).2.1,-1,(ze zdu).2.2.2) then some (true,()) else some (false,())
abbrev zrT:Fun:=⟨277,(ch [zdu]),(ch [.bool]),0,zeN⟩
theorem zB9:Sq zrT:=ms0 (d:=false) (K:=0) Tryz.func277 (by kernel_rfl) (funext fun (x0,())=>by kernel_rfl)
def zaH:(Int × Unit)→Option (Bool × Unit):=fun (x0,()) =>
  bif decide (x0 < 0) then some (true,()) else bif decide (x0 > 2) then some (true,()) else some (false,())
abbrev zom:Fun:=⟨189,(ch [tI]),(ch [.bool]),0,zaH⟩
theorem zyn:Sq zom:=ms0 (d:=false) (K:=0) Tryz.func189 (by kernel_rfl) (funext fun (x0,())=>by kernel_rfl)
def zcI:(Int × (Int × Unit))→Option (Int × (Int × Unit)):=fun (x0,x1,()) =>
  some (wU (wU (wU (Int.fdiv x0 (2 ^ min (Int.toNat 32) (IntKind.bits IntKind.u64)) * Int.fdiv x1 (2 ^ min (Int.toNat 32) (IntKind.bits IntKind.u64))) + Int.fdiv (wU (wU (Int.fdiv x0 (2 ^ min (Int.toNat 32) (IntKind.bits IntKind.u64)) * wU (↑(BitVec.toNat (BitVec.ofInt (IntKind.bits IntKind.u64) x1 &&& BitVec.ofInt (IntKind.bits IntKind.u64) 4294967295)):Int)) + Int.fdiv (wU (wU (↑(BitVec.toNat (BitVec.ofInt (IntKind.bits IntKind.u64) x0 &&& BitVec.ofInt (IntKind.bits IntKind.u64) 4294967295)):Int) * wU (↑(BitVec.toNat (BitVec.ofInt (IntKind.bits IntKind.u64) x1 &&& BitVec.ofInt (IntKind.bits IntKind.u64) 4294967295)):Int))) (2 ^ min (Int.toNat 32) (IntKind.bits IntKind.u64)))) (2 ^ min (Int.toNat 32) (IntKind.bits IntKind.u64))) + Int.fdiv (wU (wU (↑(BitVec.toNat (BitVec.ofInt (IntKind.bits IntKind.u64) (wU (wU (Int.fdiv x0 (2 ^ min (Int.toNat 32) (IntKind.bits IntKind.u64)) * wU (↑(BitVec.toNat (BitVec.ofInt (IntKind.bits IntKind.u64) x1 &&& BitVec.ofInt (IntKind.bits IntKind.u64) 4294967295)):Int)) + Int.fdiv (wU (wU (↑(BitVec.toNat (BitVec.ofInt (IntKind.bits IntKind.u64) x0 &&& BitVec.ofInt (IntKind.bits IntKind.u64) 4294967295)):Int) * wU (↑(BitVec.toNat (BitVec.ofInt (IntKind.bits IntKind.u64) x1 &&& BitVec.ofInt (IntKind.bits IntKind.u64) 4294967295)):Int))) (2 ^ min (Int.toNat 32) (IntKind.bits IntKind.u64)))) &&& BitVec.ofInt (IntKind.bits IntKind.u64) 4294967295)):Int) + wU (wU (↑(BitVec.toNat (BitVec.ofInt (IntKind.bits IntKind.u64) x0 &&& BitVec.ofInt (IntKind.bits IntKind.u64) 4294967295)):Int) * Int.fdiv x1 (2 ^ min (Int.toNat 32) (IntKind.bits IntKind.u64))))) (2 ^ min (Int.toNat 32) (IntKind.bits IntKind.u64))),wU (x0 * x1),())
abbrev zks:Fun:=⟨337,(ch [tU,tU]),(ch [tU,tU]),0,zcI⟩
theorem ztw:Sq zks:=ms0 (d:=false) (K:=0) Tryz.func337 (by kernel_rfl) (funext fun (x0,x1,())=>by kernel_rfl)
def zjK:(Int × Unit)→Option (Bool × Unit):=fun (x0,()) =>
  bif decide (x0 ≥ 0) then bif decide (x0 ≤ 127) then some (true,()) else some (false,()) else some (false,())
abbrev zzI:Fun:=⟨280,(ch [tI]),(ch [.bool]),0,zjK⟩
theorem zHl:Sq zzI:=ms0 (d:=false) (K:=0) Tryz.func280 (by kernel_rfl) (funext fun (x0,())=>by kernel_rfl)
def zdB:(Int × Unit)→Option (Bool × Unit):=fun (x0,()) =>
  bif decide (x0 ≥ 0) then bif decide (x0 ≤ 127) then some (true,()) else some (false,()) else some (false,())
abbrev zwH:Fun:=⟨281,(ch [tI]),(ch [.bool]),0,zdB⟩
theorem zFP:Sq zwH:=ms0 (d:=false) (K:=0) Tryz.func281 (by kernel_rfl) (funext fun (x0,())=>by kernel_rfl)
def zdX:(zb × (zI × Unit))→Option (Bool × Unit):=fun (x0,x1,()) =>
  bif decide (x1.1 ≥ 0) then bif decide (x1.1 < ((List.length x0.2.1):Int)) then bif decide (x1.2.1 ≥ 0) then inR x1.1 ((List.length x0.2.1):Int) (bif decide (x1.2.1 < ((List.length (ix zf x0.2.1 x1.1).1):Int)) then inR x1.1 ((List.length x0.2.1):Int) (inR x1.2.1 ((List.length (ix zf x0.2.1 x1.1).1):Int) (bif (List.getD (ix zf x0.2.1 x1.1).1 (Int.toNat x1.2.1) (ze qh)).1 then some (true,()) else some (false,()))) else some (false,())) else some (false,()) else some (false,()) else some (false,())
abbrev zqa:Fun:=⟨112,(ch [zq,zB]),(ch [.bool]),0,zdX⟩
theorem zz0:Sq zqa:=ms0 (d:=false) (K:=0) Tryz.func112 (by kernel_rfl) (funext fun (x0,x1,())=>by kernel_rfl)
def zbq:(qL × (Int × Unit))→Option (Bool × Unit):=fun (x0,x1,()) =>
  bif decide (x1 ≥ 0) then bif decide (x1 < ((List.length x0.1.1):Int)) then some (true,()) else some (false,()) else some (false,())
abbrev zqb:Fun:=⟨115,(ch [qb,tI]),(ch [.bool]),0,zbq⟩
theorem zz1:Sq zqb:=ms0 (d:=false) (K:=0) Tryz.func115 (by kernel_rfl) (funext fun (x0,x1,())=>by kernel_rfl)
def qM:(qL × (Int × Unit))→Option (Bool × Unit):=fun (x0,x1,()) =>
  bif decide (x1 ≥ 0) then bif decide (x1 < ((List.length x0.1.2.2.1):Int)) then some (true,()) else some (false,()) else some (false,())
abbrev zmL:Fun:=⟨116,(ch [qb,tI]),(ch [.bool]),0,qM⟩
theorem zwI:Sq zmL:=ms0 (d:=false) (K:=0) Tryz.func116 (by kernel_rfl) (funext fun (x0,x1,())=>by kernel_rfl)
def zbg:(zp × ((Option (Option ((zp × Unit)→Option (Bool × Unit)))) × Unit))→Option (Bool × Unit):=fun (x0,x1,()) =>
  Option.bind x1 fun q0=>Option.bind q0 fun q1=>Option.bind (q1 (x0,())) fun q2=>bif q2.1 then some (false,()) else some (true,())
abbrev ziC:Fun:=⟨195,(ch [zo,(.ptr (.fn (ch [zo]) (ch [.bool])))]),(ch [.bool]),0,zbg⟩
theorem zq2:Sq ziC:=ms0 (d:=false) (K:=0) Tryz.func195 (by kernel_rfl) (funext fun (x0,x1,())=>by kernel_rfl)
abbrev jW:Type:=(List zp) × (Option ((zp × Unit)→Option (Bool × Unit))) × Int × Int
abbrev znL:jW→St:=fun (v0,v1,v7,v8)=>St.mk [(0,.dat (.sl zo) v0),(1,.dat (.fn (.pair zo .unit) (.pair .bool .unit)) v1),(7,.dat tI v7),(8,.dat tI v8)] []
def zcu (k0:jW→Option (Int × Unit)):jW→Option (Int × Unit):=fun (v0,v1,v7,v8) =>
  bif decide (v8 < v7) then inR v8 ((List.length v0):Int) (Option.bind v1 fun q0=>Option.bind (q0 (ix qp v0 v8,())) fun q1=>bif q1.1 then some (v8,()) else k0 (v0,v1,v7,wI (v8 + 1))) else some ((-1),())
abbrev zfX (K:Nat):jW→Option (Int × Unit):=zm zcu K
theorem znM (K:Nat):∀ n,evV Es0 K Tryz.f285 0 (ch [tI]) [1,0,1,0] [] znL n = zm zcu n:=zv fun n0 (v0,v1,v7,v8)=>by kernel_rfl
def zdC (L0:jW→Option (Int × Unit)):((List zp) × ((Option ((zp × Unit)→Option (Bool × Unit))) × Unit))→Option (Int × Unit):=fun (x0,x1,()) =>
  L0 (x0,x1,((List.length x0):Int),0)
def zat:((List zp) × ((Option ((zp × Unit)→Option (Bool × Unit))) × Unit))→Option (Int × Unit):=zdC (zfX K0)
abbrev zhx:Fun:=⟨285,(ch [(.sl zo),(.fn (ch [zo]) (ch [.bool]))]),(ch [tI]),0,zat⟩
theorem zpB:Sq zhx:=ml0 (d:=false) (S:=fun K=>zdC (zfX K)) Tryz.func285 (by kernel_rfl) (fun K=>tr1 (T:=zdC) (znM K K) fun (x0,x1,())=>by kernel_rfl) rfl
def zbh:(zH × ((Option (Option ((zH × Unit)→Option (Bool × Unit)))) × Unit))→Option (Bool × Unit):=fun (x0,x1,()) =>
  Option.bind x1 fun q0=>Option.bind q0 fun q1=>Option.bind (q1 (x0,())) fun q2=>bif q2.1 then some (false,()) else some (true,())
abbrev ziD:Fun:=⟨197,(ch [zw,(.ptr (.fn (ch [zw]) (ch [.bool])))]),(ch [.bool]),0,zbh⟩
theorem zq3:Sq ziD:=ms0 (d:=false) (K:=0) Tryz.func197 (by kernel_rfl) (funext fun (x0,x1,())=>by kernel_rfl)
abbrev jX:Type:=(List zH) × (Option ((zH × Unit)→Option (Bool × Unit))) × Int × Int
abbrev znN:jX→St:=fun (v0,v1,v7,v8)=>St.mk [(0,.dat (.sl zw) v0),(1,.dat (.fn (.pair zw .unit) (.pair .bool .unit)) v1),(7,.dat tI v7),(8,.dat tI v8)] []
def zcv (k0:jX→Option (Int × Unit)):jX→Option (Int × Unit):=fun (v0,v1,v7,v8) =>
  bif decide (v8 < v7) then inR v8 ((List.length v0):Int) (Option.bind v1 fun q0=>Option.bind (q0 (ix zhn v0 v8,())) fun q1=>bif q1.1 then some (v8,()) else k0 (v0,v1,v7,wI (v8 + 1))) else some ((-1),())
abbrev zfY (K:Nat):jX→Option (Int × Unit):=zm zcv K
theorem znO (K:Nat):∀ n,evV Es0 K Tryz.f286 0 (ch [tI]) [1,0,1,0] [] znN n = zm zcv n:=zv fun n0 (v0,v1,v7,v8)=>by kernel_rfl
def zdD (L0:jX→Option (Int × Unit)):((List zH) × ((Option ((zH × Unit)→Option (Bool × Unit))) × Unit))→Option (Int × Unit):=fun (x0,x1,()) =>
  L0 (x0,x1,((List.length x0):Int),0)
def zau:((List zH) × ((Option ((zH × Unit)→Option (Bool × Unit))) × Unit))→Option (Int × Unit):=zdD (zfY K0)
abbrev zhy:Fun:=⟨286,(ch [(.sl zw),(.fn (ch [zw]) (ch [.bool]))]),(ch [tI]),0,zau⟩
theorem zpC:Sq zhy:=ml0 (d:=false) (S:=fun K=>zdD (zfY K)) Tryz.func286 (by kernel_rfl) (fun K=>tr1 (T:=zdD) (znO K K) fun (x0,x1,())=>by kernel_rfl) rfl
def zcJ:(Int × ((Option (Option ((Int × Unit)→Option (Bool × Unit)))) × Unit))→Option (Bool × Unit):=fun (x0,x1,()) =>
  Option.bind x1 fun q0=>Option.bind q0 fun q1=>Option.bind (q1 (x0,())) fun q2=>bif q2.1 then some (false,()) else some (true,())
abbrev zkt:Fun:=⟨198,(ch [tI,(.ptr (.fn (ch [tI]) (ch [.bool])))]),(ch [.bool]),0,zcJ⟩
theorem ztx:Sq zkt:=ms0 (d:=false) (K:=0) Tryz.func198 (by kernel_rfl) (funext fun (x0,x1,())=>by kernel_rfl)
def zaC:(zA × (zA × Unit))→Option (Bool × Unit):=fun (x0,x1,()) =>
  bif decide (x0.1 ≤ x1.1) then bif wU (↑(BitVec.toNat (BitVec.ofInt (IntKind.bits IntKind.u64) x0.2.1 &&& ~~~BitVec.ofInt (IntKind.bits IntKind.u64) x1.2.1)):Int) == 0 then some (true,()) else some (false,()) else some (false,())
abbrev zt6:Fun:=⟨20,(ch [zD,zD]),(ch [.bool]),0,zaC⟩
theorem zD3:Sq zt6:=ms0 (d:=false) (K:=0) Tryz.func20 (by kernel_rfl) (funext fun (x0,x1,())=>by kernel_rfl)
def zes:(z8 × ((Option (Option ((zI × Unit)→Option (Bool × Unit)))) × Unit))→Option (Bool × Unit):=fun (x0,x1,()) =>
  bif x0.1 then Option.bind x1 fun q0=>Option.bind q0 fun q1=>Option.bind (q1 (x0.2.1,())) fun q2=>bif q2.1 then Option.bind x1 fun q3=>Option.bind q3 fun q4=>Option.bind (q4 (x0.2.2.1,())) fun q5=>bif q5.1 then some (true,()) else some (false,()) else some (false,()) else some (true,())
abbrev zmM:Fun:=⟨123,(ch [zV,(.ptr (.fn (ch [zB]) (ch [.bool])))]),(ch [.bool]),0,zes⟩
theorem zwJ:Sq zmM:=ms0 (d:=false) (K:=0) Tryz.func123 (by kernel_rfl) (funext fun (x0,x1,())=>by kernel_rfl)
def zbK:(z8 × ((Option (Option ((z8 × Unit)→Option (Bool × Unit)))) × Unit))→Option (Bool × Unit):=fun (x0,x1,()) =>
  Option.bind x1 fun q0=>Option.bind q0 fun q1=>Option.bind (q1 (x0,())) fun q2=>bif q2.1 then some (false,()) else some (true,())
abbrev zjL:Fun:=⟨201,(ch [zV,(.ptr (.fn (ch [zV]) (ch [.bool])))]),(ch [.bool]),0,zbK⟩
theorem zrU:Sq zjL:=ms0 (d:=false) (K:=0) Tryz.func201 (by kernel_rfl) (funext fun (x0,x1,())=>by kernel_rfl)
def zbL:(zi × ((Option (Option ((zI × Unit)→Option (Bool × Unit)))) × Unit))→Option (Bool × Unit):=fun (x0,x1,()) =>
  bif x0.2.2.1 != 2 then some (true,()) else Option.bind x1 fun q0=>Option.bind q0 fun q1=>Option.bind (q1 (x0.2.2.2.2.1,())) fun q2=>bif q2.1 then some (true,()) else some (false,())
abbrev zmN:Fun:=⟨125,(ch [zl,(.ptr (.fn (ch [zB]) (ch [.bool])))]),(ch [.bool]),0,zbL⟩
theorem zwK:Sq zmN:=ms0 (d:=false) (K:=0) Tryz.func125 (by kernel_rfl) (funext fun (x0,x1,())=>by kernel_rfl)
def zbM:(zi × ((Option (Option ((zi × Unit)→Option (Bool × Unit)))) × Unit))→Option (Bool × Unit):=fun (x0,x1,()) =>
  Option.bind x1 fun q0=>Option.bind q0 fun q1=>Option.bind (q1 (x0,())) fun q2=>bif q2.1 then some (false,()) else some (true,())
abbrev zjM:Fun:=⟨202,(ch [zl,(.ptr (.fn (ch [zl]) (ch [.bool])))]),(ch [.bool]),0,zbM⟩
theorem zrV:Sq zjM:=ms0 (d:=false) (K:=0) Tryz.func202 (by kernel_rfl) (funext fun (x0,x1,())=>by kernel_rfl)
def zcK:(zI × ((Option (Option ((zI × Unit)→Option (Bool × Unit)))) × Unit))→Option (Bool × Unit):=fun (x0,x1,()) =>
  Option.bind x1 fun q0=>Option.bind q0 fun q1=>Option.bind (q1 (x0,())) fun q2=>bif q2.1 then some (false,()) else some (true,())
abbrev zku:Fun:=⟨204,(ch [zB,(.ptr (.fn (ch [zB]) (ch [.bool])))]),(ch [.bool]),0,zcK⟩
theorem zty:Sq zku:=ms0 (d:=false) (K:=0) Tryz.func204 (by kernel_rfl) (funext fun (x0,x1,())=>by kernel_rfl)
abbrev vI:Type:=(List zI) × (Option ((zI × Unit)→Option (Bool × Unit))) × Int × Int
abbrev zpD:vI→St:=fun (v0,v1,v7,v8)=>St.mk [(0,.dat (.sl vf) v0),(1,.dat (.fn (.pair vf .unit) (.pair .bool .unit)) v1),(7,.dat tI v7),(8,.dat tI v8)] []
def zdE (k0:vI→Option (Int × Unit)):vI→Option (Int × Unit):=fun (v0,v1,v7,v8) =>
  bif decide (v8 < v7) then inR v8 ((List.length v0):Int) (Option.bind v1 fun q0=>Option.bind (q0 (ix qE v0 v8,())) fun q1=>bif q1.1 then some (v8,()) else k0 (v0,v1,v7,wI (v8 + 1))) else some ((-1),())
abbrev zhz (K:Nat):vI→Option (Int × Unit):=zm zdE K
theorem zpE (K:Nat):∀ n,evV Es0 K Tryz.f287 0 (ch [tI]) [1,0,1,0] [] zpD n = zm zdE n:=zv fun n0 (v0,v1,v7,v8)=>by kernel_rfl
def zeO (L0:vI→Option (Int × Unit)):((List zI) × ((Option ((zI × Unit)→Option (Bool × Unit))) × Unit))→Option (Int × Unit):=fun (x0,x1,()) =>
  L0 (x0,x1,((List.length x0):Int),0)
def zbN:((List qw) × ((Option ((qw × Unit)→Option (Bool × Unit))) × Unit))→Option (Int × Unit):=zeO (zhz K0)
abbrev zjN:Fun:=⟨287,(ch [(.sl zB),(.fn (ch [zB]) (ch [.bool]))]),(ch [tI]),0,zbN⟩
theorem zrW:Sq zjN:=ml0 (d:=false) (S:=fun K=>zeO (zhz K)) Tryz.func287 (by kernel_rfl) (fun K=>tr1 (T:=zeO) (zpE K K) fun (x0,x1,())=>by kernel_rfl) rfl
def zbO:(qq × ((Option (Option ((qq × Unit)→Option (Bool × Unit)))) × Unit))→Option (Bool × Unit):=fun (x0,x1,()) =>
  Option.bind x1 fun q0=>Option.bind q0 fun q1=>Option.bind (q1 (x0,())) fun q2=>bif q2.1 then some (false,()) else some (true,())
abbrev zjO:Fun:=⟨205,(ch [zZ,(.ptr (.fn (ch [zZ]) (ch [.bool])))]),(ch [.bool]),0,zbO⟩
theorem zrX:Sq zjO:=ms0 (d:=false) (K:=0) Tryz.func205 (by kernel_rfl) (funext fun (x0,x1,())=>by kernel_rfl)
def zbi:(zt × ((Option (Option ((zt × Unit)→Option (Bool × Unit)))) × Unit))→Option (Bool × Unit):=fun (x0,x1,()) =>
  Option.bind x1 fun q0=>Option.bind q0 fun q1=>Option.bind (q1 (x0,())) fun q2=>bif q2.1 then some (false,()) else some (true,())
abbrev ziE:Fun:=⟨206,(ch [zx,(.ptr (.fn (ch [zx]) (ch [.bool])))]),(ch [.bool]),0,zbi⟩
theorem zq4:Sq ziE:=ms0 (d:=false) (K:=0) Tryz.func206 (by kernel_rfl) (funext fun (x0,x1,())=>by kernel_rfl)
def zdF:((List zt) × Unit)→Option ((List zt) × Unit):=fun (x0,()) =>
  bif List.isEmpty x0 then zeg (some ([],())) (bif decide (List.length (List.replicate 0 (ze zx)) + List.length x0 ≤ lim) then some (List.replicate 0 (ze zx) ++ x0,()) else none) else bif decide (List.length (List.replicate 0 (ze zx)) + List.length x0 ≤ lim) then some (List.replicate 0 (ze zx) ++ x0,()) else none
abbrev zlr:Fun:=⟨32,(ch [(.sl zx)]),(ch [(.sl zx)]),1,zdF⟩
theorem zuT:Sq zlr:=ms0 (d:=false) (K:=0) Tryz.func32 (by kernel_rfl) (funext fun (x0,())=>by kernel_rfl)
def vJ:(zt × Unit)→Option (Bool × Unit):=fun (x0,()) =>
  bif x0.1 then some (true,()) else some (false,())
abbrev zmO:Fun:=⟨134,(ch [zx]),(ch [.bool]),0,vJ⟩
theorem zwL:Sq zmO:=ms0 (d:=false) (K:=0) Tryz.func134 (by kernel_rfl) (funext fun (x0,())=>by kernel_rfl)
def zdG:((Option zbH) × Unit)→Option (Bool × Unit):=fun (x0,()) =>
  bif Option.isSome x0 then Option.bind x0 fun q0=>bif Option.isSome q0.2.1 then some (true,()) else some (false,()) else some (false,())
abbrev zls:Fun:=⟨207,(ch [(.ptr vG)]),(ch [.bool]),0,zdG⟩
theorem zuU:Sq zls:=ms0 (d:=false) (K:=0) Tryz.func207 (by kernel_rfl) (funext fun (x0,())=>by kernel_rfl)
def zdH:((List zp) × Unit)→Option ((List zp) × Unit):=fun (x0,()) =>
  bif List.isEmpty x0 then zeg (some ([],())) (bif decide (List.length (List.replicate 0 (ze zo)) + List.length x0 ≤ lim) then some (List.replicate 0 (ze zo) ++ x0,()) else none) else bif decide (List.length (List.replicate 0 (ze zo)) + List.length x0 ≤ lim) then some (List.replicate 0 (ze zo) ++ x0,()) else none
abbrev zlt:Fun:=⟨23,(ch [(.sl zo)]),(ch [(.sl zo)]),1,zdH⟩
theorem zuV:Sq zlt:=ms0 (d:=false) (K:=0) Tryz.func23 (by kernel_rfl) (funext fun (x0,())=>by kernel_rfl)
def zhA:(zp × Unit)→Option (Bool × Unit):=fun (x0,()) =>
  bif x0.1 then some (true,()) else some (false,())
abbrev zrY:Fun:=⟨339,(ch [zo]),(ch [.bool]),0,zhA⟩
theorem zCa:Sq zrY:=ms0 (d:=false) (K:=0) Tryz.func339 (by kernel_rfl) (funext fun (x0,())=>by kernel_rfl)
def zdI:((Option zdv) × Unit)→Option (Bool × Unit):=fun (x0,()) =>
  bif Option.isSome x0 then Option.bind x0 fun q0=>bif Option.isSome q0.2.1 then some (true,()) else some (false,()) else some (false,())
abbrev zlu:Fun:=⟨340,(ch [(.ptr yG)]),(ch [.bool]),0,zdI⟩
theorem zuW:Sq zlu:=ms0 (d:=false) (K:=0) Tryz.func340 (by kernel_rfl) (funext fun (x0,())=>by kernel_rfl)
def zgg:(zp × Unit)→Option (Int × Unit):=fun (x0,()) =>
  bif x0.2.2.2.1 == 2 then some (x0.2.2.2.2.1,()) else some (x0.2.2.2.2.2.1,())
abbrev zqc:Fun:=⟨289,(ch [zo]),(ch [tI]),0,zgg⟩
theorem zz2:Sq zqc:=ms0 (d:=false) (K:=0) Tryz.func289 (by kernel_rfl) (funext fun (x0,())=>by kernel_rfl)
end
end Go.Proofs.YtejbgeokcpillaaGreatDoor
end
section
namespace Go.Proofs.YtejbgeokcpillaaGreatDoor
open Go.Ev
noncomputable section
def zjm:(Int × (Int × Unit))→Option (Int × (Int × Unit)):=fun (x0,x1,()) =>
  bif decide (0 ≤ x0) then bif decide (0 ≤ x1) then bif decide (x1 < 18446744073709551616) then bif extB true x0 x1 != 0 then some (0,7,()) else bif decide (extA true x0 x1 > 4611686018427387904) then some (0,7,()) else some (extA true x0 x1,0,()) else none else none else none
abbrev zt7:Fun:=⟨291,(ch [tU,tU]),(ch [tU,tI]),0,zjm⟩
theorem zD4:Sq zt7:=ms0 (d:=false) (K:=0) Tryz.func291 (by kernel_rfl) (funext fun (x0,x1,())=>by kernel_rfl)
def zgh:(zt × Unit)→Option (Bool × Unit):=fun (x0,()) =>
  bif x0.1 then some (true,()) else some (false,())
abbrev zqd:Fun:=⟨321,(ch [zx]),(ch [.bool]),0,zgh⟩
theorem zz3:Sq zqd:=ms0 (d:=false) (K:=0) Tryz.func321 (by kernel_rfl) (funext fun (x0,())=>by kernel_rfl)
def ziV:(zg × Unit)→Option ((List Int) × Unit):=fun (x0,()) =>
  some (x0.2.2.2.2.2.2.2.1,())
abbrev zon:Fun:=⟨213,(ch [zn]),(ch [(.arr 4 tU)]),0,ziV⟩
theorem zyo:Sq zon:=ms0 (d:=false) (K:=0) Tryz.func213 (by kernel_rfl) (funext fun (x0,())=>by kernel_rfl)
def ziW:(zg × Unit)→Option ((List Int) × Unit):=fun (x0,()) =>
  some (x0.2.2.2.2.2.2.2.2.1,())
abbrev zoo:Fun:=⟨214,(ch [zn]),(ch [(.arr 4 tU)]),0,ziW⟩
theorem zyp:Sq zoo:=ms0 (d:=false) (K:=0) Tryz.func214 (by kernel_rfl) (funext fun (x0,())=>by kernel_rfl)
def zhB:(Int × (Int × Unit))→Option (Int × (Int × Unit)):=fun (x0,x1,()) =>
  bif decide (0 ≤ x0) then bif decide (0 ≤ x1) then bif decide (x1 < 18446744073709551616) then bif extB false x0 x1 != 0 then some (0,6,()) else some (extA false x0 x1,0,()) else none else none else none
abbrev zrZ:Fun:=⟨215,(ch [tU,tU]),(ch [tU,tI]),0,zhB⟩
theorem zCb:Sq zrZ:=ms0 (d:=false) (K:=0) Tryz.func215 (by kernel_rfl) (funext fun (x0,x1,())=>by kernel_rfl)
def zgi:(zd × (zbG × Unit))→Option (zg × Unit):=fun (x0,x1,()) =>
  bif decide (0 ≤ x1.1) then bif decide (x1.1 ≤ x1.1) then bif decide (x1.1 ≤ (↑lim:Int)) then bif decide (0 ≤ x1.2.1) then bif decide (x1.2.1 ≤ x1.2.1) then bif decide (x1.2.1 ≤ (↑lim:Int)) then bif decide (0 ≤ x1.2.2.1) then bif decide (x1.2.2.1 ≤ x1.2.2.1) then bif decide (x1.2.2.1 ≤ (↑lim:Int)) then bif decide (0 ≤ x1.2.2.2.1) then bif decide (x1.2.2.2.1 ≤ x1.2.2.2.1) then bif decide (x1.2.2.2.1 ≤ (↑lim:Int)) then bif decide (0 ≤ x1.2.2.2.2.1) then bif decide (x1.2.2.2.2.1 ≤ x1.2.2.2.2.1) then bif decide (x1.2.2.2.2.1 ≤ (↑lim:Int)) then bif decide (((List.length x0.2.2.1):Int) ≤ ((List.length x0.2.2.1):Int)) then bif decide (((List.length x0.2.2.1):Int) ≤ (↑lim:Int)) then bif decide (((List.length x0.2.2.1):Int) ≤ ((List.length x0.2.2.1):Int)) then bif decide (((List.length x0.2.2.1):Int) ≤ (↑lim:Int)) then some ((List.replicate (Int.toNat x1.1) (ze qh),List.replicate (Int.toNat x1.2.1) (ze zV),List.replicate (Int.toNat x1.2.2.1) (ze zl),List.replicate (Int.toNat x1.2.2.2.1) (ze zZ),List.replicate (Int.toNat x1.2.2.2.2.1) (ze zx),List.replicate (Int.toNat ((List.length x0.2.2.1):Int)) (ze (.arr 4 tU)),List.replicate (Int.toNat ((List.length x0.2.2.1):Int)) (ze zB),[0,0,0,0],[0,0,0,0],()),()) else none else none else none else none else none else none else none else none else none else none else none else none else none else none else none else none else none else none else none
abbrev zqe:Fun:=⟨96,(ch [zy,zcS]),(ch [zn]),3,zgi⟩
theorem zz4:Sq zqe:=ms0 (d:=true) (K:=0) Tryz.func96 (by kernel_rfl) (funext fun (x0,x1,())=>by kernel_rfl)
def zjn:(zd × (zb × Unit))→Option (Bool × Unit):=fun (x0,x1,()) =>
  bif ((List.length x1.2.1):Int) == ((List.length x0.1):Int) then bif ((List.length x1.2.2.1):Int) == ((List.length x0.2.2.2.1):Int) then bif ((List.length x1.2.2.2.2.2.1):Int) == ((List.length x0.2.1):Int) then some (true,()) else some (false,()) else some (false,()) else some (false,())
abbrev zt8:Fun:=⟨139,(ch [zy,zq]),(ch [.bool]),0,zjn⟩
theorem zD5:Sq zt8:=ms0 (d:=false) (K:=0) Tryz.func139 (by kernel_rfl) (funext fun (x0,x1,())=>by kernel_rfl)
def zgj:(Int × ((Option (Option ((Int × Unit)→Option (Bool × Unit)))) × ((Option zd) × Unit)))→Option (Bool × Unit):=fun (x0,x1,x2,()) =>
  Option.bind x1 fun q0=>Option.bind x2 fun q1=>inR x0 ((List.length q1.2.1):Int) (Option.bind q0 fun q2=>Option.bind (q2 (ix (0:Int) q1.2.1 x0,())) fun q3=>bif q3.1 then some (true,()) else some (false,()))
abbrev zqf:Fun:=⟨143,(ch [tI,(.ptr (.fn (ch [tI]) (ch [.bool]))),(.ptr zy)]),(ch [.bool]),0,zgj⟩
theorem zz5:Sq zqf:=ms0 (d:=false) (K:=0) Tryz.func143 (by kernel_rfl) (funext fun (x0,x1,x2,())=>by kernel_rfl)
abbrev vm:Type:=(List zg) × (List zg) × (Option ((Int × Unit)→Option (Bool × Unit))) × Int × Int × List zg × Nat
abbrev zop:vm→St:=fun (v0,v1,v2,v10,v11,o0,c0)=>St.mk [(0,.dat (.sl zn) v0),(1,.dat (.sl zn) v1),(2,.dat (.fn (.pair tI .unit) (.pair .bool .unit)) v2),(7,.ow 0),(10,.dat tI v10),(11,.dat tI v11)] [.drow zn o0 c0]
def vn (k0:vm→Option ((List zg) × Unit)):vm→Option ((List zg) × Unit):=fun (v0,v1,v2,v10,v11,o0,c0) =>
  bif decide (v11 < v10) then Option.bind v2 fun q0=>Option.bind (q0 (v11,())) fun q1=>bif q1.1 then inR v11 ((List.length v0):Int) (bif decide (List.length o0 + List.length (zj (List.replicate 1 (ze zn)) 0 (ix zf v0 v11)) ≤ lim) then k0 (v0,v1,v2,v10,wI (v11 + 1),o0 ++ zj (List.replicate 1 (ze zn)) 0 (ix zf v0 v11),c0) else none) else inR v11 ((List.length v1):Int) (bif decide (List.length o0 + List.length (zj (List.replicate 1 (ze zn)) 0 (ix zf v1 v11)) ≤ lim) then k0 (v0,v1,v2,v10,wI (v11 + 1),o0 ++ zj (List.replicate 1 (ze zn)) 0 (ix zf v1 v11),c0) else none) else some (o0,())
abbrev zg6 (K:Nat):vm→Option ((List zg) × Unit):=zm vn K
theorem zoq (K:Nat):∀ n,evV Es0 K Tryz.f144 0 (ch [(.sl zn)]) [1,1,0,1,0] [] zop n = zm vn n:=zv fun n0 (v0,v1,v2,v10,v11,o0,c0)=>by kernel_rfl
def zem (L0:vm→Option ((List zg) × Unit)):((List zg) × ((List zg) × ((Option ((Int × Unit)→Option (Bool × Unit))) × Unit)))→Option ((List zg) × Unit):=fun (x0,x1,x2,()) =>
  L0 (x0,x1,x2,((List.length x0):Int),0,[],0)
def zen:((List zg) × ((List zg) × ((Option ((Int × Unit)→Option (Bool × Unit))) × Unit)))→Option ((List zg) × Unit):=zem (zg6 K0)
abbrev ziF:Fun:=⟨144,(ch [(.sl zn),(.sl zn),(.fn (ch [tI]) (ch [.bool]))]),(ch [(.sl zn)]),0,zen⟩
theorem zq5:Sq ziF:=ml0 (d:=false) (S:=fun K=>zem (zg6 K)) Tryz.func144 (by kernel_rfl) (fun K=>tr1 (T:=zem) (zoq K K) fun (x0,x1,x2,())=>by kernel_rfl) rfl
abbrev vK:Type:=(List (List Int)) × (List (List Int)) × (Option ((Int × Unit)→Option (Bool × Unit))) × Int × Int × List (List Int) × Nat
abbrev zpF:vK→St:=fun (v0,v1,v2,v10,v11,o0,c0)=>St.mk [(0,.dat (.sl (.sl tI)) v0),(1,.dat (.sl (.sl tI)) v1),(2,.dat (.fn (.pair tI .unit) (.pair .bool .unit)) v2),(7,.ow 0),(10,.dat tI v10),(11,.dat tI v11)] [.drow (.sl tI) o0 c0]
def vL (k0:vK→Option ((List (List Int)) × Unit)):vK→Option ((List (List Int)) × Unit):=fun (v0,v1,v2,v10,v11,o0,c0) =>
  bif decide (v11 < v10) then Option.bind v2 fun q0=>Option.bind (q0 (v11,())) fun q1=>bif q1.1 then inR v11 ((List.length v0):Int) (bif decide (List.length o0 + List.length (zj (List.replicate 1 ([]:List Int)) 0 (List.getD v0 (Int.toNat v11) ([]:List Int))) ≤ lim) then k0 (v0,v1,v2,v10,wI (v11 + 1),o0 ++ zj (List.replicate 1 ([]:List Int)) 0 (List.getD v0 (Int.toNat v11) ([]:List Int)),c0) else none) else inR v11 ((List.length v1):Int) (bif decide (List.length o0 + List.length (zj (List.replicate 1 ([]:List Int)) 0 (List.getD v1 (Int.toNat v11) ([]:List Int))) ≤ lim) then k0 (v0,v1,v2,v10,wI (v11 + 1),o0 ++ zj (List.replicate 1 ([]:List Int)) 0 (List.getD v1 (Int.toNat v11) ([]:List Int)),c0) else none) else some (o0,())
abbrev zhC (K:Nat):vK→Option ((List (List Int)) × Unit):=zm vL K
theorem zpG (K:Nat):∀ n,evV Es0 K Tryz.f145 0 (ch [(.sl (.sl tI))]) [1,1,0,1,0] [] zpF n = zm vL n:=zv fun n0 (v0,v1,v2,v10,v11,o0,c0)=>by kernel_rfl
def zeP (L0:vK→Option ((List (List Int)) × Unit)):((List (List Int)) × ((List (List Int)) × ((Option ((Int × Unit)→Option (Bool × Unit))) × Unit)))→Option ((List (List Int)) × Unit):=fun (x0,x1,x2,()) =>
  L0 (x0,x1,x2,((List.length x0):Int),0,[],0)
def zeQ:((List (List Int)) × ((List (List Int)) × ((Option ((Int × Unit)→Option (Bool × Unit))) × Unit)))→Option ((List (List Int)) × Unit):=zeP (zhC K0)
abbrev zjP:Fun:=⟨145,(ch [(.sl (.sl tI)),(.sl (.sl tI)),(.fn (ch [tI]) (ch [.bool]))]),(ch [(.sl (.sl tI))]),0,zeQ⟩
theorem zr0:Sq zjP:=ml0 (d:=false) (S:=fun K=>zeP (zhC K)) Tryz.func145 (by kernel_rfl) (fun K=>tr1 (T:=zeP) (zpG K K) fun (x0,x1,x2,())=>by kernel_rfl) rfl
abbrev ym:Type:=(List Int) × (List Int) × (Option ((Int × Unit)→Option (Bool × Unit))) × Int × Int × List Int
abbrev zq6:ym→St:=fun (v0,v1,v2,v10,v11,o0)=>St.mk [(0,.dat (.sl tI) v0),(1,.dat (.sl tI) v1),(2,.dat (.fn (.pair tI .unit) (.pair .bool .unit)) v2),(7,.ow 0),(10,.dat tI v10),(11,.dat tI v11)] [.row tI o0 false]
def yn (k0:ym→Option ((List Int) × Unit)):ym→Option ((List Int) × Unit):=fun (v0,v1,v2,v10,v11,o0) =>
  bif decide (v11 < v10) then Option.bind v2 fun q0=>Option.bind (q0 (v11,())) fun q1=>bif q1.1 then inR v11 ((List.length v0):Int) (bif decide (List.length o0 + List.length (zj (List.replicate 1 (0:Int)) 0 (ix (0:Int) v0 v11)) ≤ lim) then k0 (v0,v1,v2,v10,wI (v11 + 1),o0 ++ zj (List.replicate 1 (0:Int)) 0 (ix (0:Int) v0 v11)) else none) else inR v11 ((List.length v1):Int) (bif decide (List.length o0 + List.length (zj (List.replicate 1 (0:Int)) 0 (ix (0:Int) v1 v11)) ≤ lim) then k0 (v0,v1,v2,v10,wI (v11 + 1),o0 ++ zj (List.replicate 1 (0:Int)) 0 (ix (0:Int) v1 v11)) else none) else some (o0,())
abbrev ziG (K:Nat):ym→Option ((List Int) × Unit):=zm yn K
theorem zq7 (K:Nat):∀ n,evV Es0 K Tryz.f146 0 (ch [(.sl tI)]) [1,1,0,1,0] [] zq6 n = zm yn n:=zv fun n0 (v0,v1,v2,v10,v11,o0)=>by kernel_rfl
def zfE (L0:ym→Option ((List Int) × Unit)):((List Int) × ((List Int) × ((Option ((Int × Unit)→Option (Bool × Unit))) × Unit)))→Option ((List Int) × Unit):=fun (x0,x1,x2,()) =>
  L0 (x0,x1,x2,((List.length x0):Int),0,[])
def zfF:((List Int) × ((List Int) × ((Option ((Int × Unit)→Option (Bool × Unit))) × Unit)))→Option ((List Int) × Unit):=zfE (ziG K0)
abbrev zkv:Fun:=⟨146,(ch [(.sl tI),(.sl tI),(.fn (ch [tI]) (ch [.bool]))]),(ch [(.sl tI)]),0,zfF⟩
theorem ztz:Sq zkv:=ml0 (d:=false) (S:=fun K=>zfE (ziG K)) Tryz.func146 (by kernel_rfl) (fun K=>tr1 (T:=zfE) (zq7 K K) fun (x0,x1,x2,())=>by kernel_rfl) rfl
def zgC:((List zH) × Unit)→Option ((List zH) × Unit):=fun (x0,()) =>
  bif List.isEmpty x0 then zeg (some ([],())) (bif decide (List.length (List.replicate 0 (ze zw)) + List.length x0 ≤ lim) then some (List.replicate 0 (ze zw) ++ x0,()) else none) else bif decide (List.length (List.replicate 0 (ze zw)) + List.length x0 ≤ lim) then some (List.replicate 0 (ze zw) ++ x0,()) else none
abbrev zlv:Fun:=⟨24,(ch [(.sl zw)]),(ch [(.sl zw)]),1,zgC⟩
theorem zuX:Sq zlv:=ms0 (d:=false) (K:=0) Tryz.func24 (by kernel_rfl) (funext fun (x0,())=>by kernel_rfl)
def zff:((List Int) × Unit)→Option ((List Int) × Unit):=fun (x0,()) =>
  bif List.isEmpty x0 then zeg (some ([],())) (bif decide (List.length (List.replicate 0 (0:Int)) + List.length x0 ≤ lim) then some (List.replicate 0 (0:Int) ++ x0,()) else none) else bif decide (List.length (List.replicate 0 (0:Int)) + List.length x0 ≤ lim) then some (List.replicate 0 (0:Int) ++ x0,()) else none
abbrev zor:Fun:=⟨25,(ch [(.sl tI)]),(ch [(.sl tI)]),1,zff⟩
theorem zyq:Sq zor:=ms0 (d:=false) (K:=0) Tryz.func25 (by kernel_rfl) (funext fun (x0,())=>by kernel_rfl)
def zhD:((List (List Int)) × Unit)→Option ((List (List Int)) × Unit):=fun (x0,()) =>
  bif List.isEmpty x0 then zeg (some ([],())) (bif decide (List.length (List.replicate 0 ([]:List Int)) + List.length x0 ≤ lim) then some (List.replicate 0 ([]:List Int) ++ x0,()) else none) else bif decide (List.length (List.replicate 0 ([]:List Int)) + List.length x0 ≤ lim) then some (List.replicate 0 ([]:List Int) ++ x0,()) else none
abbrev zmP:Fun:=⟨26,(ch [(.sl (.sl tI))]),(ch [(.sl (.sl tI))]),1,zhD⟩
theorem zwM:Sq zmP:=ms0 (d:=false) (K:=0) Tryz.func26 (by kernel_rfl) (funext fun (x0,())=>by kernel_rfl)
def zgD:((List zg) × Unit)→Option ((List zg) × Unit):=fun (x0,()) =>
  bif List.isEmpty x0 then zeg (some ([],())) (bif decide (List.length (List.replicate 0 (ze zn)) + List.length x0 ≤ lim) then some (List.replicate 0 (ze zn) ++ x0,()) else none) else bif decide (List.length (List.replicate 0 (ze zn)) + List.length x0 ≤ lim) then some (List.replicate 0 (ze zn) ++ x0,()) else none
abbrev zlw:Fun:=⟨27,(ch [(.sl zn)]),(ch [(.sl zn)]),1,zgD⟩
theorem zuY:Sq zlw:=ms0 (d:=false) (K:=0) Tryz.func27 (by kernel_rfl) (funext fun (x0,())=>by kernel_rfl)
def zhE:((List qX) × Unit)→Option ((List qX) × Unit):=fun (x0,()) =>
  bif List.isEmpty x0 then zeg (some ([],())) (bif decide (List.length (List.replicate 0 (ze qh)) + List.length x0 ≤ lim) then some (List.replicate 0 (ze qh) ++ x0,()) else none) else bif decide (List.length (List.replicate 0 (ze qh)) + List.length x0 ≤ lim) then some (List.replicate 0 (ze qh) ++ x0,()) else none
abbrev zmQ:Fun:=⟨28,(ch [(.sl qh)]),(ch [(.sl qh)]),1,zhE⟩
theorem zwN:Sq zmQ:=ms0 (d:=false) (K:=0) Tryz.func28 (by kernel_rfl) (funext fun (x0,())=>by kernel_rfl)
def zhF:((List z8) × Unit)→Option ((List z8) × Unit):=fun (x0,()) =>
  bif List.isEmpty x0 then zeg (some ([],())) (bif decide (List.length (List.replicate 0 (ze zV)) + List.length x0 ≤ lim) then some (List.replicate 0 (ze zV) ++ x0,()) else none) else bif decide (List.length (List.replicate 0 (ze zV)) + List.length x0 ≤ lim) then some (List.replicate 0 (ze zV) ++ x0,()) else none
abbrev zmR:Fun:=⟨29,(ch [(.sl zV)]),(ch [(.sl zV)]),1,zhF⟩
theorem zwO:Sq zmR:=ms0 (d:=false) (K:=0) Tryz.func29 (by kernel_rfl) (funext fun (x0,())=>by kernel_rfl)
def zbP:((List zi) × Unit)→Option ((List zi) × Unit):=fun (x0,()) =>
  bif List.isEmpty x0 then zeg (some ([],())) (bif decide (List.length (List.replicate 0 (ze zl)) + List.length x0 ≤ lim) then some (List.replicate 0 (ze zl) ++ x0,()) else none) else bif decide (List.length (List.replicate 0 (ze zl)) + List.length x0 ≤ lim) then some (List.replicate 0 (ze zl) ++ x0,()) else none
abbrev zmS:Fun:=⟨30,(ch [(.sl zl)]),(ch [(.sl zl)]),1,zbP⟩
theorem zwP:Sq zmS:=ms0 (d:=false) (K:=0) Tryz.func30 (by kernel_rfl) (funext fun (x0,())=>by kernel_rfl)
def zhG:((List qq) × Unit)→Option ((List qq) × Unit):=fun (x0,()) =>
  bif List.isEmpty x0 then zeg (some ([],())) (bif decide (List.length (List.replicate 0 (ze zZ)) + List.length x0 ≤ lim) then some (List.replicate 0 (ze zZ) ++ x0,()) else none) else bif decide (List.length (List.replicate 0 (ze zZ)) + List.length x0 ≤ lim) then some (List.replicate 0 (ze zZ) ++ x0,()) else none
abbrev zmT:Fun:=⟨31,(ch [(.sl zZ)]),(ch [(.sl zZ)]),1,zhG⟩
theorem zwQ:Sq zmT:=ms0 (d:=false) (K:=0) Tryz.func31 (by kernel_rfl) (funext fun (x0,())=>by kernel_rfl)
def zj7:((List (List Int)) × Unit)→Option ((List (List Int)) × Unit):=fun (x0,()) =>
  bif List.isEmpty x0 then zeg (some ([],())) (bif decide (List.length (List.replicate 0 (ze (.arr 4 tU))) + List.length x0 ≤ lim) then some (List.replicate 0 (ze (.arr 4 tU)) ++ x0,()) else none) else bif decide (List.length (List.replicate 0 (ze (.arr 4 tU))) + List.length x0 ≤ lim) then some (List.replicate 0 (ze (.arr 4 tU)) ++ x0,()) else none
abbrev zqg:Fun:=⟨33,(ch [(.sl (.arr 4 tU))]),(ch [(.sl (.arr 4 tU))]),1,zj7⟩
theorem zz6:Sq zqg:=ms0 (d:=false) (K:=0) Tryz.func33 (by kernel_rfl) (funext fun (x0,())=>by kernel_rfl)
def ziX:((List zI) × Unit)→Option ((List zI) × Unit):=fun (x0,()) =>
  bif List.isEmpty x0 then zeg (some ([],())) (bif decide (List.length (List.replicate 0 (ze zB)) + List.length x0 ≤ lim) then some (List.replicate 0 (ze zB) ++ x0,()) else none) else bif decide (List.length (List.replicate 0 (ze zB)) + List.length x0 ≤ lim) then some (List.replicate 0 (ze zB) ++ x0,()) else none
abbrev zos:Fun:=⟨34,(ch [(.sl zB)]),(ch [(.sl zB)]),1,ziX⟩
theorem zyr:Sq zos:=ms0 (d:=false) (K:=0) Tryz.func34 (by kernel_rfl) (funext fun (x0,())=>by kernel_rfl)
abbrev jY:Type:=(List zg) × (Option ((zg × (zg × Unit))→Option (Bool × Unit))) × (List zg) × Int × Int
abbrev znP:jY→St:=fun (v1,v2,v15,v16,v17)=>St.mk [(1,.dat (.sl zn) v1),(2,.dat (.fn (.pair zn (.pair zn .unit)) (.pair .bool .unit)) v2),(15,.dat (.sl zn) v15),(16,.dat tI v16),(17,.dat tI v17)] []
def jZ (k0:jY→Option (Bool × Unit)):jY→Option (Bool × Unit):=fun (v1,v2,v15,v16,v17) =>
  bif decide (v17 < v16) then inR v17 ((List.length v15):Int) (inR v17 ((List.length v1):Int) (Option.bind v2 fun q0=>Option.bind (q0 (ix zf v15 v17,ix zf v1 v17,())) fun q1=>bif q1.1 then k0 (v1,v2,v15,v16,wI (v17 + 1)) else some (false,()))) else some (true,())
abbrev zfZ (K:Nat):jY→Option (Bool × Unit):=zm jZ K
theorem znQ (K:Nat):∀ n,evV Es0 K Tryz.f147 0 (ch [.bool]) [1,1,0,1,0] [] znP n = zm jZ n:=zv fun n0 (v1,v2,v15,v16,v17)=>by kernel_rfl
def zdJ (L0:jY→Option (Bool × Unit)):((List zg) × ((List zg) × ((Option ((zg × (zg × Unit))→Option (Bool × Unit))) × Unit)))→Option (Bool × Unit):=fun (x0,x1,x2,()) =>
  bif ((List.length x0):Int) != ((List.length x1):Int) then some (false,()) else L0 (x1,x2,x0,((List.length x0):Int),0)
def zdK:((List zg) × ((List zg) × ((Option ((zg × zg × Unit)→Option (Bool × Unit))) × Unit)))→Option (Bool × Unit):=zdJ (zfZ K0)
abbrev zhH:Fun:=⟨147,(ch [(.sl zn),(.sl zn),(.fn (ch [zn,zn]) (ch [.bool]))]),(ch [.bool]),0,zdK⟩
theorem zpH:Sq zhH:=ml0 (d:=false) (S:=fun K=>zdJ (zfZ K)) Tryz.func147 (by kernel_rfl) (fun K=>tr1 (T:=zdJ) (znQ K K) fun (x0,x1,x2,())=>by kernel_rfl) rfl
abbrev zag:Type:=(List qX) × (List qX) × Int × Int
abbrev ztA:zag→St:=fun (v0,v1,v12,v13)=>St.mk [(0,.dat (.sl qh) v0),(1,.dat (.sl qh) v1),(12,.dat tI v12),(13,.dat tI v13)] []
def zfG (k0:zag→Option (Bool × Unit)):zag→Option (Bool × Unit):=fun (v0,v1,v12,v13) =>
  bif decide (v13 < v12) then inR v13 ((List.length v0):Int) (inR v13 ((List.length v1):Int) (bif !eqI qh (ix ztd v0 v13) (ix ztd v1 v13) then some (false,()) else k0 (v0,v1,v12,wI (v13 + 1)))) else some (true,())
abbrev zkw (K:Nat):zag→Option (Bool × Unit):=zm zfG K
theorem ztB (K:Nat):∀ n,evV Es0 K Tryz.f216 0 (ch [.bool]) [1,1,0,1,0] [] ztA n = zm zfG n:=zv fun n0 (v0,v1,v12,v13)=>by kernel_rfl
def zhI (L0:zag→Option (Bool × Unit)):((List qX) × ((List qX) × Unit))→Option (Bool × Unit):=fun (x0,x1,()) =>
  bif ((List.length x0):Int) != ((List.length x1):Int) then some (false,()) else L0 (x0,x1,((List.length x0):Int),0)
def zhJ:((List qX) × (List qX) × Unit)→Option (Bool × Unit):=zhI (zkw K0)
abbrev zmU:Fun:=⟨216,(ch [(.sl qh),(.sl qh)]),(ch [.bool]),0,zhJ⟩
theorem zwR:Sq zmU:=ml0 (d:=false) (S:=fun K=>zhI (zkw K)) Tryz.func216 (by kernel_rfl) (fun K=>tr1 (T:=zhI) (ztB K K) fun (x0,x1,())=>by kernel_rfl) rfl
abbrev zah:Type:=(List z8) × (List z8) × Int × Int
abbrev ztC:zah→St:=fun (v0,v1,v12,v13)=>St.mk [(0,.dat (.sl zV) v0),(1,.dat (.sl zV) v1),(12,.dat tI v12),(13,.dat tI v13)] []
def zfH (k0:zah→Option (Bool × Unit)):zah→Option (Bool × Unit):=fun (v0,v1,v12,v13) =>
  bif decide (v13 < v12) then inR v13 ((List.length v0):Int) (inR v13 ((List.length v1):Int) (bif !eqI zV (ix vF v0 v13) (ix vF v1 v13) then some (false,()) else k0 (v0,v1,v12,wI (v13 + 1)))) else some (true,())
abbrev zkx (K:Nat):zah→Option (Bool × Unit):=zm zfH K
theorem ztD (K:Nat):∀ n,evV Es0 K Tryz.f217 0 (ch [.bool]) [1,1,0,1,0] [] ztC n = zm zfH n:=zv fun n0 (v0,v1,v12,v13)=>by kernel_rfl
def zhK (L0:zah→Option (Bool × Unit)):((List z8) × ((List z8) × Unit))→Option (Bool × Unit):=fun (x0,x1,()) =>
  bif ((List.length x0):Int) != ((List.length x1):Int) then some (false,()) else L0 (x0,x1,((List.length x0):Int),0)
def zhL:((List z8) × (List z8) × Unit)→Option (Bool × Unit):=zhK (zkx K0)
abbrev zmV:Fun:=⟨217,(ch [(.sl zV),(.sl zV)]),(ch [.bool]),0,zhL⟩
theorem zwS:Sq zmV:=ml0 (d:=false) (S:=fun K=>zhK (zkx K)) Tryz.func217 (by kernel_rfl) (fun K=>tr1 (T:=zhK) (ztD K K) fun (x0,x1,())=>by kernel_rfl) rfl
abbrev zai:Type:=(List zi) × (List zi) × Int × Int
abbrev ztE:zai→St:=fun (v0,v1,v12,v13)=>St.mk [(0,.dat (.sl zl) v0),(1,.dat (.sl zl) v1),(12,.dat tI v12),(13,.dat tI v13)] []
def zfI (k0:zai→Option (Bool × Unit)):zai→Option (Bool × Unit):=fun (v0,v1,v12,v13) =>
  bif decide (v13 < v12) then inR v13 ((List.length v0):Int) (inR v13 ((List.length v1):Int) (bif !eqI zl (ix zO v0 v13) (ix zO v1 v13) then some (false,()) else k0 (v0,v1,v12,wI (v13 + 1)))) else some (true,())
abbrev zky (K:Nat):zai→Option (Bool × Unit):=zm zfI K
theorem ztF (K:Nat):∀ n,evV Es0 K Tryz.f218 0 (ch [.bool]) [1,1,0,1,0] [] ztE n = zm zfI n:=zv fun n0 (v0,v1,v12,v13)=>by kernel_rfl
def zhM (L0:zai→Option (Bool × Unit)):((List zi) × ((List zi) × Unit))→Option (Bool × Unit):=fun (x0,x1,()) =>
  bif ((List.length x0):Int) != ((List.length x1):Int) then some (false,()) else L0 (x0,x1,((List.length x0):Int),0)
def zhN:((List zi) × (List zi) × Unit)→Option (Bool × Unit):=zhM (zky K0)
abbrev zmW:Fun:=⟨218,(ch [(.sl zl),(.sl zl)]),(ch [.bool]),0,zhN⟩
theorem zwT:Sq zmW:=ml0 (d:=false) (S:=fun K=>zhM (zky K)) Tryz.func218 (by kernel_rfl) (fun K=>tr1 (T:=zhM) (ztF K K) fun (x0,x1,())=>by kernel_rfl) rfl
abbrev zaj:Type:=(List qq) × (List qq) × Int × Int
abbrev ztG:zaj→St:=fun (v0,v1,v12,v13)=>St.mk [(0,.dat (.sl zZ) v0),(1,.dat (.sl zZ) v1),(12,.dat tI v12),(13,.dat tI v13)] []
def zfJ (k0:zaj→Option (Bool × Unit)):zaj→Option (Bool × Unit):=fun (v0,v1,v12,v13) =>
  bif decide (v13 < v12) then inR v13 ((List.length v0):Int) (inR v13 ((List.length v1):Int) (bif !eqI zZ (ix zA7 v0 v13) (ix zA7 v1 v13) then some (false,()) else k0 (v0,v1,v12,wI (v13 + 1)))) else some (true,())
abbrev zkz (K:Nat):zaj→Option (Bool × Unit):=zm zfJ K
theorem ztH (K:Nat):∀ n,evV Es0 K Tryz.f219 0 (ch [.bool]) [1,1,0,1,0] [] ztG n = zm zfJ n:=zv fun n0 (v0,v1,v12,v13)=>by kernel_rfl
def zhO (L0:zaj→Option (Bool × Unit)):((List qq) × ((List qq) × Unit))→Option (Bool × Unit):=fun (x0,x1,()) =>
  bif ((List.length x0):Int) != ((List.length x1):Int) then some (false,()) else L0 (x0,x1,((List.length x0):Int),0)
def zhP:((List qq) × (List qq) × Unit)→Option (Bool × Unit):=zhO (zkz K0)
abbrev zmX:Fun:=⟨219,(ch [(.sl zZ),(.sl zZ)]),(ch [.bool]),0,zhP⟩
theorem zwU:Sq zmX:=ml0 (d:=false) (S:=fun K=>zhO (zkz K)) Tryz.func219 (by kernel_rfl) (fun K=>tr1 (T:=zhO) (ztH K K) fun (x0,x1,())=>by kernel_rfl) rfl
abbrev yN:Type:=(List zt) × (List zt) × Int × Int
abbrev zr1:yN→St:=fun (v0,v1,v12,v13)=>St.mk [(0,.dat (.sl zx) v0),(1,.dat (.sl zx) v1),(12,.dat tI v12),(13,.dat tI v13)] []
def zeR (k0:yN→Option (Bool × Unit)):yN→Option (Bool × Unit):=fun (v0,v1,v12,v13) =>
  bif decide (v13 < v12) then inR v13 ((List.length v0):Int) (inR v13 ((List.length v1):Int) (bif !eqI zx (ix qD v0 v13) (ix qD v1 v13) then some (false,()) else k0 (v0,v1,v12,wI (v13 + 1)))) else some (true,())
abbrev zjQ (K:Nat):yN→Option (Bool × Unit):=zm zeR K
theorem zr2 (K:Nat):∀ n,evV Es0 K Tryz.f220 0 (ch [.bool]) [1,1,0,1,0] [] zr1 n = zm zeR n:=zv fun n0 (v0,v1,v12,v13)=>by kernel_rfl
def zgE (L0:yN→Option (Bool × Unit)):((List zt) × ((List zt) × Unit))→Option (Bool × Unit):=fun (x0,x1,()) =>
  bif ((List.length x0):Int) != ((List.length x1):Int) then some (false,()) else L0 (x0,x1,((List.length x0):Int),0)
def zgF:((List zt) × (List zt) × Unit)→Option (Bool × Unit):=zgE (zjQ K0)
abbrev zlx:Fun:=⟨220,(ch [(.sl zx),(.sl zx)]),(ch [.bool]),0,zgF⟩
theorem zuZ:Sq zlx:=ml0 (d:=false) (S:=fun K=>zgE (zjQ K)) Tryz.func220 (by kernel_rfl) (fun K=>tr1 (T:=zgE) (zr2 K K) fun (x0,x1,())=>by kernel_rfl) rfl
abbrev zbQ:Type:=(List (List Int)) × (List (List Int)) × Int × Int
abbrev zwV:zbQ→St:=fun (v0,v1,v12,v13)=>St.mk [(0,.dat (.sl (.arr 4 tU)) v0),(1,.dat (.sl (.arr 4 tU)) v1),(12,.dat tI v12),(13,.dat tI v13)] []
def zhQ (k0:zbQ→Option (Bool × Unit)):zbQ→Option (Bool × Unit):=fun (v0,v1,v12,v13) =>
  bif decide (v13 < v12) then inR v13 ((List.length v0):Int) (inR v13 ((List.length v1):Int) (bif !eqI (.arr 4 tU) (List.getD v0 (Int.toNat v13) (ze (.arr 4 tU))) (List.getD v1 (Int.toNat v13) (ze (.arr 4 tU))) then some (false,()) else k0 (v0,v1,v12,wI (v13 + 1)))) else some (true,())
abbrev zmY (K:Nat):zbQ→Option (Bool × Unit):=zm zhQ K
theorem zwW (K:Nat):∀ n,evV Es0 K Tryz.f221 0 (ch [.bool]) [1,1,0,1,0] [] zwV n = zm zhQ n:=zv fun n0 (v0,v1,v12,v13)=>by kernel_rfl
def zj8 (L0:zbQ→Option (Bool × Unit)):((List (List Int)) × ((List (List Int)) × Unit))→Option (Bool × Unit):=fun (x0,x1,()) =>
  bif ((List.length x0):Int) != ((List.length x1):Int) then some (false,()) else L0 (x0,x1,((List.length x0):Int),0)
def zj9:((List (List Int)) × (List (List Int)) × Unit)→Option (Bool × Unit):=zj8 (zmY K0)
abbrev zqh:Fun:=⟨221,(ch [(.sl (.arr 4 tU)),(.sl (.arr 4 tU))]),(ch [.bool]),0,zj9⟩
theorem zz7:Sq zqh:=ml0 (d:=false) (S:=fun K=>zj8 (zmY K)) Tryz.func221 (by kernel_rfl) (fun K=>tr1 (T:=zj8) (zwW K K) fun (x0,x1,())=>by kernel_rfl) rfl
abbrev zaU:Type:=(List zI) × (List zI) × Int × Int
abbrev zu0:zaU→St:=fun (v0,v1,v12,v13)=>St.mk [(0,.dat (.sl vf) v0),(1,.dat (.sl vf) v1),(12,.dat tI v12),(13,.dat tI v13)] []
def zgG (k0:zaU→Option (Bool × Unit)):zaU→Option (Bool × Unit):=fun (v0,v1,v12,v13) =>
  bif decide (v13 < v12) then inR v13 ((List.length v0):Int) (inR v13 ((List.length v1):Int) (bif !eqI vf (ix qE v0 v13) (ix qE v1 v13) then some (false,()) else k0 (v0,v1,v12,wI (v13 + 1)))) else some (true,())
abbrev zly (K:Nat):zaU→Option (Bool × Unit):=zm zgG K
theorem zu1 (K:Nat):∀ n,evV Es0 K Tryz.f222 0 (ch [.bool]) [1,1,0,1,0] [] zu0 n = zm zgG n:=zv fun n0 (v0,v1,v12,v13)=>by kernel_rfl
def ziY (L0:zaU→Option (Bool × Unit)):((List zI) × ((List zI) × Unit))→Option (Bool × Unit):=fun (x0,x1,()) =>
  bif ((List.length x0):Int) != ((List.length x1):Int) then some (false,()) else L0 (x0,x1,((List.length x0):Int),0)
def ziZ:((List qw) × (List qw) × Unit)→Option (Bool × Unit):=ziY (zly K0)
abbrev zot:Fun:=⟨222,(ch [(.sl zB),(.sl zB)]),(ch [.bool]),0,ziZ⟩
theorem zys:Sq zot:=ml0 (d:=false) (S:=fun K=>ziY (zly K)) Tryz.func222 (by kernel_rfl) (fun K=>tr1 (T:=ziY) (zu1 K K) fun (x0,x1,())=>by kernel_rfl) rfl
abbrev vo:Type:=(List (List Int)) × (Option (((List Int) × ((List Int) × Unit))→Option (Bool × Unit))) × (List (List Int)) × Int × Int
abbrev zou:vo→St:=fun (v1,v2,v15,v16,v17)=>St.mk [(1,.dat (.sl (.sl tI)) v1),(2,.dat (.fn (.pair (.sl tI) (.pair (.sl tI) .unit)) (.pair .bool .unit)) v2),(15,.dat (.sl (.sl tI)) v15),(16,.dat tI v16),(17,.dat tI v17)] []
def vp (k0:vo→Option (Bool × Unit)):vo→Option (Bool × Unit):=fun (v1,v2,v15,v16,v17) =>
  bif decide (v17 < v16) then inR v17 ((List.length v15):Int) (inR v17 ((List.length v1):Int) (Option.bind v2 fun q0=>Option.bind (q0 (List.getD v15 (Int.toNat v17) ([]:List Int),List.getD v1 (Int.toNat v17) ([]:List Int),())) fun q1=>bif q1.1 then k0 (v1,v2,v15,v16,wI (v17 + 1)) else some (false,()))) else some (true,())
abbrev zg7 (K:Nat):vo→Option (Bool × Unit):=zm vp K
theorem zov (K:Nat):∀ n,evV Es0 K Tryz.f149 0 (ch [.bool]) [1,1,0,1,0] [] zou n = zm vp n:=zv fun n0 (v1,v2,v15,v16,v17)=>by kernel_rfl
def zeo (L0:vo→Option (Bool × Unit)):((List (List Int)) × ((List (List Int)) × ((Option (((List Int) × ((List Int) × Unit))→Option (Bool × Unit))) × Unit)))→Option (Bool × Unit):=fun (x0,x1,x2,()) =>
  bif ((List.length x0):Int) != ((List.length x1):Int) then some (false,()) else L0 (x1,x2,x0,((List.length x0):Int),0)
def zep:((List (List Int)) × ((List (List Int)) × ((Option (((List Int) × (List Int) × Unit)→Option (Bool × Unit))) × Unit)))→Option (Bool × Unit):=zeo (zg7 K0)
abbrev ziH:Fun:=⟨149,(ch [(.sl (.sl tI)),(.sl (.sl tI)),(.fn (ch [(.sl tI),(.sl tI)]) (ch [.bool]))]),(ch [.bool]),0,zep⟩
theorem zq8:Sq ziH:=ml0 (d:=false) (S:=fun K=>zeo (zg7 K)) Tryz.func149 (by kernel_rfl) (fun K=>tr1 (T:=zeo) (zov K K) fun (x0,x1,x2,())=>by kernel_rfl) rfl
abbrev zaV:Type:=(List Int) × (List Int) × Int × Int
abbrev zu2:zaV→St:=fun (v0,v1,v12,v13)=>St.mk [(0,.dat (.sl tI) v0),(1,.dat (.sl tI) v1),(12,.dat tI v12),(13,.dat tI v13)] []
def zgH (k0:zaV→Option (Bool × Unit)):zaV→Option (Bool × Unit):=fun (v0,v1,v12,v13) =>
  bif decide (v13 < v12) then inR v13 ((List.length v0):Int) (inR v13 ((List.length v1):Int) (bif ix (0:Int) v0 v13 != ix (0:Int) v1 v13 then some (false,()) else k0 (v0,v1,v12,wI (v13 + 1)))) else some (true,())
abbrev zlz (K:Nat):zaV→Option (Bool × Unit):=zm zgH K
theorem zu3 (K:Nat):∀ n,evV Es0 K Tryz.f150 0 (ch [.bool]) [1,1,0,1,0] [] zu2 n = zm zgH n:=zv fun n0 (v0,v1,v12,v13)=>by kernel_rfl
def zi0 (L0:zaV→Option (Bool × Unit)):((List Int) × ((List Int) × Unit))→Option (Bool × Unit):=fun (x0,x1,()) =>
  bif ((List.length x0):Int) != ((List.length x1):Int) then some (false,()) else L0 (x0,x1,((List.length x0):Int),0)
def zaI:((List Int) × (List Int) × Unit)→Option (Bool × Unit):=zi0 (zlz K0)
abbrev zow:Fun:=⟨150,(ch [(.sl tI),(.sl tI)]),(ch [.bool]),0,zaI⟩
theorem zyt:Sq zow:=ml0 (d:=false) (S:=fun K=>zi0 (zlz K)) Tryz.func150 (by kernel_rfl) (fun K=>tr1 (T:=zi0) (zu3 K K) fun (x0,x1,())=>by kernel_rfl) rfl
abbrev yO:Type:=(List zp) × (List zp) × Int × Int
abbrev zr3:yO→St:=fun (v0,v1,v12,v13)=>St.mk [(0,.dat (.sl zo) v0),(1,.dat (.sl zo) v1),(12,.dat tI v12),(13,.dat tI v13)] []
def zeS (k0:yO→Option (Bool × Unit)):yO→Option (Bool × Unit):=fun (v0,v1,v12,v13) =>
  bif decide (v13 < v12) then inR v13 ((List.length v0):Int) (inR v13 ((List.length v1):Int) (bif !eqI zo (ix qp v0 v13) (ix qp v1 v13) then some (false,()) else k0 (v0,v1,v12,wI (v13 + 1)))) else some (true,())
abbrev zjR (K:Nat):yO→Option (Bool × Unit):=zm zeS K
theorem zr4 (K:Nat):∀ n,evV Es0 K Tryz.f151 0 (ch [.bool]) [1,1,0,1,0] [] zr3 n = zm zeS n:=zv fun n0 (v0,v1,v12,v13)=>by kernel_rfl
def zgI (L0:yO→Option (Bool × Unit)):((List zp) × ((List zp) × Unit))→Option (Bool × Unit):=fun (x0,x1,()) =>
  bif ((List.length x0):Int) != ((List.length x1):Int) then some (false,()) else L0 (x0,x1,((List.length x0):Int),0)
def zgJ:((List zp) × (List zp) × Unit)→Option (Bool × Unit):=zgI (zjR K0)
abbrev zlA:Fun:=⟨151,(ch [(.sl zo),(.sl zo)]),(ch [.bool]),0,zgJ⟩
theorem zu4:Sq zlA:=ml0 (d:=false) (S:=fun K=>zgI (zjR K)) Tryz.func151 (by kernel_rfl) (fun K=>tr1 (T:=zgI) (zr4 K K) fun (x0,x1,())=>by kernel_rfl) rfl
abbrev yP:Type:=(List zH) × (List zH) × Int × Int
abbrev zr5:yP→St:=fun (v0,v1,v12,v13)=>St.mk [(0,.dat (.sl zw) v0),(1,.dat (.sl zw) v1),(12,.dat tI v12),(13,.dat tI v13)] []
def zeT (k0:yP→Option (Bool × Unit)):yP→Option (Bool × Unit):=fun (v0,v1,v12,v13) =>
  bif decide (v13 < v12) then inR v13 ((List.length v0):Int) (inR v13 ((List.length v1):Int) (bif !eqI zw (ix zhn v0 v13) (ix zhn v1 v13) then some (false,()) else k0 (v0,v1,v12,wI (v13 + 1)))) else some (true,())
abbrev zjS (K:Nat):yP→Option (Bool × Unit):=zm zeT K
theorem zr6 (K:Nat):∀ n,evV Es0 K Tryz.f152 0 (ch [.bool]) [1,1,0,1,0] [] zr5 n = zm zeT n:=zv fun n0 (v0,v1,v12,v13)=>by kernel_rfl
def zgK (L0:yP→Option (Bool × Unit)):((List zH) × ((List zH) × Unit))→Option (Bool × Unit):=fun (x0,x1,()) =>
  bif ((List.length x0):Int) != ((List.length x1):Int) then some (false,()) else L0 (x0,x1,((List.length x0):Int),0)
def zgL:((List zH) × (List zH) × Unit)→Option (Bool × Unit):=zgK (zjS K0)
abbrev zlB:Fun:=⟨152,(ch [(.sl zw),(.sl zw)]),(ch [.bool]),0,zgL⟩
theorem zu5:Sq zlB:=ml0 (d:=false) (S:=fun K=>zgK (zjS K)) Tryz.func152 (by kernel_rfl) (fun K=>tr1 (T:=zgK) (zr6 K K) fun (x0,x1,())=>by kernel_rfl) rfl
def zqi:Unit→Option (zd × Unit):=fun () =>
  some (([(0,0,()),(0,1,()),(1,1,())],[0,1,2],[(ByteArray.mk #[97,110,110],ByteArray.mk #[97],1,true,()),(ByteArray.mk #[98,111,98],ByteArray.mk #[98],0,false,())],[(0,0,())],[(2,2,2,2,2,1000,()),(2,2,2,2,2,1000,()),(2,2,2,2,2,1000,())],4,6,2,3,()),())
abbrev zqj:Fun:=⟨56,.unit,(ch [zy]),0,zqi⟩
theorem zz8:Sq zqj:=ms0 (d:=false) (K:=0) Tryz.func56 (by kernel_rfl) (funext fun ()=>by kernel_rfl)
def zbr:(zb × (pMe × Unit))→Option ((List zi) × Unit):=fun (x0,x1,()) =>
  inR x1.2.1 ((List.length x0.2.1):Int) (some ((ix zf x0.2.1 x1.2.1).2.2.1,()))
abbrev zqk:Fun:=⟨50,(ch [zq,tMe]),(ch [(.sl zl)]),0,zbr⟩
theorem zz9:Sq zqk:=ms0 (d:=false) (K:=0) Tryz.func50 (by kernel_rfl) (funext fun (x0,x1,())=>by kernel_rfl)
def qI:(zi × Unit)→Option (Bool × Unit):=fun (x0,()) =>
  bif x0.1 then some (true,()) else some (false,())
abbrev zql:Fun:=⟨229,(ch [zl]),(ch [.bool]),0,qI⟩
theorem zAa:Sq zql:=ms0 (d:=false) (K:=0) Tryz.func229 (by kernel_rfl) (funext fun (x0,())=>by kernel_rfl)
def zkP:(zi × (qx × Unit))→Option (zi × Unit):=fun (x0,x1,()) =>
  some ((x0.1,x0.2.1,x1.1,x1.2.1,x1.2.2.1,x0.2.2.2.2.2),())
abbrev zwX:Fun:=⟨157,(ch [zl,qa]),(ch [zl]),0,zkP⟩
theorem zFQ:Sq zwX:=ms0 (d:=false) (K:=0) Tryz.func157 (by kernel_rfl) (funext fun (x0,x1,())=>by kernel_rfl)
def zbR:((Option zbI) × Unit)→Option (Bool × Unit):=fun (x0,()) =>
  bif Option.isSome x0 then Option.bind x0 fun q0=>bif Option.isSome q0.2.1 then some (true,()) else some (false,()) else some (false,())
abbrev zmZ:Fun:=⟨232,(ch [(.ptr vY)]),(ch [.bool]),0,zbR⟩
theorem zwY:Sq zmZ:=ms0 (d:=false) (K:=0) Tryz.func232 (by kernel_rfl) (funext fun (x0,())=>by kernel_rfl)
def zjT:(zi × ((Option (Option zbI)) × Unit))→Option (Bool × Unit):=fun (x0,x1,()) =>
  Option.bind x1 fun q0=>Option.bind q0 fun q1=>Option.bind q1.2.1 fun q2=>Option.bind (q2 (x0,())) fun q3=>bif q3.1 then some (false,()) else some (true,())
abbrev zjU:Fun:=⟨295,(ch [zl,(.ptr (.ptr vY))]),(ch [.bool]),0,zjT⟩
theorem zr7:Sq zjU:=ms0 (d:=false) (K:=0) Tryz.func295 (by kernel_rfl) (funext fun (x0,x1,())=>by kernel_rfl)
def jI:(Int × Unit)→Option (qx × Unit):=fun (x0,()) =>
  some ((1,x0,(0,0,()),()),())
abbrev zox:Fun:=⟨90,(ch [tI]),(ch [qa]),0,jI⟩
theorem zyu:Sq zox:=ms0 (d:=false) (K:=0) Tryz.func90 (by kernel_rfl) (funext fun (x0,())=>by kernel_rfl)
def vZ:(zb × (pMe × Unit))→Option (zI × Unit):=fun (x0,x1,()) =>
  inR x1.2.1 ((List.length x0.2.1):Int) (inR x1.2.2.1 ((List.length (ix zf x0.2.1 x1.2.1).2.2.2.2.2.2.1):Int) (some (List.getD (ix zf x0.2.1 x1.2.1).2.2.2.2.2.2.1 (Int.toNat x1.2.2.1) (ze zB),())))
abbrev zqm:Fun:=⟨54,(ch [zq,tMe]),(ch [zB]),0,vZ⟩
theorem zAb:Sq zqm:=ms0 (d:=false) (K:=0) Tryz.func54 (by kernel_rfl) (funext fun (x0,x1,())=>by kernel_rfl)
def zc2:(zI × Unit)→Option (qx × Unit):=fun (x0,()) =>
  some ((2,0,x0,()),())
abbrev zoy:Fun:=⟨92,(ch [zB]),(ch [qa]),0,zc2⟩
theorem zyv:Sq zoy:=ms0 (d:=false) (K:=0) Tryz.func92 (by kernel_rfl) (funext fun (x0,())=>by kernel_rfl)
abbrev zc3:Type:=(List Int) × (List Int) × Int
abbrev zyw:zc3→St:=fun (v0,v1,v5)=>St.mk [(0,.dat (.sl tI) v0),(1,.dat (.sl tI) v1),(5,.dat tI v5)] []
def zc4 (k0:zc3→Option (Bool × Unit)):zc3→Option (Bool × Unit):=fun (v0,v1,v5) =>
  bif decide (v5 < ((List.length v0):Int)) then inR v5 ((List.length v0):Int) (inR v5 ((List.length v1):Int) (bif ix (0:Int) v0 v5 != ix (0:Int) v1 v5 then some (false,()) else k0 (v0,v1,wI (v5 + 1)))) else some (true,())
abbrev zoz (K:Nat):zc3→Option (Bool × Unit):=zm zc4 K
theorem zyx (K:Nat):∀ n,evV Es0 K Tryz.f15 0 (ch [.bool]) [1,1,0,1,0] [] zyw n = zm zc4 n:=zv fun n0 (v0,v1,v5)=>by kernel_rfl
def zlC (L0:zc3→Option (Bool × Unit)):((List Int) × ((List Int) × Unit))→Option (Bool × Unit):=fun (x0,x1,()) =>
  bif ((List.length x0):Int) != ((List.length x1):Int) then some (false,()) else L0 (x0,x1,0)
def zeU:((List Int) × (List Int) × Unit)→Option (Bool × Unit):=zlC (zoz K0)
abbrev zr8:Fun:=⟨15,(ch [(.sl tI),(.sl tI)]),(ch [.bool]),0,zeU⟩
theorem zCc:Sq zr8:=ml0 (d:=false) (S:=fun K=>zlC (zoz K)) Tryz.func15 (by kernel_rfl) (fun K=>tr1 (T:=zlC) (zyx K K) fun (x0,x1,())=>by kernel_rfl) rfl
abbrev yQ:Type:=(List zI) × (List zI) × Int
abbrev zr9:yQ→St:=fun (v0,v1,v5)=>St.mk [(0,.dat (.sl vf) v0),(1,.dat (.sl vf) v1),(5,.dat tI v5)] []
def yR (k0:yQ→Option (Bool × Unit)):yQ→Option (Bool × Unit):=fun (v0,v1,v5) =>
  bif decide (v5 < ((List.length v0):Int)) then inR v5 ((List.length v0):Int) (inR v5 ((List.length v1):Int) (bif !eqI vf (ix qE v0 v5) (ix qE v1 v5) then some (false,()) else k0 (v0,v1,wI (v5 + 1)))) else some (true,())
abbrev zjV (K:Nat):yQ→Option (Bool × Unit):=zm yR K
theorem zsa (K:Nat):∀ n,evV Es0 K Tryz.f16 0 (ch [.bool]) [1,1,0,1,0] [] zr9 n = zm yR n:=zv fun n0 (v0,v1,v5)=>by kernel_rfl
def zgM (L0:yQ→Option (Bool × Unit)):((List zI) × ((List zI) × Unit))→Option (Bool × Unit):=fun (x0,x1,()) =>
  bif ((List.length x0):Int) != ((List.length x1):Int) then some (false,()) else L0 (x0,x1,0)
def zaW:((List qw) × (List qw) × Unit)→Option (Bool × Unit):=zgM (zjV K0)
abbrev zlD:Fun:=⟨16,(ch [(.sl zB),(.sl zB)]),(ch [.bool]),0,zaW⟩
theorem zu6:Sq zlD:=ml0 (d:=false) (S:=fun K=>zgM (zjV K)) Tryz.func16 (by kernel_rfl) (fun K=>tr1 (T:=zgM) (zsa K K) fun (x0,x1,())=>by kernel_rfl) rfl
abbrev L1:List Fun:=zp9 :: zn8 :: zho :: zmJ :: zjH :: zrG :: zjI :: zrI :: zrJ :: ziv :: zrK :: zfT :: zkr :: zrL :: zrM :: zln :: zlo :: zmK :: zix :: zht :: ziy :: zrP :: zrQ :: zof :: ziz :: ziA :: zwE :: zwF :: ziB :: zzH :: zrR :: zfw :: zfV :: zhw :: zwG :: zrS :: zrT :: zom :: zks :: zzI :: zwH :: zqa :: zqb :: zmL :: ziC :: zhx :: ziD :: zhy :: zkt :: zt6 :: zmM :: zjL :: zmN :: zjM :: zku :: zjN :: zjO :: ziE :: zlr :: zmO :: zls :: zlt :: zrY :: zlu :: zqc :: zt7 :: zqd :: zon :: zoo :: zrZ :: zqe :: zt8 :: zqf :: ziF :: zjP :: zkv :: zlv :: zor :: zmP :: zlw :: zmQ :: zmR :: zmS :: zmT :: zqg :: zos :: zhH :: zmU :: zmV :: zmW :: zmX :: zlx :: zqh :: zot :: ziH :: zow :: zlA :: zlB :: zqj :: zqk :: zql :: zwX :: zmZ :: zjU :: zox :: zqm :: zoy :: zr8 :: zlD :: L0
theorem h1:Sds Tryz.prog E0 L1:=⟨zzZ,zyh,zpw,zwC,zrF,zBZ,zrH,zB0,zB1,zqU,zB2,znF,ztv,zB3,zB4,zuR,zuS,zwD,zqX,zpz,zqY,zB5,zB6,zym,zqZ,zq0,zFM,zFN,zq1,zHk,zB7,zmk,znI,zpA,zFO,zB8,zB9,zyn,ztw,zHl,zFP,zz0,zz1,zwI,zq2,zpB,zq3,zpC,ztx,zD3,zwJ,zrU,zwK,zrV,zty,zrW,zrX,zq4,zuT,zwL,zuU,zuV,zCa,zuW,zz2,zD4,zz3,zyo,zyp,zCb,zz4,zD5,zz5,zq5,zr0,ztz,zuX,zyq,zwM,zuY,zwN,zwO,zwP,zwQ,zz6,zyr,zpH,zwR,zwS,zwT,zwU,zuZ,zz7,zys,zq8,zyt,zu4,zu5,zz8,zz9,zAa,zFQ,zwY,zr7,zyu,zAb,zyv,zCc,zu6,h0⟩
theorem ms1 {d:Bool} {F:Fun} {f:Go.Func} {K:Nat} (hf:Tryz.prog.funcs[F.id]? = some f) (ho:qW f = true) (h:evF (En E0 d L1) K f F.md F.a F.r = F.spec):Sd Tryz.prog E0 F:=mkS h1 hf ho h
theorem ml1 {d:Bool} {F:Fun} {f:Go.Func} {S:Nat→F.a.I→Option F.r.I} (hf:Tryz.prog.funcs[F.id]? = some f) (ho:qW f = true) (h:∀ K,evF (En E0 d L1) K f F.md F.a F.r = S K) (e:S K0 = F.spec):Sd Tryz.prog E0 F:=mkS h1 hf ho ((h K0).trans e)
abbrev Es1:Env:=En E0 false L1
abbrev Ed1:Env:=En E0 true L1
def zdL:(zA × Unit)→Option (Bool × Unit):=fun (x0,()) =>
  Option.bind (zdW (x0,())) fun q0=>bif q0.1 then some (false,()) else some (true,())
abbrev zlE:Fun:=⟨252,(ch [zD]),(ch [.bool]),0,zdL⟩
theorem zu7:Sq zlE:=ms1 (d:=false) (K:=0) Tryz.func252 (by kernel_rfl) (funext fun (x0,())=>by kernel_rfl)
def ye:((List zA) × ((Option ((zA × Unit)→Option (Bool × Unit))) × Unit))→Option (Bool × Unit):=fun (x0,x1,()) =>
  Option.bind (zaq (x0,x1,())) fun q0=>bif decide (q0.1 ≥ 0) then some (true,()) else some (false,())
abbrev zfx:Fun:=⟨253,(ch [(.sl zD),(.fn (ch [zD]) (ch [.bool]))]),(ch [.bool]),0,ye⟩
theorem zml:Sq zfx:=ms1 (d:=false) (K:=0) Tryz.func253 (by kernel_rfl) (funext fun (x0,x1,())=>by kernel_rfl)
def zak:(Int × (Int × Unit))→Option (Int × Unit):=fun (x0,x1,()) =>
  Option.bind (yY (x0,())) fun q0=>bif q0.1 then Option.bind (yY (x1,())) fun q1=>bif q1.1 then some (0,()) else some ((-1),()) else Option.bind (yY (x1,())) fun q2=>bif q2.1 then some (1,()) else bif decide (x0 < x1) then some ((-1),()) else bif decide (x0 > x1) then some (1,()) else some (0,())
abbrev zkA:Fun:=⟨284,(ch [tI,tI]),(ch [tI]),0,zak⟩
theorem ztI:Sq zkA:=ms1 (d:=false) (K:=0) Tryz.func284 (by kernel_rfl) (funext fun (x0,x1,())=>by kernel_rfl)
def vM:(Int × (Int × Unit))→Option (Int × Unit):=fun (x0,x1,()) =>
  Option.bind (vg (x0,())) fun q0=>bif q0.1 then Option.bind (vg (x1,())) fun q1=>bif q1.1 then some (0,()) else some ((-1),()) else Option.bind (vg (x1,())) fun q2=>bif q2.1 then some (1,()) else bif decide (x0 < x1) then some ((-1),()) else bif decide (x0 > x1) then some (1,()) else some (0,())
abbrev zhR:Fun:=⟨283,(ch [tU,tU]),(ch [tI]),0,vM⟩
theorem zpI:Sq zhR:=ms1 (d:=false) (K:=0) Tryz.func283 (by kernel_rfl) (funext fun (x0,x1,())=>by kernel_rfl)
def zbS:(Int × ((Option zd) × Unit))→Option (Bool × Unit):=fun (x0,x1,()) =>
  Option.bind x1 fun q0=>Option.bind (qj (x0,0,wI (((List.length q0.1):Int) - 1),())) fun q1=>bif q1.1 then some (false,()) else some (true,())
abbrev zm0:Fun:=⟨255,(ch [tI,(.ptr zy)]),(ch [.bool]),0,zbS⟩
theorem zwZ:Sq zm0:=ms1 (d:=false) (K:=0) Tryz.func255 (by kernel_rfl) (funext fun (x0,x1,())=>by kernel_rfl)
def qA:((List Int) × ((Option ((Int × Unit)→Option (Bool × Unit))) × Unit))→Option (Bool × Unit):=fun (x0,x1,()) =>
  Option.bind (zbJ (x0,x1,())) fun q0=>bif decide (q0.1 ≥ 0) then some (true,()) else some (false,())
abbrev zg8:Fun:=⟨190,(ch [(.sl tI),(.fn (ch [tI]) (ch [.bool]))]),(ch [.bool]),0,qA⟩
theorem zoA:Sq zg8:=ms1 (d:=false) (K:=0) Tryz.func190 (by kernel_rfl) (funext fun (x0,x1,())=>by kernel_rfl)
def j3:((List Int) × ((Option ((Int × Unit)→Option (Bool × Unit))) × Unit))→Option (Bool × Unit):=fun (x0,x1,()) =>
  Option.bind (zbc (x0,x1,())) fun q0=>bif decide (q0.1 ≥ 0) then some (true,()) else some (false,())
abbrev zf0:Fun:=⟨294,(ch [(.sl (.int .u8)),(.fn (ch [(.int .u8)]) (ch [.bool]))]),(ch [.bool]),0,j3⟩
theorem znR:Sq zf0:=ms1 (d:=false) (K:=0) Tryz.func294 (by kernel_rfl) (funext fun (x0,x1,())=>by kernel_rfl)
def zfg:(Int × Unit)→Option (Bool × Unit):=fun (x0,()) =>
  Option.bind (zeI (x0,())) fun q0=>bif q0.1 then some (true,()) else Option.bind (zhr (x0,())) fun q1=>bif q1.1 then some (true,()) else some (false,())
abbrev zoB:Fun:=⟨226,(ch [(.int .u8)]),(ch [.bool]),0,zfg⟩
theorem zyy:Sq zoB:=ms1 (d:=false) (K:=0) Tryz.func226 (by kernel_rfl) (funext fun (x0,())=>by kernel_rfl)
def zav:((List qO) × ((Option ((qO × Unit)→Option (Bool × Unit))) × Unit))→Option (Bool × Unit):=fun (x0,x1,()) =>
  Option.bind (yH (x0,x1,())) fun q0=>bif decide (q0.1 ≥ 0) then some (true,()) else some (false,())
abbrev zet:Fun:=⟨257,(ch [(.sl qN),(.fn (ch [qN]) (ch [.bool]))]),(ch [.bool]),0,zav⟩
theorem zkQ:Sq zet:=ms1 (d:=false) (K:=0) Tryz.func257 (by kernel_rfl) (funext fun (x0,x1,())=>by kernel_rfl)
def zbj:((List zA) × (zA × Unit))→Option (Bool × Unit):=fun (x0,x1,()) =>
  Option.bind (zgA (x0,x1,())) fun q0=>bif decide (q0.1 ≥ 0) then some (true,()) else some (false,())
abbrev ziI:Fun:=⟨260,(ch [(.sl zD),zD]),(ch [.bool]),0,zbj⟩
theorem zq9:Sq ziI:=ms1 (d:=false) (K:=0) Tryz.func260 (by kernel_rfl) (funext fun (x0,x1,())=>by kernel_rfl)
def zdM:(Int × Unit)→Option (Bool × Unit):=fun (x0,()) =>
  Option.bind (qj (x0,0,12,())) fun q0=>bif q0.1 then some (false,()) else some (true,())
abbrev zlF:Fun:=⟨262,(ch [tI]),(ch [.bool]),0,zdM⟩
theorem zu8:Sq zlF:=ms1 (d:=false) (K:=0) Tryz.func262 (by kernel_rfl) (funext fun (x0,())=>by kernel_rfl)
end
end Go.Proofs.YtejbgeokcpillaaGreatDoor
end
section
namespace Go.Proofs.YtejbgeokcpillaaGreatDoor
open Go.Ev
noncomputable section
def yS:(zd × Unit)→Option (Bool × Unit):=fun (x0,()) =>
  Option.bind (qj (x0.2.2.2.2.2.1,0,24,())) fun q0=>bif q0.1 then Option.bind (qj (x0.2.2.2.2.2.2.1,0,48,())) fun q1=>bif q1.1 then Option.bind (qj (x0.2.2.2.2.2.2.2.1,1,4,())) fun q2=>bif q2.1 then Option.bind (qj (x0.2.2.2.2.2.2.2.2.1,1,16,())) fun q3=>bif q3.1 then some (true,()) else some (false,()) else some (false,()) else some (false,()) else some (false,())
abbrev zsb:Fun:=⟨175,(ch [zy]),(ch [.bool]),0,yS⟩
theorem zCd:Sq zsb:=ms1 (d:=false) (K:=0) Tryz.func175 (by kernel_rfl) (funext fun (x0,())=>by kernel_rfl)
def jK:((List zg) × ((Option ((zg × Unit)→Option (Bool × Unit))) × Unit))→Option (Bool × Unit):=fun (x0,x1,()) =>
  Option.bind (zar (x0,x1,())) fun q0=>bif decide (q0.1 ≥ 0) then some (true,()) else some (false,())
abbrev zfy:Fun:=⟨176,(ch [(.sl zn),(.fn (ch [zn]) (ch [.bool]))]),(ch [.bool]),0,jK⟩
theorem zmm:Sq zfy:=ms1 (d:=false) (K:=0) Tryz.func176 (by kernel_rfl) (funext fun (x0,x1,())=>by kernel_rfl)
def zcw:((List qX) × ((Option ((qX × Unit)→Option (Bool × Unit))) × Unit))→Option (Bool × Unit):=fun (x0,x1,()) =>
  Option.bind (zbe (x0,x1,())) fun q0=>bif decide (q0.1 ≥ 0) then some (true,()) else some (false,())
abbrev zf1:Fun:=⟨178,(ch [(.sl qh),(.fn (ch [qh]) (ch [.bool]))]),(ch [.bool]),0,zcw⟩
theorem znS:Sq zf1:=ms1 (d:=false) (K:=0) Tryz.func178 (by kernel_rfl) (funext fun (x0,x1,())=>by kernel_rfl)
def zhS:(z8 × Unit)→Option (Bool × Unit):=fun (x0,()) =>
  bif x0.1 then Option.bind (zeL (x0.2.1,())) fun q0=>bif q0.1 then Option.bind (zeL (x0.2.2.1,())) fun q1=>bif q1.1 then Option.bind (zhu (x0.2.2.2.1,())) fun q2=>bif q2.1 then some (false,()) else some (true,()) else some (true,()) else some (true,()) else bif !eqI zV x0 (ze zV) then some (true,()) else some (false,())
abbrev zsc:Fun:=⟨180,(ch [zV]),(ch [.bool]),0,zhS⟩
theorem zCe:Sq zsc:=ms1 (d:=false) (K:=0) Tryz.func180 (by kernel_rfl) (funext fun (x0,())=>by kernel_rfl)
def zhT:((List z8) × (zI × (Int × Unit)))→Option (Int × Unit):=fun (x0,x1,x2,()) =>
  Option.bind (yk (x0,some fun z=>zfc (z.1,some x1,some x2,()),())) fun q0=>some (q0.1,())
abbrev zsd:Fun:=⟨181,(ch [(.sl zV),zB,tI]),(ch [tI]),0,zhT⟩
theorem zCf:Sq zsd:=ms1 (d:=false) (K:=0) Tryz.func181 (by kernel_rfl) (funext fun (x0,x1,x2,())=>by kernel_rfl)
def jc:((List zi) × ((Option ((zi × Unit)→Option (Bool × Unit))) × Unit))→Option (Bool × Unit):=fun (x0,x1,()) =>
  Option.bind (yl (x0,x1,())) fun q0=>bif decide (q0.1 ≥ 0) then some (true,()) else some (false,())
abbrev zf2:Fun:=⟨182,(ch [(.sl zl),(.fn (ch [zl]) (ch [.bool]))]),(ch [.bool]),0,jc⟩
theorem znT:Sq zf2:=ms1 (d:=false) (K:=0) Tryz.func182 (by kernel_rfl) (funext fun (x0,x1,())=>by kernel_rfl)
def jC:(qx × Unit)→Option (Bool × Unit):=fun (x0,()) =>
  bif x0.1 == 1 then Option.bind (zdz (x0.2.1,())) fun q0=>bif q0.1 then bif eqI zB x0.2.2.1 (ze zB) then some (true,()) else some (false,()) else some (false,()) else bif x0.1 == 3 then Option.bind (zdz (x0.2.1,())) fun q1=>bif q1.1 then bif eqI zB x0.2.2.1 (ze zB) then some (true,()) else some (false,()) else some (false,()) else bif x0.1 == 2 then bif x0.2.1 == 0 then Option.bind (zdz (x0.2.2.1.1,())) fun q2=>bif q2.1 then Option.bind (zdz (x0.2.2.1.2.1,())) fun q3=>bif q3.1 then some (true,()) else some (false,()) else some (false,()) else some (false,()) else some (false,())
abbrev zjW:Fun:=⟨153,(ch [qa]),(ch [.bool]),0,jC⟩
theorem zse:Sq zjW:=ms1 (d:=false) (K:=0) Tryz.func153 (by kernel_rfl) (funext fun (x0,())=>by kernel_rfl)
def je:((List qq) × ((Option ((qq × Unit)→Option (Bool × Unit))) × Unit))→Option (Bool × Unit):=fun (x0,x1,()) =>
  Option.bind (zbf (x0,x1,())) fun q0=>bif decide (q0.1 ≥ 0) then some (true,()) else some (false,())
abbrev zf3:Fun:=⟨184,(ch [(.sl zZ),(.fn (ch [zZ]) (ch [.bool]))]),(ch [.bool]),0,je⟩
theorem znU:Sq zf3:=ms1 (d:=false) (K:=0) Tryz.func184 (by kernel_rfl) (funext fun (x0,x1,())=>by kernel_rfl)
def zi1:(qq × Unit)→Option (Bool × Unit):=fun (x0,()) =>
  Option.bind (zg5 (x0.2.1,())) fun q0=>bif q0.1 then Option.bind (zg5 (x0.2.2.1,())) fun q1=>bif q1.1 then Option.bind (zg5 (x0.2.2.2.1,())) fun q2=>bif q2.1 then some (true,()) else some (false,()) else some (false,()) else some (false,())
abbrev zoC:Fun:=⟨272,(ch [zZ]),(ch [.bool]),0,zi1⟩
theorem zyz:Sq zoC:=ms1 (d:=false) (K:=0) Tryz.func272 (by kernel_rfl) (funext fun (x0,())=>by kernel_rfl)
def zfh:(ByteArray × (ByteArray × Unit))→Option (ByteArray × Unit):=fun (x0,x1,()) =>
  bif ByteArray.toList x0 == ByteArray.toList (ByteArray.mk #[]) then some (x0,()) else bif ByteArray.toList x1 == ByteArray.toList (ByteArray.mk #[]) then some (x0,()) else bif (↑(ByteArray.size x1):Int) == 1 then bif decide (0 < (↑(ByteArray.size x1):Int)) then bif decide ((↑(UInt8.toNat (List.getD (Array.toList (ByteArray.data x1)) (Int.toNat 0) 0)):Int) < 128) then bif decide (0 < (↑(ByteArray.size x1):Int)) then Option.bind (zbn (x0,(↑(UInt8.toNat (List.getD (Array.toList (ByteArray.data x1)) (Int.toNat 0) 0)):Int),())) fun q0=>bif decide (0 < (↑(ByteArray.size x1):Int)) then Option.bind (zcs (q0.1,(↑(UInt8.toNat (List.getD (Array.toList (ByteArray.data x1)) (Int.toNat 0) 0)):Int),())) fun q1=>some (q1.1,()) else none else none else none else none else none
abbrev zoD:Fun:=⟨315,(ch [.str,.str]),(ch [.str]),0,zfh⟩
theorem zyA:Sq zoD:=ms1 (d:=false) (K:=0) Tryz.func315 (by kernel_rfl) (funext fun (x0,x1,())=>by kernel_rfl)
def qU:((List zt) × ((Option ((zt × Unit)→Option (Bool × Unit))) × Unit))→Option (Bool × Unit):=fun (x0,x1,()) =>
  Option.bind (zas (x0,x1,())) fun q0=>bif decide (q0.1 ≥ 0) then some (true,()) else some (false,())
abbrev zfz:Fun:=⟨186,(ch [(.sl zx),(.fn (ch [zx]) (ch [.bool]))]),(ch [.bool]),0,qU⟩
theorem zmn:Sq zfz:=ms1 (d:=false) (K:=0) Tryz.func186 (by kernel_rfl) (funext fun (x0,x1,())=>by kernel_rfl)
def zf4:(zkM × Unit)→Option (Bool × Unit):=fun (x0,()) =>
  Option.bind (ja (x0.1,())) fun q0=>bif q0.1 then bif decide (x0.2.1 ≤ 4611686018427387904) then bif x0.2.2.1 == -1 then some (true,()) else Option.bind (zfe (x0.2.2.1,())) fun q1=>bif q1.1 then some (true,()) else some (false,()) else some (false,()) else some (false,())
abbrev zt9:Fun:=⟨276,(ch [zdu]),(ch [.bool]),0,zf4⟩
theorem zD6:Sq zt9:=ms1 (d:=false) (K:=0) Tryz.func276 (by kernel_rfl) (funext fun (x0,())=>by kernel_rfl)
def zeV:(Int × (Int × Unit))→Option (Int × (Int × Unit)):=fun (x0,x1,()) =>
  Option.bind (zcI (x0,x1,())) fun q0=>bif q0.1 != 0 then some (0,7,()) else bif decide (q0.2.1 > 4611686018427387904) then some (0,7,()) else some (q0.2.1,0,())
abbrev zsf:Fun:=⟨316,(ch [tU,tU]),(ch [tU,tI]),0,zeV⟩
theorem zCg:Sq zsf:=ms1 (d:=false) (K:=0) Tryz.func316 (by kernel_rfl) (funext fun (x0,x1,())=>by kernel_rfl)
def zdN:(zp × ((Option qL) × Unit))→Option (Bool × Unit):=fun (x0,x1,()) =>
  bif x0.1 then Option.bind x1 fun q0=>Option.bind (zbq (q0,x0.2.1,())) fun q1=>bif q1.1 then Option.bind x1 fun q2=>Option.bind (qM (q2,x0.2.2.1,())) fun q3=>bif q3.1 then Option.bind x1 fun q4=>bif decide (x0.2.2.2.2.2.2.2.2.2.1 < ((List.length q4.2.1.2.2.2.2.1):Int)) then some (true,()) else some (false,()) else some (false,()) else some (false,()) else some (true,())
abbrev zlG:Fun:=⟨114,(ch [zo,(.ptr qb)]),(ch [.bool]),0,zdN⟩
theorem zu9:Sq zlG:=ms1 (d:=false) (K:=0) Tryz.func114 (by kernel_rfl) (funext fun (x0,x1,())=>by kernel_rfl)
def jL:((List zp) × ((Option ((zp × Unit)→Option (Bool × Unit))) × Unit))→Option (Bool × Unit):=fun (x0,x1,()) =>
  Option.bind (zat (x0,x1,())) fun q0=>bif decide (q0.1 ≥ 0) then some (true,()) else some (false,())
abbrev zfA:Fun:=⟨194,(ch [(.sl zo),(.fn (ch [zo]) (ch [.bool]))]),(ch [.bool]),0,jL⟩
theorem zmo:Sq zfA:=ms1 (d:=false) (K:=0) Tryz.func194 (by kernel_rfl) (funext fun (x0,x1,())=>by kernel_rfl)
def zaX:(zH × ((Option qL) × Unit))→Option (Bool × Unit):=fun (x0,x1,()) =>
  Option.bind x1 fun q0=>bif decide (x0.2.1 < ((List.length q0.1.2.1):Int)) then Option.bind x1 fun q1=>inR x0.2.1 ((List.length q1.1.2.1):Int) (bif x0.2.2.1 == ix (0:Int) q1.1.2.1 x0.2.1 then Option.bind x1 fun q2=>Option.bind (qM (q2,x0.2.2.2.1,())) fun q3=>bif q3.1 then Option.bind x1 fun q4=>bif decide (x0.1 ≤ q4.2.1.1) then some (true,()) else some (false,()) else some (false,()) else some (false,())) else some (false,())
abbrev zlH:Fun:=⟨118,(ch [zw,(.ptr qb)]),(ch [.bool]),0,zaX⟩
theorem zva:Sq zlH:=ms1 (d:=false) (K:=0) Tryz.func118 (by kernel_rfl) (funext fun (x0,x1,())=>by kernel_rfl)
def jM:((List zH) × ((Option ((zH × Unit)→Option (Bool × Unit))) × Unit))→Option (Bool × Unit):=fun (x0,x1,()) =>
  Option.bind (zau (x0,x1,())) fun q0=>bif decide (q0.1 ≥ 0) then some (true,()) else some (false,())
abbrev zfB:Fun:=⟨196,(ch [(.sl zw),(.fn (ch [zw]) (ch [.bool]))]),(ch [.bool]),0,jM⟩
theorem zmp:Sq zfB:=ms1 (d:=false) (K:=0) Tryz.func196 (by kernel_rfl) (funext fun (x0,x1,())=>by kernel_rfl)
def j9:(Int × ((Option qL) × Unit))→Option (Bool × Unit):=fun (x0,x1,()) =>
  bif x0 == -1 then some (true,()) else Option.bind x1 fun q0=>Option.bind (qM (q0,x0,())) fun q1=>bif q1.1 then some (true,()) else some (false,())
abbrev zlI:Fun:=⟨120,(ch [tI,(.ptr qb)]),(ch [.bool]),0,j9⟩
theorem zvb:Sq zlI:=ms1 (d:=false) (K:=0) Tryz.func120 (by kernel_rfl) (funext fun (x0,x1,())=>by kernel_rfl)
def zf5:(qL × (Int × (Int × Unit)))→Option (Bool × Unit):=fun (x0,x1,x2,()) =>
  Option.bind (zbq (x0,x1,())) fun q0=>bif q0.1 then Option.bind (zbq (x0,x2,())) fun q1=>bif q1.1 then inR x1 ((List.length x0.1.1):Int) (inR x2 ((List.length x0.1.1):Int) (Option.bind (zaC (ix qK x0.1.1 x1,ix qK x0.1.1 x2,())) fun q2=>bif q2.1 then some (true,()) else some (false,()))) else some (false,()) else some (false,())
abbrev zua:Fun:=⟨130,(ch [qb,tI,tI]),(ch [.bool]),0,zf5⟩
theorem zD7:Sq zua:=ms1 (d:=false) (K:=0) Tryz.func130 (by kernel_rfl) (funext fun (x0,x1,x2,())=>by kernel_rfl)
def j4:((List z8) × ((Option ((z8 × Unit)→Option (Bool × Unit))) × Unit))→Option (Bool × Unit):=fun (x0,x1,()) =>
  Option.bind (yk (x0,x1,())) fun q0=>bif decide (q0.1 ≥ 0) then some (true,()) else some (false,())
abbrev zf6:Fun:=⟨200,(ch [(.sl zV),(.fn (ch [zV]) (ch [.bool]))]),(ch [.bool]),0,j4⟩
theorem znV:Sq zf6:=ms1 (d:=false) (K:=0) Tryz.func200 (by kernel_rfl) (funext fun (x0,x1,())=>by kernel_rfl)
def vq:((List zI) × ((Option ((zI × Unit)→Option (Bool × Unit))) × Unit))→Option (Bool × Unit):=fun (x0,x1,()) =>
  Option.bind (zbN (x0,x1,())) fun q0=>bif decide (q0.1 ≥ 0) then some (true,()) else some (false,())
abbrev zg9:Fun:=⟨203,(ch [(.sl zB),(.fn (ch [zB]) (ch [.bool]))]),(ch [.bool]),0,vq⟩
theorem zoE:Sq zg9:=ms1 (d:=false) (K:=0) Tryz.func203 (by kernel_rfl) (funext fun (x0,x1,())=>by kernel_rfl)
def zaY:(zi × ((Option qL) × Unit))→Option (Bool × Unit):=fun (x0,x1,()) =>
  bif x0.2.2.1 != 1 then some (true,()) else Option.bind x1 fun q0=>Option.bind (qM (q0,x0.2.2.2.1,())) fun q1=>bif q1.1 then some (true,()) else some (false,())
abbrev zlJ:Fun:=⟨127,(ch [zl,(.ptr qb)]),(ch [.bool]),0,zaY⟩
theorem zvc:Sq zlJ:=ms1 (d:=false) (K:=0) Tryz.func127 (by kernel_rfl) (funext fun (x0,x1,())=>by kernel_rfl)
def qz:(zt × ((Option qL) × Unit))→Option (Bool × Unit):=fun (x0,x1,()) =>
  bif x0.1 then Option.bind x1 fun q0=>Option.bind (qM (q0,x0.2.1,())) fun q1=>bif q1.1 then Option.bind x1 fun q2=>Option.bind (qM (q2,x0.2.2.1,())) fun q3=>bif q3.1 then some (true,()) else some (false,()) else some (false,()) else some (true,())
abbrev zlK:Fun:=⟨132,(ch [zx,(.ptr qb)]),(ch [.bool]),0,qz⟩
theorem zvd:Sq zlK:=ms1 (d:=false) (K:=0) Tryz.func132 (by kernel_rfl) (funext fun (x0,x1,())=>by kernel_rfl)
def yx:((List zt) × ((Option ((zt × Unit)→Option (Bool × Unit))) × Unit))→Option ((Option zbH) × Unit):=fun (x0,x1,()) =>
  bif Option.isNone x1 then some (none,()) else Option.bind (zdF (x0,())) fun q0=>some (some (q0.1,x1,()),())
abbrev zlL:Fun:=⟨133,(ch [(.sl zx),(.fn (ch [zx]) (ch [.bool]))]),(ch [(.ptr vG)]),0,yx⟩
theorem zve:Sq zlL:=ms1 (d:=false) (K:=0) Tryz.func133 (by kernel_rfl) (funext fun (x0,x1,())=>by kernel_rfl)
def vN:((Option zbH) × (Int × Unit))→Option (Bool × Unit):=fun (x0,x1,()) =>
  Option.bind (zdG (x0,())) fun q0=>bif q0.1 then bif decide (x1 ≥ 0) then Option.bind x0 fun q1=>bif decide (x1 < ((List.length q1.1):Int)) then Option.bind x0 fun q2=>Option.bind x0 fun q3=>inR x1 ((List.length q3.1):Int) (Option.bind q2.2.1 fun q4=>Option.bind (q4 (ix qD q3.1 x1,())) fun q5=>bif q5.1 then some (true,()) else some (false,())) else some (false,()) else some (false,()) else some (false,())
abbrev zm1:Fun:=⟨135,(ch [(.ptr vG),tI]),(ch [.bool]),0,vN⟩
theorem zw0:Sq zm1:=ms1 (d:=false) (K:=0) Tryz.func135 (by kernel_rfl) (funext fun (x0,x1,())=>by kernel_rfl)
def zgN:((List zp) × ((Option ((zp × Unit)→Option (Bool × Unit))) × Unit))→Option ((Option zdv) × Unit):=fun (x0,x1,()) =>
  bif Option.isNone x1 then some (none,()) else Option.bind (zdH (x0,())) fun q0=>some (some (q0.1,x1,()),())
abbrev zlM:Fun:=⟨338,(ch [(.sl zo),(.fn (ch [zo]) (ch [.bool]))]),(ch [(.ptr yG)]),0,zgN⟩
theorem zvf:Sq zlM:=ms1 (d:=false) (K:=0) Tryz.func338 (by kernel_rfl) (funext fun (x0,x1,())=>by kernel_rfl)
def zeu:((Option zdv) × (Int × Unit))→Option (Bool × Unit):=fun (x0,x1,()) =>
  Option.bind (zdI (x0,())) fun q0=>bif q0.1 then bif decide (x1 ≥ 0) then Option.bind x0 fun q1=>bif decide (x1 < ((List.length q1.1):Int)) then Option.bind x0 fun q2=>Option.bind x0 fun q3=>inR x1 ((List.length q3.1):Int) (Option.bind q2.2.1 fun q4=>Option.bind (q4 (ix qp q3.1 x1,())) fun q5=>bif q5.1 then some (true,()) else some (false,())) else some (false,()) else some (false,()) else some (false,())
abbrev zm2:Fun:=⟨341,(ch [(.ptr yG),tI]),(ch [.bool]),0,zeu⟩
theorem zw1:Sq zm2:=ms1 (d:=false) (K:=0) Tryz.func341 (by kernel_rfl) (funext fun (x0,x1,())=>by kernel_rfl)
abbrev zeW:Type:=Int × (List Int) × Int × Int
abbrev zCh:zeW→St:=fun (v4,v9,v10,v11)=>St.mk [(4,.dat tU v4),(9,.dat (.sl tU) v9),(10,.dat tI v10),(11,.dat tI v11)] []
def zeX (k0:zeW→Option (Int × (Int × Unit))):zeW→Option (Int × (Int × Unit)):=fun (v4,v9,v10,v11) =>
  bif decide (v11 < v10) then inR v11 ((List.length v9):Int) (Option.bind (zjm (v4,ix (0:Int) v9 v11,())) fun q0=>bif q0.2.1 != 0 then some (0,q0.2.1,()) else k0 (q0.1,v9,v10,wI (v11 + 1))) else some (v4,0,())
abbrev zsg (K:Nat):zeW→Option (Int × (Int × Unit)):=zm zeX K
theorem zCi (K:Nat):∀ n,evV Es1 K Tryz.f211 0 (ch [tU,tI]) [1,1,0,1,0] [] zCh n = zm zeX n:=zv fun n0 (v4,v9,v10,v11)=>by kernel_rfl
def zpJ (L0:zeW→Option (Int × (Int × Unit))):((List Int) × Unit)→Option (Int × (Int × Unit)):=fun (x0,()) =>
  L0 (0,x0,((List.length x0):Int),0)
def zfi:((List Int) × Unit)→Option (Int × Int × Unit):=zpJ (zsg K0)
abbrev zw2:Fun:=⟨211,(ch [(.sl tU)]),(ch [tU,tI]),0,zfi⟩
theorem zFR:Sq zw2:=ml1 (d:=false) (S:=fun K=>zpJ (zsg K)) Tryz.func211 (by kernel_rfl) (fun K=>tr1 (T:=zpJ) (zCi K K) fun (x0,())=>by kernel_rfl) rfl
def zbs:(Int × ((Option zd) × ((Option zA) × Unit)))→Option (Bool × Unit):=fun (x0,x1,x2,()) =>
  Option.bind x1 fun q0=>inR x0 ((List.length q0.1):Int) (Option.bind x2 fun q1=>Option.bind (zaC (ix qK q0.1 x0,q1,())) fun q2=>bif q2.1 then some (true,()) else some (false,()))
abbrev zqn:Fun:=⟨140,(ch [tI,(.ptr zy),(.ptr zD)]),(ch [.bool]),0,zbs⟩
theorem zAc:Sq zqn:=ms1 (d:=false) (K:=0) Tryz.func140 (by kernel_rfl) (funext fun (x0,x1,x2,())=>by kernel_rfl)
def zgk:(Int × ((Option zd) × ((Option zA) × Unit)))→Option (Bool × Unit):=fun (x0,x1,x2,()) =>
  Option.bind x1 fun q0=>inR x0 ((List.length q0.2.2.2.1):Int) (Option.bind (zeK ((ix qE q0.2.2.2.1 x0).1,())) fun q1=>Option.bind x2 fun q2=>Option.bind (zaC (q1.1,q2,())) fun q3=>bif q3.1 then some (true,()) else some (false,()))
abbrev zqo:Fun:=⟨141,(ch [tI,(.ptr zy),(.ptr zD)]),(ch [.bool]),0,zgk⟩
theorem zAd:Sq zqo:=ms1 (d:=false) (K:=0) Tryz.func141 (by kernel_rfl) (funext fun (x0,x1,x2,())=>by kernel_rfl)
abbrev zbT:Type:=Int × Int × Int × Int × List zg × Nat × List (List Int) × Nat × List zp × List zH × List Int × List zg × Nat × List (List Int) × Nat × List zp × List zH × List Int
abbrev zm3:zbT→St:=fun (v44,v45,o0_0,o1_0,o2,c2,o3,c3,o4,o5,o6,o7,c7,o8,c8,o9,o10,o11)=>St.mk [(1,.bp 0 []),(2,.bp 1 []),(43,.ow 2),(44,.dat tI v44),(45,.dat tI v45)] [.bx (.fld (.pair tU (.pair (.sl zn) (.pair (.sl (.sl tI)) (.pair (.sl zo) (.pair (.sl zw) (.pair (.sl tI) .unit)))))) [.dat tU o0_0,.ow 2,.ow 3,.ow 4,.ow 5,.ow 6]) false,.bx (.fld (.pair tU (.pair (.sl zn) (.pair (.sl (.sl tI)) (.pair (.sl zo) (.pair (.sl zw) (.pair (.sl tI) .unit)))))) [.dat tU o1_0,.ow 7,.ow 8,.ow 9,.ow 10,.ow 11]) false,.drow zn o2 c2,.drow (.sl tI) o3 c3,.row zo o4 false,.row zw o5 false,.row tI o6 false,.drow zn o7 c7,.drow (.sl tI) o8 c8,.row zo o9 false,.row zw o10 false,.row tI o11 false]
abbrev zbU:Type:=Int × Int × Int × (List zg) × Int × List (List Int) × Nat × List zp × List zH × List Int × List zg × Nat × List (List Int) × Nat × List zp × List zH × List Int
abbrev zw3:zbU→St:=fun (v25,v26,o0_0,o0_1,o1_0,o2,c2,o3,o4,o5,o6,c6,o7,c7,o8,o9,o10)=>St.mk [(1,.bp 0 []),(2,.bp 1 []),(24,.ow 2),(25,.dat tI v25),(26,.dat tI v26)] [.bx (.fld (.pair tU (.pair (.sl zn) (.pair (.sl (.sl tI)) (.pair (.sl zo) (.pair (.sl zw) (.pair (.sl tI) .unit)))))) [.dat tU o0_0,.dat (.sl zn) o0_1,.ow 2,.ow 3,.ow 4,.ow 5]) false,.bx (.fld (.pair tU (.pair (.sl zn) (.pair (.sl (.sl tI)) (.pair (.sl zo) (.pair (.sl zw) (.pair (.sl tI) .unit)))))) [.dat tU o1_0,.ow 6,.ow 7,.ow 8,.ow 9,.ow 10]) false,.drow (.sl tI) o2 c2,.row zo o3 false,.row zw o4 false,.row tI o5 false,.drow zn o6 c6,.drow (.sl tI) o7 c7,.row zo o8 false,.row zw o9 false,.row tI o10 false]
def zbV (k1:zbT→Option (zb × Unit)):zbT→Option (zb × Unit):=fun (v44,v45,o0_0,o1_0,o2,c2,o3,c3,o4,o5,o6,o7,c7,o8,c8,o9,o10,o11) =>
  bif decide (v45 < v44) then inR v45 ((List.length o2):Int) (bif decide (c2 ≤ Int.toNat v45) then Option.bind (zhE ((ix zf o2 v45).1,())) fun q6=>Option.bind (zhF ((ix zf o2 v45).2.1,())) fun q7=>Option.bind (zbP ((ix zf o2 v45).2.2.1,())) fun q8=>Option.bind (zhG ((ix zf o2 v45).2.2.2.1,())) fun q9=>Option.bind (zdF ((ix zf o2 v45).2.2.2.2.1,())) fun q10=>Option.bind (zj7 ((ix zf o2 v45).2.2.2.2.2.1,())) fun q11=>Option.bind (ziX ((ix zf o2 v45).2.2.2.2.2.2.1,())) fun q12=>inR v45 ((List.length o2):Int) (bif decide (Int.toNat v45 = c2) then k1 (v44,wI (v45 + 1),o0_0,o1_0,List.set o2 (Int.toNat v45) (q6.1,q7.1,q8.1,q9.1,q10.1,q11.1,q12.1,(ix zf o2 v45).2.2.2.2.2.2.2.1,(ix zf o2 v45).2.2.2.2.2.2.2.2.1,()),c2 + 1,o3,c3,o4,o5,o6,o7,c7,o8,c8,o9,o10,o11) else none) else none) else bif decide (c2 = List.length o2) then bif decide (c3 = List.length o3) then some ((o0_0,o2,o3,o4,o5,o6,()),()) else none else none
abbrev zbW (K:Nat):zbT→Option (zb × Unit):=zm zbV K
theorem zw4 (K:Nat):∀ n,evV Ed1 K Tryz.f6 3 (ch [zq]) [1,1,1,1,1,0,1,0] [] zm3 n = zm zbV n:=zv fun n1 (v44,v45,o0_0,o1_0,o2,c2,o3,c3,o4,o5,o6,o7,c7,o8,c8,o9,o10,o11)=>by kernel_rfl
def yZ (L1:zbT→Option (zb × Unit)) (k0:zbU→Option (zb × Unit)):zbU→Option (zb × Unit):=fun (v25,v26,o0_0,o0_1,o1_0,o2,c2,o3,o4,o5,o6,c6,o7,c7,o8,o9,o10) =>
  bif decide (v26 < v25) then inR v26 ((List.length o2):Int) (bif decide (c2 ≤ Int.toNat v26) then Option.bind (zff (List.getD o2 (Int.toNat v26) ([]:List Int),())) fun q4=>inR v26 ((List.length o2):Int) (bif decide (Int.toNat v26 = c2) then k0 (v25,wI (v26 + 1),o0_0,o0_1,o1_0,List.set o2 (Int.toNat v26) q4.1,c2 + 1,o3,o4,o5,o6,c6,o7,c7,o8,o9,o10) else none) else none) else Option.bind (zgD (o0_1,())) fun q5=>L1 (((List.length q5.1):Int),0,o0_0,o1_0,q5.1,0,o2,c2,o3,o4,o5,o6,c6,o7,c7,o8,o9,o10)
abbrev zhU (K:Nat):zbU→Option (zb × Unit):=zm (fun k0=>yZ (zbW K) k0) K
theorem zw5 (K:Nat):∀ n,evV Ed1 K Tryz.f6 3 (ch [zq]) [1,1,1,0,1,0] [] zw3 n = zm (fun k0=>yZ (zbW K) k0) n:=zeG (B:=fun L1 k0=>yZ L1 k0) (V1:=fun n0=>evV Ed1 K Tryz.f6 3 (ch [zq]) [1,1,1,1,1,0,1,0] [] zm3 K) (W1:=fun k0=>(zbW K)) (fun n0=>zw4 K K) fun n0 (v25,v26,o0_0,o0_1,o1_0,o2,c2,o3,o4,o5,o6,c6,o7,c7,o8,o9,o10)=>by kernel_rfl
def zgl (L0:zbU→Option (zb × Unit)):(zb × Unit)→Option (zb × Unit):=fun (x0,()) =>
  Option.bind (zdH (x0.2.2.2.1,())) fun q0=>Option.bind (zgC (x0.2.2.2.2.1,())) fun q1=>Option.bind (zff (x0.2.2.2.2.2.1,())) fun q2=>Option.bind (zhD (x0.2.2.1,())) fun q3=>L0 (((List.length q3.1):Int),0,x0.1,x0.2.1,0,q3.1,0,q0.1,q1.1,q2.1,[],0,[],0,[],[],[])
def ya:(zb × Unit)→Option (zb × Unit):=zgl (zhU K0)
abbrev zqp:Fun:=⟨6,(ch [zq]),(ch [zq]),3,ya⟩
theorem zAe:Sq zqp:=ml1 (d:=true) (S:=fun K=>zgl (zhU K)) Tryz.func6 (by kernel_rfl) (fun K=>tr1 (T:=zgl) (zw5 K K) fun (x0,())=>by kernel_rfl) rfl
def vV:(zg × (zg × Unit))→Option (Bool × Unit):=fun (x0,x1,()) =>
  Option.bind (zhJ (x0.1,x1.1,())) fun q0=>bif q0.1 then Option.bind (zhL (x0.2.1,x1.2.1,())) fun q1=>bif q1.1 then Option.bind (zhN (x0.2.2.1,x1.2.2.1,())) fun q2=>bif q2.1 then Option.bind (zhP (x0.2.2.2.1,x1.2.2.2.1,())) fun q3=>bif q3.1 then Option.bind (zgF (x0.2.2.2.2.1,x1.2.2.2.2.1,())) fun q4=>bif q4.1 then Option.bind (zj9 (x0.2.2.2.2.2.1,x1.2.2.2.2.2.1,())) fun q5=>bif q5.1 then Option.bind (ziZ (x0.2.2.2.2.2.2.1,x1.2.2.2.2.2.2.1,())) fun q6=>bif q6.1 then bif eqI (.arr 4 tU) x0.2.2.2.2.2.2.2.1 x1.2.2.2.2.2.2.2.1 then bif eqI (.arr 4 tU) x0.2.2.2.2.2.2.2.2.1 x1.2.2.2.2.2.2.2.2.1 then some (true,()) else some (false,()) else some (false,()) else some (false,()) else some (false,()) else some (false,()) else some (false,()) else some (false,()) else some (false,()) else some (false,())
abbrev zkB:Fun:=⟨148,(ch [zn,zn]),(ch [.bool]),0,vV⟩
theorem ztJ:Sq zkB:=ms1 (d:=false) (K:=0) Tryz.func148 (by kernel_rfl) (funext fun (x0,x1,())=>by kernel_rfl)
def zhV:((List zi) × ((Option ((zi × Unit)→Option (Bool × Unit))) × Unit))→Option ((Option zbI) × Unit):=fun (x0,x1,()) =>
  bif Option.isNone x1 then some (none,()) else Option.bind (zbP (x0,())) fun q0=>some (some (q0.1,x1,()),())
abbrev zm4:Fun:=⟨228,(ch [(.sl zl),(.fn (ch [zl]) (ch [.bool]))]),(ch [(.ptr vY)]),0,zhV⟩
theorem zw6:Sq zm4:=ms1 (d:=false) (K:=0) Tryz.func228 (by kernel_rfl) (funext fun (x0,x1,())=>by kernel_rfl)
def zdO:((Option zbI) × Unit)→Option (Int × (Int × Unit)):=fun (x0,()) =>
  Option.bind (zbR (x0,())) fun q0=>bif q0.1 then Option.bind x0 fun q1=>Option.bind (yl (q1.1,some fun z=>zjT (z.1,some x0,()),())) fun q2=>bif decide (q2.1 < 0) then some (0,8,()) else some (q2.1,0,()) else some (0,11,())
abbrev zlN:Fun:=⟨230,(ch [(.ptr vY)]),(ch [tI,tI]),0,zdO⟩
theorem zvg:Sq zlN:=ms1 (d:=false) (K:=0) Tryz.func230 (by kernel_rfl) (funext fun (x0,())=>by kernel_rfl)
def zaJ:((Option zbI) × (Int × (zi × Unit)))→Option ((List zi) × (Int × Unit)):=fun (x0,x1,x2,()) =>
  Option.bind (zbR (x0,())) fun q0=>bif q0.1 then bif decide (x1 < 0) then some ([],1,()) else Option.bind x0 fun q1=>bif decide (x1 ≥ ((List.length q1.1):Int)) then some ([],1,()) else Option.bind x0 fun q2=>Option.bind (zbP (q2.1,())) fun q3=>inR x1 ((List.length q3.1):Int) (some (List.set q3.1 (Int.toNat x1) x2,0,())) else some ([],11,())
abbrev zoF:Fun:=⟨159,(ch [(.ptr vY),tI,zl]),(ch [(.sl zl),tI]),0,zaJ⟩
theorem zyB:Sq zoF:=ms1 (d:=false) (K:=0) Tryz.func159 (by kernel_rfl) (funext fun (x0,x1,x2,())=>by kernel_rfl)
abbrev zbX:Type:=(List zi) × Int × Int × qx × List Int
abbrev zw7:zbX→St:=fun (v8,v9,v10,o0,o1)=>St.mk [(3,.bp 0 []),(5,.ow 1),(8,.dat (.sl zl) v8),(9,.dat tI v9),(10,.dat tI v10)] [.bx (.dat qa o0) false,.row tI o1 false]
def zbY (k0:zbX→Option ((List Int) × Unit)):zbX→Option ((List Int) × Unit):=fun (v8,v9,v10,o0,o1) =>
  bif decide (v10 < v9) then inR v10 ((List.length v8):Int) (bif (ix zO v8 v10).1 then Option.bind (zfd (ix zO v8 v10,())) fun q0=>bif eqI qa q0.1 o0 then bif decide (List.length o1 + List.length (zj (List.replicate 1 (0:Int)) 0 v10) ≤ lim) then k0 (v8,v9,wI (v10 + 1),o0,o1 ++ zj (List.replicate 1 (0:Int)) 0 v10) else none else k0 (v8,v9,wI (v10 + 1),o0,o1) else k0 (v8,v9,wI (v10 + 1),o0,o1)) else some (o1,())
abbrev zm5 (K:Nat):zbX→Option ((List Int) × Unit):=zm zbY K
theorem zw8 (K:Nat):∀ n,evV Es1 K Tryz.f89 0 (ch [(.sl tI)]) [1,1,0,1,0] [] zw7 n = zm zbY n:=zv fun n0 (v8,v9,v10,o0,o1)=>by kernel_rfl
def zka (L0:zbX→Option ((List Int) × Unit)):((List zi) × (qx × Unit))→Option ((List Int) × Unit):=fun (x0,x1,()) =>
  L0 (x0,((List.length x0):Int),0,x1,[])
def zgm:((List zi) × qx × Unit)→Option ((List Int) × Unit):=zka (zm5 K0)
abbrev zqq:Fun:=⟨89,(ch [(.sl zl),qa]),(ch [(.sl tI)]),0,zgm⟩
theorem zAf:Sq zqq:=ml1 (d:=false) (S:=fun K=>zka (zm5 K)) Tryz.func89 (by kernel_rfl) (fun K=>tr1 (T:=zka) (zw8 K K) fun (x0,x1,())=>by kernel_rfl) rfl
def zfj:((Option zbI) × (Int × Unit))→Option (Bool × Unit):=fun (x0,x1,()) =>
  Option.bind (zbR (x0,())) fun q0=>bif q0.1 then bif decide (x1 ≥ 0) then Option.bind x0 fun q1=>bif decide (x1 < ((List.length q1.1):Int)) then Option.bind x0 fun q2=>Option.bind x0 fun q3=>inR x1 ((List.length q3.1):Int) (Option.bind q2.2.1 fun q4=>Option.bind (q4 (ix zO q3.1 x1,())) fun q5=>bif q5.1 then some (true,()) else some (false,())) else some (false,()) else some (false,()) else some (false,())
abbrev zoG:Fun:=⟨231,(ch [(.ptr vY),tI]),(ch [.bool]),0,zfj⟩
theorem zyC:Sq zoG:=ms1 (d:=false) (K:=0) Tryz.func231 (by kernel_rfl) (funext fun (x0,x1,())=>by kernel_rfl)
abbrev L2:List Fun:=zlE :: zfx :: zkA :: zhR :: zm0 :: zg8 :: zf0 :: zoB :: zet :: ziI :: zlF :: zsb :: zfy :: zf1 :: zsc :: zsd :: zf2 :: zjW :: zf3 :: zoC :: zoD :: zfz :: zt9 :: zsf :: zlG :: zfA :: zlH :: zfB :: zlI :: zua :: zf6 :: zg9 :: zlJ :: zlK :: zlL :: zm1 :: zlM :: zm2 :: zw2 :: zqn :: zqo :: zqp :: zkB :: zm4 :: zlN :: zoF :: zqq :: zoG :: L1
theorem h2:Sds Tryz.prog E0 L2:=⟨zu7,zml,ztI,zpI,zwZ,zoA,znR,zyy,zkQ,zq9,zu8,zCd,zmm,znS,zCe,zCf,znT,zse,znU,zyz,zyA,zmn,zD6,zCg,zu9,zmo,zva,zmp,zvb,zD7,znV,zoE,zvc,zvd,zve,zw0,zvf,zw1,zFR,zAc,zAd,zAe,ztJ,zw6,zvg,zyB,zAf,zyC,h1⟩
theorem ms2 {d:Bool} {F:Fun} {f:Go.Func} {K:Nat} (hf:Tryz.prog.funcs[F.id]? = some f) (ho:qW f = true) (h:evF (En E0 d L2) K f F.md F.a F.r = F.spec):Sd Tryz.prog E0 F:=mkS h2 hf ho h
theorem ml2 {d:Bool} {F:Fun} {f:Go.Func} {S:Nat→F.a.I→Option F.r.I} (hf:Tryz.prog.funcs[F.id]? = some f) (ho:qW f = true) (h:∀ K,evF (En E0 d L2) K f F.md F.a F.r = S K) (e:S K0 = F.spec):Sd Tryz.prog E0 F:=mkS h2 hf ho ((h K0).trans e)
abbrev Es2:Env:=En E0 false L2
def zjo:(zA × (zA × Unit))→Option (Int × Unit):=fun (x0,x1,()) =>
  Option.bind (zak (x0.1,x1.1,())) fun q0=>Option.bind (vM (x0.2.1,x1.2.1,())) fun q1=>Option.bind (zcU (zj (zj (List.replicate 2 (0:Int)) 0 q0.1) 1 q1.1,())) fun q2=>some (q2.1,())
abbrev zub:Fun:=⟨254,(ch [zD,zD]),(ch [tI]),0,zjo⟩
theorem zD8:Sq zub:=ms2 (d:=false) (K:=0) Tryz.func254 (by kernel_rfl) (funext fun (x0,x1,())=>by kernel_rfl)
def yb:(zd × Unit)→Option (Bool × Unit):=fun (x0,()) =>
  Option.bind (qj (((List.length x0.2.1):Int),1,8,())) fun q0=>bif q0.1 then Option.bind (qA (x0.2.1,some fun z=>zbS (z.1,some x0,()),())) fun q1=>bif q1.1 then some (false,()) else some (true,()) else some (false,())
abbrev zqr:Fun:=⟨171,(ch [zy]),(ch [.bool]),0,yb⟩
theorem zAg:Sq zqr:=ms2 (d:=false) (K:=0) Tryz.func171 (by kernel_rfl) (funext fun (x0,())=>by kernel_rfl)
def zkR:(ByteArray × ((Option ((Int × Unit)→Option (Bool × Unit))) × Unit))→Option (Bool × Unit):=fun (x0,x1,()) =>
  Option.bind (j3 (List.map (fun b=>(↑(UInt8.toNat b):Int)) (Array.toList (ByteArray.data x0)),some fun z=>zhq (z.1,some x1,()),())) fun q0=>bif q0.1 then some (false,()) else some (true,())
abbrev zw9:Fun:=⟨225,(ch [.str,(.fn (ch [(.int .u8)]) (ch [.bool]))]),(ch [.bool]),0,zkR⟩
theorem zFS:Sq zw9:=ms2 (d:=false) (K:=0) Tryz.func225 (by kernel_rfl) (funext fun (x0,x1,())=>by kernel_rfl)
abbrev zaZ:Type:=Int × (List zI) × Int × Int × zd × Int
abbrev zvh:zaZ→St:=fun (v4,v11,v12,v13,o0,o1)=>St.mk [(1,.bp 0 []),(3,.bp 1 []),(4,.dat tI v4),(11,.dat (.sl vf) v11),(12,.dat tI v12),(13,.dat tI v13)] [.bx (.dat zy o0) false,.bx (.dat tU o1) false]
def za0 (k0:zaZ→Option (Bool × Unit)):zaZ→Option (Bool × Unit):=fun (v4,v11,v12,v13,o0,o1) =>
  bif decide (v13 < v12) then inR v13 ((List.length v11):Int) (Option.bind (zeK ((ix qE v11 v13).1,())) fun q0=>bif q0.2.1 != 0 then some (false,()) else bif decide ((ix qE v11 v13).1 ≤ v4) then some (false,()) else Option.bind (qj ((ix qE v11 v13).2.1,0,wI (((List.length o0.2.2.1):Int) - 1),())) fun q1=>bif q1.1 then Option.bind (zbj (o0.1,q0.1,())) fun q2=>bif q2.1 then k0 ((ix qE v11 v13).1,v11,v12,wI (v13 + 1),o0,wU (↑(BitVec.toNat (BitVec.ofInt (IntKind.bits IntKind.u64) o1 ||| BitVec.ofInt (IntKind.bits IntKind.u64) q0.1.2.1)):Int)) else some (false,()) else some (false,())) else bif decide (((List.length o0.2.2.2.1):Int) ≤ 8) then Option.bind (ye (o0.1,some fun z=>zgB (z.1,some o1,()),())) fun q3=>bif q3.1 then some (false,()) else some (true,()) else some (false,())
abbrev zlO (K:Nat):zaZ→Option (Bool × Unit):=zm za0 K
theorem zvi (K:Nat):∀ n,evV Es2 K Tryz.f173 0 (ch [.bool]) [1,1,1,0,1,0] [] zvh n = zm za0 n:=zv fun n0 (v4,v11,v12,v13,o0,o1)=>by kernel_rfl
def zi2 (L0:zaZ→Option (Bool × Unit)):(zd × Unit)→Option (Bool × Unit):=fun (x0,()) =>
  L0 ((-1),x0.2.2.2.1,((List.length x0.2.2.2.1):Int),0,x0,0)
def vt:(zd × Unit)→Option (Bool × Unit):=zi2 (zlO K0)
abbrev zoH:Fun:=⟨173,(ch [zy]),(ch [.bool]),0,vt⟩
theorem zyD:Sq zoH:=ml2 (d:=false) (S:=fun K=>zi2 (zlO K)) Tryz.func173 (by kernel_rfl) (fun K=>tr1 (T:=zi2) (zvi K K) fun (x0,())=>by kernel_rfl) rfl
abbrev za1:Type:=Int × (List zbG) × Int × Int
abbrev zvj:za1→St:=fun (v3,v23,v24,v25)=>St.mk [(3,.dat tU v3),(23,.dat (.sl zcS) v23),(24,.dat tI v24),(25,.dat tI v25)] []
def zdP (k0:za1→Option (Bool × Unit)):za1→Option (Bool × Unit):=fun (v3,v23,v24,v25) =>
  bif decide (v25 < v24) then inR v25 ((List.length v23):Int) (bif decide ((ix jS v23 v25).2.2.2.2.2.1 > v3) then some (false,()) else Option.bind (zhs (ix jS v23 v25,())) fun q0=>Option.bind (qA (q0.1,some zdM,())) fun q1=>bif q1.1 then some (false,()) else k0 (wU (v3 - (ix jS v23 v25).2.2.2.2.2.1),v23,v24,wI (v25 + 1))) else some (true,())
abbrev zgO (K:Nat):za1→Option (Bool × Unit):=zm zdP K
theorem zvk (K:Nat):∀ n,evV Es2 K Tryz.f174 0 (ch [.bool]) [1,1,1,0,1,0] [] zvj n = zm zdP n:=zv fun n0 (v3,v23,v24,v25)=>by kernel_rfl
def zfk (L0:za1→Option (Bool × Unit)):(zd × Unit)→Option (Bool × Unit):=fun (x0,()) =>
  bif ((List.length x0.2.2.2.2.1):Int) != ((List.length x0.1):Int) then some (false,()) else bif decide (0 < ((List.length x0.2.2.2.2.1):Int)) then bif decide ((ix jS x0.2.2.2.2.1 0).1 < 1) then some (false,()) else L0 (4611686018427387904,x0.2.2.2.2.1,((List.length x0.2.2.2.2.1):Int),0) else none
def vu:(zd × Unit)→Option (Bool × Unit):=zfk (zgO K0)
abbrev zoI:Fun:=⟨174,(ch [zy]),(ch [.bool]),0,vu⟩
theorem zyE:Sq zoI:=ml2 (d:=false) (S:=fun K=>zfk (zgO K)) Tryz.func174 (by kernel_rfl) (fun K=>tr1 (T:=zfk) (zvk K K) fun (x0,())=>by kernel_rfl) rfl
def zfK:((List zg) × ((Option ((zg × Unit)→Option (Bool × Unit))) × Unit))→Option (Bool × Unit):=fun (x0,x1,()) =>
  Option.bind (jK (x0,some fun z=>zbd (z.1,some x1,()),())) fun q0=>bif q0.1 then some (false,()) else some (true,())
abbrev zkC:Fun:=⟨102,(ch [(.sl zn),(.fn (ch [zn]) (ch [.bool]))]),(ch [.bool]),0,zfK⟩
theorem ztK:Sq zkC:=ms2 (d:=false) (K:=0) Tryz.func102 (by kernel_rfl) (funext fun (x0,x1,())=>by kernel_rfl)
abbrev zc5:Type:=(List z8) × (List z8) × Int × Int
abbrev zyF:zc5→St:=fun (v0,v5,v6,v7)=>St.mk [(0,.dat (.sl zV) v0),(5,.dat (.sl zV) v5),(6,.dat tI v6),(7,.dat tI v7)] []
def zc6 (k0:zc5→Option (Bool × Unit)):zc5→Option (Bool × Unit):=fun (v0,v5,v6,v7) =>
  bif decide (v7 < v6) then inR v7 ((List.length v5):Int) (Option.bind (zhS (ix vF v5 v7,())) fun q0=>bif q0.1 then some (false,()) else bif (ix vF v5 v7).1 then Option.bind (zhT (v0,(ix vF v5 v7).2.1,(ix vF v5 v7).2.2.2.1,())) fun q1=>bif q1.1 != v7 then some (false,()) else k0 (v0,v5,v6,wI (v7 + 1)) else k0 (v0,v5,v6,wI (v7 + 1))) else some (true,())
abbrev zoJ (K:Nat):zc5→Option (Bool × Unit):=zm zc6 K
theorem zyG (K:Nat):∀ n,evV Es2 K Tryz.f105 0 (ch [.bool]) [1,0,1,0] [] zyF n = zm zc6 n:=zv fun n0 (v0,v5,v6,v7)=>by kernel_rfl
def zlP (L0:zc5→Option (Bool × Unit)):((List z8) × Unit)→Option (Bool × Unit):=fun (x0,()) =>
  L0 (x0,x0,((List.length x0):Int),0)
def zlQ:((List z8) × Unit)→Option (Bool × Unit):=zlP (zoJ K0)
abbrev zsh:Fun:=⟨105,(ch [(.sl zV)]),(ch [.bool]),0,zlQ⟩
theorem zCj:Sq zsh:=ml2 (d:=false) (S:=fun K=>zlP (zoJ K)) Tryz.func105 (by kernel_rfl) (fun K=>tr1 (T:=zlP) (zyG K K) fun (x0,())=>by kernel_rfl) rfl
def zjp:(zt × Unit)→Option (Bool × Unit):=fun (x0,()) =>
  Option.bind (zfe (x0.2.1,())) fun q0=>bif q0.1 then Option.bind (zfe (x0.2.2.1,())) fun q1=>bif q1.1 then bif x0.2.1 != x0.2.2.1 then Option.bind (zf4 (x0.2.2.2.1,())) fun q2=>bif q2.1 then Option.bind (zf4 (x0.2.2.2.2.1,())) fun q3=>bif q3.1 then Option.bind (zeN (x0.2.2.2.1,())) fun q4=>bif q4.1 then Option.bind (zeN (x0.2.2.2.2.1,())) fun q5=>bif q5.1 then some (false,()) else some (true,()) else some (true,()) else some (false,()) else some (false,()) else some (false,()) else some (false,()) else some (false,())
abbrev zuc:Fun:=⟨188,(ch [zx]),(ch [.bool]),0,zjp⟩
theorem zD9:Sq zuc:=ms2 (d:=false) (K:=0) Tryz.func188 (by kernel_rfl) (funext fun (x0,())=>by kernel_rfl)
def zf7:(Int × (Int × (Int × Unit)))→Option (Int × (Int × Unit)):=fun (x0,x1,x2,()) =>
  bif x0 != 1 then bif x0 != 2 then some (0,1,()) else bif x1 == 0 then some (0,1,()) else bif x2 == 0 then some (0,1,()) else Option.bind (zeV (x1,x2,())) fun q0=>bif q0.2.1 != 0 then some (0,q0.2.1,()) else bif x0 == 2 then some (x1,0,()) else some (q0.1,0,()) else bif x1 == 0 then some (0,1,()) else bif x2 == 0 then some (0,1,()) else Option.bind (zeV (x1,x2,())) fun q1=>bif q1.2.1 != 0 then some (0,q1.2.1,()) else bif x0 == 2 then some (x1,0,()) else some (q1.1,0,())
abbrev zud:Fun:=⟨279,(ch [tI,tU,tU]),(ch [tU,tI]),0,zf7⟩
theorem zEa:Sq zud:=ms2 (d:=false) (K:=0) Tryz.func279 (by kernel_rfl) (funext fun (x0,x1,x2,())=>by kernel_rfl)
def zgn:(zH × (zH × Unit))→Option (Int × Unit):=fun (x0,x1,()) =>
  Option.bind (vM (x0.1,x1.1,())) fun q0=>Option.bind (zak (x0.2.1,x1.2.1,())) fun q1=>Option.bind (zcU (zj (zj (List.replicate 2 (0:Int)) 0 q0.1) 1 q1.1,())) fun q2=>some (q2.1,())
abbrev zqs:Fun:=⟨193,(ch [zw,zw]),(ch [tI]),0,zgn⟩
theorem zAh:Sq zqs:=ms2 (d:=false) (K:=0) Tryz.func193 (by kernel_rfl) (funext fun (x0,x1,())=>by kernel_rfl)
def zfL:((List zp) × ((Option ((zp × Unit)→Option (Bool × Unit))) × Unit))→Option (Bool × Unit):=fun (x0,x1,()) =>
  Option.bind (jL (x0,some fun z=>zbg (z.1,some x1,()),())) fun q0=>bif q0.1 then some (false,()) else some (true,())
abbrev zkD:Fun:=⟨113,(ch [(.sl zo),(.fn (ch [zo]) (ch [.bool]))]),(ch [.bool]),0,zfL⟩
theorem ztL:Sq zkD:=ms2 (d:=false) (K:=0) Tryz.func113 (by kernel_rfl) (funext fun (x0,x1,())=>by kernel_rfl)
def zcL:((List zH) × ((Option ((zH × Unit)→Option (Bool × Unit))) × Unit))→Option (Bool × Unit):=fun (x0,x1,()) =>
  Option.bind (jM (x0,some fun z=>zbh (z.1,some x1,()),())) fun q0=>bif q0.1 then some (false,()) else some (true,())
abbrev zkE:Fun:=⟨117,(ch [(.sl zw),(.fn (ch [zw]) (ch [.bool]))]),(ch [.bool]),0,zcL⟩
theorem ztM:Sq zkE:=ms2 (d:=false) (K:=0) Tryz.func117 (by kernel_rfl) (funext fun (x0,x1,())=>by kernel_rfl)
def y0:((List Int) × ((Option ((Int × Unit)→Option (Bool × Unit))) × Unit))→Option (Bool × Unit):=fun (x0,x1,()) =>
  Option.bind (qA (x0,some fun z=>zcJ (z.1,some x1,()),())) fun q0=>bif q0.1 then some (false,()) else some (true,())
abbrev zm6:Fun:=⟨119,(ch [(.sl tI),(.fn (ch [tI]) (ch [.bool]))]),(ch [.bool]),0,y0⟩
theorem zxa:Sq zm6:=ms2 (d:=false) (K:=0) Tryz.func119 (by kernel_rfl) (funext fun (x0,x1,())=>by kernel_rfl)
def vO:(zI × ((Option qL) × ((Option Int) × Unit)))→Option (Bool × Unit):=fun (x0,x1,x2,()) =>
  Option.bind x1 fun q0=>Option.bind (zdX (q0.2.1,x0,())) fun q1=>bif q1.1 then Option.bind x1 fun q2=>Option.bind x2 fun q3=>Option.bind (zf5 (q2,x0.1,q3,())) fun q4=>bif q4.1 then some (true,()) else some (false,()) else some (false,())
abbrev zm7:Fun:=⟨199,(ch [zB,(.ptr qb),(.ptr tI)]),(ch [.bool]),0,vO⟩
theorem zxb:Sq zm7:=ms2 (d:=false) (K:=0) Tryz.func199 (by kernel_rfl) (funext fun (x0,x1,x2,())=>by kernel_rfl)
def zgP:((List z8) × ((Option ((z8 × Unit)→Option (Bool × Unit))) × Unit))→Option (Bool × Unit):=fun (x0,x1,()) =>
  Option.bind (j4 (x0,some fun z=>zbK (z.1,some x1,()),())) fun q0=>bif q0.1 then some (false,()) else some (true,())
abbrev zlR:Fun:=⟨122,(ch [(.sl zV),(.fn (ch [zV]) (ch [.bool]))]),(ch [.bool]),0,zgP⟩
theorem zvl:Sq zlR:=ms2 (d:=false) (K:=0) Tryz.func122 (by kernel_rfl) (funext fun (x0,x1,())=>by kernel_rfl)
def yz:((List zi) × ((Option ((zi × Unit)→Option (Bool × Unit))) × Unit))→Option (Bool × Unit):=fun (x0,x1,()) =>
  Option.bind (jc (x0,some fun z=>zbM (z.1,some x1,()),())) fun q0=>bif q0.1 then some (false,()) else some (true,())
abbrev zlS:Fun:=⟨124,(ch [(.sl zl),(.fn (ch [zl]) (ch [.bool]))]),(ch [.bool]),0,yz⟩
theorem zvm:Sq zlS:=ms2 (d:=false) (K:=0) Tryz.func124 (by kernel_rfl) (funext fun (x0,x1,())=>by kernel_rfl)
def zhW:((List zI) × ((Option ((zI × Unit)→Option (Bool × Unit))) × Unit))→Option (Bool × Unit):=fun (x0,x1,()) =>
  Option.bind (vq (x0,some fun z=>zcK (z.1,some x1,()),())) fun q0=>bif q0.1 then some (false,()) else some (true,())
abbrev zm8:Fun:=⟨126,(ch [(.sl zB),(.fn (ch [zB]) (ch [.bool]))]),(ch [.bool]),0,zhW⟩
theorem zxc:Sq zm8:=ms2 (d:=false) (K:=0) Tryz.func126 (by kernel_rfl) (funext fun (x0,x1,())=>by kernel_rfl)
def va:(qq × ((Option qL) × ((Option Int) × Unit)))→Option (Bool × Unit):=fun (x0,x1,x2,()) =>
  bif x0.1 then Option.bind x1 fun q0=>Option.bind x2 fun q1=>Option.bind (zf5 (q0,x0.2.1,q1,())) fun q2=>bif q2.1 then Option.bind x1 fun q3=>Option.bind (qM (q3,x0.2.2.1,())) fun q4=>bif q4.1 then Option.bind x1 fun q5=>Option.bind (qM (q5,x0.2.2.2.1,())) fun q6=>bif q6.1 then some (true,()) else some (false,()) else some (false,()) else some (false,()) else some (true,())
abbrev zlT:Fun:=⟨129,(ch [zZ,(.ptr qb),(.ptr tI)]),(ch [.bool]),0,va⟩
theorem zvn:Sq zlT:=ms2 (d:=false) (K:=0) Tryz.func129 (by kernel_rfl) (funext fun (x0,x1,x2,())=>by kernel_rfl)
def yA:((List qq) × ((Option ((qq × Unit)→Option (Bool × Unit))) × Unit))→Option (Bool × Unit):=fun (x0,x1,()) =>
  Option.bind (je (x0,some fun z=>zbO (z.1,some x1,()),())) fun q0=>bif q0.1 then some (false,()) else some (true,())
abbrev zlU:Fun:=⟨128,(ch [(.sl zZ),(.fn (ch [zZ]) (ch [.bool]))]),(ch [.bool]),0,yA⟩
theorem zvo:Sq zlU:=ms2 (d:=false) (K:=0) Tryz.func128 (by kernel_rfl) (funext fun (x0,x1,())=>by kernel_rfl)
def qC:((List zt) × ((Option ((zt × Unit)→Option (Bool × Unit))) × Unit))→Option (Bool × Unit):=fun (x0,x1,()) =>
  Option.bind (qU (x0,some fun z=>zbi (z.1,some x1,()),())) fun q0=>bif q0.1 then some (false,()) else some (true,())
abbrev zkF:Fun:=⟨131,(ch [(.sl zx),(.fn (ch [zx]) (ch [.bool]))]),(ch [.bool]),0,qC⟩
theorem ztN:Sq zkF:=ms2 (d:=false) (K:=0) Tryz.func131 (by kernel_rfl) (funext fun (x0,x1,())=>by kernel_rfl)
abbrev yo:Type:=(Option zbH) × Int × Int × List Int
abbrev zra:yo→St:=fun (v0,v12,v13,o0)=>St.mk [(0,.dat (.ptr vG) v0),(3,.ow 0),(12,.dat tI v12),(13,.dat tI v13)] [.row tI o0 false]
def yp (k0:yo→Option ((List Int) × Unit)):yo→Option ((List Int) × Unit):=fun (v0,v12,v13,o0) =>
  bif decide (v13 < v12) then Option.bind (vN (v0,v13,())) fun q2=>bif q2.1 then bif decide (List.length o0 + List.length (zj (List.replicate 1 (0:Int)) 0 v13) ≤ lim) then k0 (v0,v12,wI (v13 + 1),o0 ++ zj (List.replicate 1 (0:Int)) 0 v13) else none else k0 (v0,v12,wI (v13 + 1),o0) else some (o0,())
abbrev ziJ (K:Nat):yo→Option ((List Int) × Unit):=zm yp K
theorem zrb (K:Nat):∀ n,evV Es2 K Tryz.f136 0 (ch [(.sl tI)]) [1,1,1,0,1,0] [] zra n = zm yp n:=zv fun n0 (v0,v12,v13,o0)=>by kernel_rfl
def zfM (L0:yo→Option ((List Int) × Unit)):((Option zbH) × Unit)→Option ((List Int) × Unit):=fun (x0,()) =>
  Option.bind (zdG (x0,())) fun q0=>bif q0.1 then Option.bind x0 fun q1=>L0 (x0,((List.length q1.1):Int),0,[]) else some ([],())
def zcM:((Option zbH) × Unit)→Option ((List Int) × Unit):=zfM (ziJ K0)
abbrev zkG:Fun:=⟨136,(ch [(.ptr vG)]),(ch [(.sl tI)]),0,zcM⟩
theorem ztO:Sq zkG:=ml2 (d:=false) (S:=fun K=>zfM (ziJ K)) Tryz.func136 (by kernel_rfl) (fun K=>tr1 (T:=zfM) (zrb K K) fun (x0,())=>by kernel_rfl) rfl
def zkS:((List zp) × Unit)→Option ((Option zdv) × Unit):=fun (x0,()) =>
  Option.bind (zgN (x0,some zhA,())) fun q0=>some (q0.1,())
abbrev zxd:Fun:=⟨319,(ch [(.sl zo)]),(ch [(.ptr yG)]),0,zkS⟩
theorem zFT:Sq zxd:=ms2 (d:=false) (K:=0) Tryz.func319 (by kernel_rfl) (funext fun (x0,())=>by kernel_rfl)
abbrev yq:Type:=(Option zdv) × Int × Int × List Int
abbrev zrc:yq→St:=fun (v0,v12,v13,o0)=>St.mk [(0,.dat (.ptr yG) v0),(3,.ow 0),(12,.dat tI v12),(13,.dat tI v13)] [.row tI o0 false]
def yr (k0:yq→Option ((List Int) × Unit)):yq→Option ((List Int) × Unit):=fun (v0,v12,v13,o0) =>
  bif decide (v13 < v12) then Option.bind (zeu (v0,v13,())) fun q2=>bif q2.1 then bif decide (List.length o0 + List.length (zj (List.replicate 1 (0:Int)) 0 v13) ≤ lim) then k0 (v0,v12,wI (v13 + 1),o0 ++ zj (List.replicate 1 (0:Int)) 0 v13) else none else k0 (v0,v12,wI (v13 + 1),o0) else some (o0,())
abbrev ziK (K:Nat):yq→Option ((List Int) × Unit):=zm yr K
theorem zrd (K:Nat):∀ n,evV Es2 K Tryz.f320 0 (ch [(.sl tI)]) [1,1,1,0,1,0] [] zrc n = zm yr n:=zv fun n0 (v0,v12,v13,o0)=>by kernel_rfl
def zfN (L0:yq→Option ((List Int) × Unit)):((Option zdv) × Unit)→Option ((List Int) × Unit):=fun (x0,()) =>
  Option.bind (zdI (x0,())) fun q0=>bif q0.1 then Option.bind x0 fun q1=>L0 (x0,((List.length q1.1):Int),0,[]) else some ([],())
def zfO:((Option zdv) × Unit)→Option ((List Int) × Unit):=zfN (ziK K0)
abbrev zkH:Fun:=⟨320,(ch [(.ptr yG)]),(ch [(.sl tI)]),0,zfO⟩
theorem ztP:Sq zkH:=ml2 (d:=false) (S:=fun K=>zfN (ziK K)) Tryz.func320 (by kernel_rfl) (fun K=>tr1 (T:=zfN) (zrd K K) fun (x0,())=>by kernel_rfl) rfl
def zjq:((List zt) × Unit)→Option ((Option zbH) × Unit):=fun (x0,()) =>
  Option.bind (yx (x0,some zgh,())) fun q0=>some (q0.1,())
abbrev zue:Fun:=⟨290,(ch [(.sl zx)]),(ch [(.ptr vG)]),0,zjq⟩
theorem zEb:Sq zue:=ms2 (d:=false) (K:=0) Tryz.func290 (by kernel_rfl) (funext fun (x0,())=>by kernel_rfl)
abbrev za2:Type:=Int × (Option ((zg × Unit)→Option ((List Int) × Unit))) × (List zg) × Int × Int × List Int
abbrev zvp:za2→St:=fun (v1,v2,v12,v13,v14,o0)=>St.mk [(1,.dat tI v1),(2,.dat (.fn (.pair zn .unit) (.pair (.arr 4 tU) .unit)) v2),(8,.ow 0),(12,.dat (.sl zn) v12),(13,.dat tI v13),(14,.dat tI v14)] [.row tU o0 false]
def za3 (k0:za2→Option (Int × (Int × Unit))):za2→Option (Int × (Int × Unit)):=fun (v1,v2,v12,v13,v14,o0) =>
  bif decide (v14 < v13) then inR v14 ((List.length v12):Int) (Option.bind v2 fun q0=>Option.bind (q0 (ix zf v12 v14,())) fun q1=>inR v1 (↑4:Int) (bif decide (List.length o0 + List.length (zj (List.replicate 1 (0:Int)) 0 (ix (0:Int) q1.1 v1)) ≤ lim) then k0 (v1,v2,v12,v13,wI (v14 + 1),o0 ++ zj (List.replicate 1 (0:Int)) 0 (ix (0:Int) q1.1 v1)) else none)) else Option.bind (zfi (o0,())) fun q2=>some (q2.1,q2.2.1,())
abbrev zlV (K:Nat):za2→Option (Int × (Int × Unit)):=zm za3 K
theorem zvq (K:Nat):∀ n,evV Es2 K Tryz.f212 0 (ch [tU,tI]) [1,1,0,1,0] [] zvp n = zm za3 n:=zv fun n0 (v1,v2,v12,v13,v14,o0)=>by kernel_rfl
def zi3 (L0:za2→Option (Int × (Int × Unit))):(zb × (Int × ((Option ((zg × Unit)→Option ((List Int) × Unit))) × Unit)))→Option (Int × (Int × Unit)):=fun (x0,x1,x2,()) =>
  L0 (x1,x2,x0.2.1,((List.length x0.2.1):Int),0,[])
def zfl:(zb × (Int × ((Option ((zg × Unit)→Option ((List Int) × Unit))) × Unit)))→Option (Int × Int × Unit):=zi3 (zlV K0)
abbrev zoK:Fun:=⟨212,(ch [zq,tI,(.fn (ch [zn]) (ch [(.arr 4 tU)]))]),(ch [tU,tI]),0,zfl⟩
theorem zyH:Sq zoK:=ml2 (d:=false) (S:=fun K=>zi3 (zlV K)) Tryz.func212 (by kernel_rfl) (fun K=>tr1 (T:=zi3) (zvq K K) fun (x0,x1,x2,())=>by kernel_rfl) rfl
end
end Go.Proofs.YtejbgeokcpillaaGreatDoor
end
section
namespace Go.Proofs.YtejbgeokcpillaaGreatDoor
open Go.Ev
noncomputable section
def zhX:(zb × (zb × Unit))→Option (Bool × Unit):=fun (x0,x1,()) =>
  bif x0.1 == x1.1 then Option.bind (zdK (x0.2.1,x1.2.1,some vV,())) fun q0=>bif q0.1 then Option.bind (zep (x0.2.2.1,x1.2.2.1,some zaI,())) fun q1=>bif q1.1 then Option.bind (zgJ (x0.2.2.2.1,x1.2.2.2.1,())) fun q2=>bif q2.1 then Option.bind (zgL (x0.2.2.2.2.1,x1.2.2.2.2.1,())) fun q3=>bif q3.1 then Option.bind (zaI (x0.2.2.2.2.2.1,x1.2.2.2.2.2.1,())) fun q4=>bif q4.1 then some (true,()) else some (false,()) else some (false,()) else some (false,()) else some (false,()) else some (false,()) else some (false,())
abbrev zsi:Fun:=⟨70,(ch [zq,zq]),(ch [.bool]),0,zhX⟩
theorem zCk:Sq zsi:=ms2 (d:=false) (K:=0) Tryz.func70 (by kernel_rfl) (funext fun (x0,x1,())=>by kernel_rfl)
def zcx:((List zi) × Unit)→Option ((Option zbI) × Unit):=fun (x0,()) =>
  Option.bind (zhV (x0,some qI,())) fun q0=>some (q0.1,())
abbrev zuf:Fun:=⟨155,(ch [(.sl zl)]),(ch [(.ptr vY)]),0,zcx⟩
theorem zEc:Sq zuf:=ms2 (d:=false) (K:=0) Tryz.func155 (by kernel_rfl) (funext fun (x0,())=>by kernel_rfl)
def zfm:((Option zbI) × (zi × Unit))→Option ((List zi) × (Int × (Int × Unit))):=fun (x0,x1,()) =>
  Option.bind (zdO (x0,())) fun q0=>bif q0.2.1 != 0 then some ([],0,q0.2.1,()) else Option.bind (zaJ (x0,q0.1,x1,())) fun q1=>some (q1.1,q0.1,q1.2.1,())
abbrev zoL:Fun:=⟨156,(ch [(.ptr vY),zl]),(ch [(.sl zl),tI,tI]),0,zfm⟩
theorem zyI:Sq zoL:=ms2 (d:=false) (K:=0) Tryz.func156 (by kernel_rfl) (funext fun (x0,x1,())=>by kernel_rfl)
def zhY:((List zi) × (Int × Unit))→Option ((List Int) × Unit):=fun (x0,x1,()) =>
  Option.bind (jI (x1,())) fun q0=>Option.bind (zgm (x0,q0.1,())) fun q1=>some (q1.1,())
abbrev zsj:Fun:=⟨49,(ch [(.sl zl),tI]),(ch [(.sl tI)]),0,zhY⟩
theorem zCl:Sq zsj:=ms2 (d:=false) (K:=0) Tryz.func49 (by kernel_rfl) (funext fun (x0,x1,())=>by kernel_rfl)
def zgo:((List zi) × (zI × Unit))→Option ((List Int) × Unit):=fun (x0,x1,()) =>
  Option.bind (zc2 (x1,())) fun q0=>Option.bind (zgm (x0,q0.1,())) fun q1=>some (q1.1,())
abbrev zqt:Fun:=⟨53,(ch [(.sl zl),zB]),(ch [(.sl tI)]),0,zgo⟩
theorem zAi:Sq zqt:=ms2 (d:=false) (K:=0) Tryz.func53 (by kernel_rfl) (funext fun (x0,x1,())=>by kernel_rfl)
abbrev L3:List Fun:=zub :: zqr :: zw9 :: zoH :: zoI :: zkC :: zsh :: zuc :: zud :: zqs :: zkD :: zkE :: zm6 :: zm7 :: zlR :: zlS :: zm8 :: zlT :: zlU :: zkF :: zkG :: zxd :: zkH :: zue :: zoK :: zsi :: zuf :: zoL :: zsj :: zqt :: L2
theorem h3:Sds Tryz.prog E0 L3:=⟨zD8,zAg,zFS,zyD,zyE,ztK,zCj,zD9,zEa,zAh,ztL,ztM,zxa,zxb,zvl,zvm,zxc,zvn,zvo,ztN,ztO,zFT,ztP,zEb,zyH,zCk,zEc,zyI,zCl,zAi,h2⟩
theorem ms3 {d:Bool} {F:Fun} {f:Go.Func} {K:Nat} (hf:Tryz.prog.funcs[F.id]? = some f) (ho:qW f = true) (h:evF (En E0 d L3) K f F.md F.a F.r = F.spec):Sd Tryz.prog E0 F:=mkS h3 hf ho h
theorem ml3 {d:Bool} {F:Fun} {f:Go.Func} {S:Nat→F.a.I→Option F.r.I} (hf:Tryz.prog.funcs[F.id]? = some f) (ho:qW f = true) (h:∀ K,evF (En E0 d L3) K f F.md F.a F.r = S K) (e:S K0 = F.spec):Sd Tryz.prog E0 F:=mkS h3 hf ho ((h K0).trans e)
abbrev Es3:Env:=En E0 false L3
abbrev za4:Type:=Int × zd
abbrev zvr:za4→St:=fun (v4,o0)=>St.mk [(1,.bp 0 []),(4,.dat tI v4)] [.bx (.dat zy o0) false]
def zdQ (k0:za4→Option (Bool × Unit)):za4→Option (Bool × Unit):=fun (v4,o0) =>
  bif decide (v4 < ((List.length o0.1):Int)) then inR (wI (v4 - 1)) ((List.length o0.1):Int) (inR v4 ((List.length o0.1):Int) (Option.bind (zjo (List.getD o0.1 (Int.toNat (wI (v4 - 1))) (ze zD),ix qK o0.1 v4,())) fun q2=>bif decide (q2.1 ≥ 0) then some (false,()) else k0 (wI (v4 + 1),o0))) else some (true,())
abbrev zgQ (K:Nat):za4→Option (Bool × Unit):=zm zdQ K
theorem zvs (K:Nat):∀ n,evV Es3 K Tryz.f170 0 (ch [.bool]) [1,1,1,0,1,0] [] zvr n = zm zdQ n:=zv fun n0 (v4,o0)=>by kernel_rfl
def zfn (L0:za4→Option (Bool × Unit)):(zd × Unit)→Option (Bool × Unit):=fun (x0,()) =>
  Option.bind (qj (((List.length x0.1):Int),1,8,())) fun q0=>bif q0.1 then bif decide (0 < ((List.length x0.1):Int)) then bif !eqI zD (ix qK x0.1 0) (ze zD) then some (false,()) else Option.bind (ye (x0.1,some zdL,())) fun q1=>bif q1.1 then some (false,()) else L0 (1,x0) else none else some (false,())
def vv:(zd × Unit)→Option (Bool × Unit):=zfn (zgQ K0)
abbrev zoM:Fun:=⟨170,(ch [zy]),(ch [.bool]),0,vv⟩
theorem zyJ:Sq zoM:=ml3 (d:=false) (S:=fun K=>zfn (zgQ K)) Tryz.func170 (by kernel_rfl) (fun K=>tr1 (T:=zfn) (zvs K K) fun (x0,())=>by kernel_rfl) rfl
def yT:(ByteArray × Unit)→Option (Bool × Unit):=fun (x0,()) =>
  bif decide ((↑(ByteArray.size x0):Int) < 1) then some (false,()) else bif decide ((↑(ByteArray.size x0):Int) > 12) then some (false,()) else bif decide (0 < (↑(ByteArray.size x0):Int)) then Option.bind (zeI ((↑(UInt8.toNat (List.getD (Array.toList (ByteArray.data x0)) (Int.toNat 0) 0)):Int),())) fun q0=>bif q0.1 then Option.bind (zkR (x0,some zfg,())) fun q1=>bif q1.1 then some (true,()) else some (false,()) else some (false,()) else none
abbrev zsk:Fun:=⟨154,(ch [.str]),(ch [.bool]),0,yT⟩
theorem zCm:Sq zsk:=ms3 (d:=false) (K:=0) Tryz.func154 (by kernel_rfl) (funext fun (x0,())=>by kernel_rfl)
def zjr:(ByteArray × Unit)→Option (Bool × Unit):=fun (x0,()) =>
  bif decide ((↑(ByteArray.size x0):Int) ≥ 1) then bif decide ((↑(ByteArray.size x0):Int) ≤ 40) then Option.bind (zkR (x0,some zhv,())) fun q0=>bif q0.1 then Option.bind (zfh (x0,ByteArray.mk #[32],())) fun q1=>bif ByteArray.toList q1.1 == ByteArray.toList x0 then some (true,()) else some (false,()) else some (false,()) else some (false,()) else some (false,())
abbrev zug:Fun:=⟨273,(ch [.str]),(ch [.bool]),0,zjr⟩
theorem zEd:Sq zug:=ms3 (d:=false) (K:=0) Tryz.func273 (by kernel_rfl) (funext fun (x0,())=>by kernel_rfl)
def zev:(zt × Unit)→Option (Bool × Unit):=fun (x0,()) =>
  bif x0.1 then Option.bind (zjp (x0,())) fun q0=>bif q0.1 then some (false,()) else some (true,()) else bif !eqI zx x0 (ze zx) then some (true,()) else some (false,())
abbrev zm9:Fun:=⟨187,(ch [zx]),(ch [.bool]),0,zev⟩
theorem zxe:Sq zm9:=ms3 (d:=false) (K:=0) Tryz.func187 (by kernel_rfl) (funext fun (x0,())=>by kernel_rfl)
def zkT:(zp × Unit)→Option (Bool × Unit):=fun (x0,()) =>
  Option.bind (zf7 (x0.2.2.2.1,x0.2.2.2.2.2.2.2.1,x0.2.2.2.2.2.2.1,())) fun q0=>bif q0.2.1 == 0 then bif q0.1 == x0.2.2.2.2.2.2.2.2.1 then Option.bind (zjK (x0.2.1,())) fun q1=>bif q1.1 then Option.bind (zjK (x0.2.2.1,())) fun q2=>bif q2.1 then Option.bind (ja (x0.2.2.2.2.1,())) fun q3=>bif q3.1 then Option.bind (ja (x0.2.2.2.2.2.1,())) fun q4=>bif q4.1 then bif x0.2.2.2.2.1 != x0.2.2.2.2.2.1 then bif decide (x0.2.2.2.2.2.2.2.2.2.1 ≥ 0) then some (true,()) else some (false,()) else some (false,()) else some (false,()) else some (false,()) else some (false,()) else some (false,()) else some (false,()) else some (false,())
abbrev zxf:Fun:=⟨191,(ch [zo]),(ch [.bool]),0,zkT⟩
theorem zFU:Sq zxf:=ms3 (d:=false) (K:=0) Tryz.func191 (by kernel_rfl) (funext fun (x0,())=>by kernel_rfl)
def zjs:(zH × Unit)→Option (Bool × Unit):=fun (x0,()) =>
  bif decide (x0.1 > 4611686018427387904) then some (false,()) else Option.bind (zdB (x0.2.1,())) fun q0=>bif q0.1 then Option.bind (zdB (x0.2.2.1,())) fun q1=>bif q1.1 then Option.bind (zdB (x0.2.2.2.1,())) fun q2=>bif q2.1 then Option.bind (zdB (x0.2.2.2.2.2.2.2.2.2.1,())) fun q3=>bif q3.1 then bif x0.2.2.2.2.1 == 3 then bif eqI zw x0 (x0.1,x0.2.1,x0.2.2.1,x0.2.2.2.1,x0.2.2.2.2.1,(ze zw).2.2.2.2.2.1,(ze zw).2.2.2.2.2.2.1,(ze zw).2.2.2.2.2.2.2.1,(ze zw).2.2.2.2.2.2.2.2.1,x0.2.2.2.2.2.2.2.2.2.1,(ze zw).2.2.2.2.2.2.2.2.2.2) then some (true,()) else some (false,()) else Option.bind (zf7 (x0.2.2.2.2.1,x0.2.2.2.2.2.2.2.1,x0.2.2.2.2.2.2.2.2.1,())) fun q4=>bif q4.2.1 == 0 then bif x0.2.2.2.2.2.2.2.2.2.1 == 0 then bif x0.2.2.2.2.2.1 != x0.2.2.2.2.2.2.1 then Option.bind (ja (x0.2.2.2.2.2.1,())) fun q5=>bif q5.1 then Option.bind (ja (x0.2.2.2.2.2.2.1,())) fun q6=>bif q6.1 then some (true,()) else some (false,()) else some (false,()) else some (false,()) else some (false,()) else some (false,()) else some (false,()) else some (false,()) else some (false,()) else some (false,())
abbrev zuh:Fun:=⟨192,(ch [zw]),(ch [.bool]),0,zjs⟩
theorem zEe:Sq zuh:=ms3 (d:=false) (K:=0) Tryz.func192 (by kernel_rfl) (funext fun (x0,())=>by kernel_rfl)
def zkb:(qL × (Int × Unit))→Option ((Option ((zI × Unit)→Option (Bool × Unit))) × Unit):=fun (x0,x1,()) =>
  some (some fun z=>vO (z.1,some x0,some x1,()),())
abbrev zqu:Fun:=⟨121,(ch [qb,tI]),(ch [(.fn (ch [zB]) (ch [.bool]))]),0,zkb⟩
theorem zAj:Sq zqu:=ms3 (d:=false) (K:=0) Tryz.func121 (by kernel_rfl) (funext fun (x0,x1,())=>by kernel_rfl)
abbrev vb:Type:=(List zg) × Int × Int × qL
abbrev zvt:vb→St:=fun (v10,v11,v12,o0)=>St.mk [(1,.bp 0 []),(10,.dat (.sl zn) v10),(11,.dat tI v11),(12,.dat tI v12)] [.bx (.dat qb o0) true]
abbrev zdR:Type:=(List zg) × Int × Int × qL
abbrev zvu:zdR→St:=fun (v10,v11,v12,o0)=>St.mk [(1,.bp 0 []),(10,.dat (.sl zn) v10),(11,.dat tI v11),(12,.dat tI v12)] [.bx (.dat qb o0) false]
def qP (k1:vb→Option (Bool × Unit)):vb→Option (Bool × Unit):=fun (v10,v11,v12,o0) =>
  bif decide (v12 < v11) then inR v12 ((List.length v10):Int) (Option.bind (yz ((ix zf v10 v12).2.2.1,some fun z=>zaY (z.1,some o0,()),())) fun q3=>bif q3.1 then Option.bind (yA ((ix zf v10 v12).2.2.2.1,some fun z=>va (z.1,some o0,some v12,()),())) fun q4=>bif q4.1 then Option.bind (qC ((ix zf v10 v12).2.2.2.2.1,some fun z=>qz (z.1,some o0,()),())) fun q5=>bif q5.1 then k1 (v10,v11,wI (v12 + 1),o0) else some (false,()) else Option.bind (qC ((ix zf v10 v12).2.2.2.2.1,some fun z=>qz (z.1,some o0,()),())) fun q6=>bif q6.1 then some (false,()) else some (false,()) else Option.bind (yA ((ix zf v10 v12).2.2.2.1,some fun z=>va (z.1,some o0,some v12,()),())) fun q7=>bif q7.1 then Option.bind (qC ((ix zf v10 v12).2.2.2.2.1,some fun z=>qz (z.1,some o0,()),())) fun q8=>bif q8.1 then some (false,()) else some (false,()) else Option.bind (qC ((ix zf v10 v12).2.2.2.2.1,some fun z=>qz (z.1,some o0,()),())) fun q9=>bif q9.1 then some (false,()) else some (false,())) else some (true,())
theorem zvv (K:Nat):∀ n,evV Es3 K Tryz.f66 0 (ch [.bool]) [1,0,1,0] [] zvt n = zm qP n:=zv fun n1 (v10,v11,v12,o0)=>by kernel_rfl
def zlW (k1:vb→Option (Bool × Unit)):zdR→Option (Bool × Unit):=fun (v10,v11,v12,o0) =>
  bif decide (v12 < v11) then inR v12 ((List.length v10):Int) (Option.bind (yz ((ix zf v10 v12).2.2.1,some fun z=>zaY (z.1,some o0,()),())) fun q0=>bif q0.1 then Option.bind (yA ((ix zf v10 v12).2.2.2.1,some fun z=>va (z.1,some o0,some v12,()),())) fun q1=>bif q1.1 then Option.bind (qC ((ix zf v10 v12).2.2.2.2.1,some fun z=>qz (z.1,some o0,()),())) fun q2=>bif q2.1 then k1 (v10,v11,wI (v12 + 1),o0) else some (false,()) else Option.bind (qC ((ix zf v10 v12).2.2.2.2.1,some fun z=>qz (z.1,some o0,()),())) fun q10=>bif q10.1 then some (false,()) else some (false,()) else Option.bind (yA ((ix zf v10 v12).2.2.2.1,some fun z=>va (z.1,some o0,some v12,()),())) fun q11=>bif q11.1 then Option.bind (qC ((ix zf v10 v12).2.2.2.2.1,some fun z=>qz (z.1,some o0,()),())) fun q12=>bif q12.1 then some (false,()) else some (false,()) else Option.bind (qC ((ix zf v10 v12).2.2.2.2.1,some fun z=>qz (z.1,some o0,()),())) fun q13=>bif q13.1 then some (false,()) else some (false,())) else some (true,())
abbrev zlX (K:Nat):zdR→Option (Bool × Unit):=zwB zlW qP K
theorem zvw (K:Nat):∀ n,evV Es3 K Tryz.f66 0 (ch [.bool]) [1,0,1,0] [] zvu n = zwB zlW qP n:=zHi (zvv K) fun n0 (v10,v11,v12,o0)=>by kernel_rfl
def zi4 (L0:zdR→Option (Bool × Unit)):(qL × Unit)→Option (Bool × Unit):=fun (x0,()) =>
  L0 (x0.2.1.2.1,((List.length x0.2.1.2.1):Int),0,x0)
def zaK:(qL × Unit)→Option (Bool × Unit):=zi4 (zlX K0)
abbrev zoN:Fun:=⟨66,(ch [qb]),(ch [.bool]),0,zaK⟩
theorem zyK:Sq zoN:=ml3 (d:=false) (S:=fun K=>zi4 (zlX K)) Tryz.func66 (by kernel_rfl) (fun K=>tr1 (T:=zi4) (zvw K K) fun (x0,())=>by kernel_rfl) rfl
abbrev zbZ:Type:=(List zg) × Int × Int × (List Int) × Int × Int × zg
abbrev zna:zbZ→St:=fun (v14,v15,v16,v55,v56,v57,o0)=>St.mk [(4,.bp 0 []),(14,.dat (.sl zn) v14),(15,.dat tI v15),(16,.dat tI v16),(55,.dat (.sl tI) v55),(56,.dat tI v56),(57,.dat tI v57)] [.bx (.dat zn o0) false]
abbrev zb0:Type:=(Option zbH) × (List zg) × Int × Int × (List zi) × Int × Int × zg
abbrev znb:zb0→St:=fun (v5,v14,v15,v16,v24,v25,v26,o0)=>St.mk [(4,.bp 0 []),(5,.dat (.ptr vG) v5),(14,.dat (.sl zn) v14),(15,.dat tI v15),(16,.dat tI v16),(24,.dat (.sl zl) v24),(25,.dat tI v25),(26,.dat tI v26)] [.bx (.dat zn o0) false]
abbrev jq:Type:=(List zg) × Int × Int
abbrev y3:jq→St:=fun (v14,v15,v16)=>St.mk [(14,.dat (.sl zn) v14),(15,.dat tI v15),(16,.dat tI v16)] []
def zb1 (k0:jq→Option (Bool × Unit)) (k2:zbZ→Option (Bool × Unit)):zbZ→Option (Bool × Unit):=fun (v14,v15,v16,v55,v56,v57,o0) =>
  bif decide (v57 < v56) then inR v57 ((List.length v55):Int) (inR (ix (0:Int) v55 v57) ((List.length o0.2.2.2.2.1):Int) (inR (ix (0:Int) v55 v57) ((List.length o0.2.2.2.2.1):Int) (bif decide ((List.getD o0.2.2.2.2.1 (Int.toNat (ix (0:Int) v55 v57)) (ze zx)).2.2.2.1.2.2.1 ≥ ((List.length o0.2.2.1):Int)) then some (false,()) else bif decide ((List.getD o0.2.2.2.2.1 (Int.toNat (ix (0:Int) v55 v57)) (ze zx)).2.2.2.2.1.2.2.1 ≥ ((List.length o0.2.2.1):Int)) then some (false,()) else bif decide ((List.getD o0.2.2.2.2.1 (Int.toNat (ix (0:Int) v55 v57)) (ze zx)).2.2.2.1.2.2.1 ≥ 0) then inR (List.getD o0.2.2.2.2.1 (Int.toNat (ix (0:Int) v55 v57)) (ze zx)).2.2.2.1.2.2.1 ((List.length o0.2.2.1):Int) (bif (List.getD o0.2.2.1 (Int.toNat (List.getD o0.2.2.2.2.1 (Int.toNat (ix (0:Int) v55 v57)) (ze zx)).2.2.2.1.2.2.1) (ze zl)).2.2.1 != 3 then some (false,()) else inR (List.getD o0.2.2.2.2.1 (Int.toNat (ix (0:Int) v55 v57)) (ze zx)).2.2.2.1.2.2.1 ((List.length o0.2.2.1):Int) (bif (List.getD o0.2.2.1 (Int.toNat (List.getD o0.2.2.2.2.1 (Int.toNat (ix (0:Int) v55 v57)) (ze zx)).2.2.2.1.2.2.1) (ze zl)).2.2.2.1 != ix (0:Int) v55 v57 then some (false,()) else k2 (v14,v15,v16,v55,v56,wI (v57 + 1),o0))) else k2 (v14,v15,v16,v55,v56,wI (v57 + 1),o0)))) else k0 (v14,v15,wI (v16 + 1))
abbrev zb2 (K:Nat) (k0:jq→Option (Bool × Unit)):zbZ→Option (Bool × Unit):=zm (fun k2=>zb1 k0 k2) K
theorem zxg (K:Nat) (n0:Nat):∀ n,evV Es3 K Tryz.f67 0 (ch [.bool]) [1,0,1,0,0,1,1,0,0,1,1,1,1,0] [n0] zna n = zm (fun k2=>zb1 (evV Es3 K Tryz.f67 0 (ch [.bool]) [1,0,1,0] [] y3 n0) k2) n:=zv fun n2 (v14,v15,v16,v55,v56,v57,o0)=>by kernel_rfl
def y4 (L2:zbZ→Option (Bool × Unit)) (k0:jq→Option (Bool × Unit)) (k1:zb0→Option (Bool × Unit)):zb0→Option (Bool × Unit):=fun (v5,v14,v15,v16,v24,v25,v26,o0) =>
  bif decide (v26 < v25) then inR v26 ((List.length v24):Int) (bif (ix zO v24 v26).2.2.1 == 3 then Option.bind (vN (v5,(ix zO v24 v26).2.2.2.1,())) fun q1=>bif q1.1 then inR (ix zO v24 v26).2.2.2.1 ((List.length o0.2.2.2.2.1):Int) (bif (List.getD o0.2.2.2.2.1 (Int.toNat (ix zO v24 v26).2.2.2.1) (ze zx)).2.2.2.1.2.2.1 != v26 then some (false,()) else k1 (v5,v14,v15,v16,v24,v25,wI (v26 + 1),o0)) else some (false,()) else k1 (v5,v14,v15,v16,v24,v25,wI (v26 + 1),o0)) else Option.bind (zcM (v5,())) fun q2=>L2 (v14,v15,v16,q2.1,((List.length q2.1):Int),0,o0)
abbrev zb3 (K:Nat) (k0:jq→Option (Bool × Unit)):zb0→Option (Bool × Unit):=zm (fun k1=>y4 (zb2 K k0) k0 k1) K
theorem zxh (K:Nat) (n0:Nat):∀ n,evV Es3 K Tryz.f67 0 (ch [.bool]) [1,0,1,0,0,1,1,0,0,1,1,0,1,0] [n0] znb n = zm (fun k1=>y4 (zb2 K (evV Es3 K Tryz.f67 0 (ch [.bool]) [1,0,1,0] [] y3 n0)) (evV Es3 K Tryz.f67 0 (ch [.bool]) [1,0,1,0] [] y3 n0) k1) n:=zeG (B:=fun L2 k1=>y4 L2 (evV Es3 K Tryz.f67 0 (ch [.bool]) [1,0,1,0] [] y3 n0) k1) (V1:=fun n1=>evV Es3 K Tryz.f67 0 (ch [.bool]) [1,0,1,0,0,1,1,0,0,1,1,1,1,0] [n0] zna K) (W1:=fun k1=>(zb2 K (evV Es3 K Tryz.f67 0 (ch [.bool]) [1,0,1,0] [] y3 n0))) (fun n1=>zxg K n0 K) fun n1 (v5,v14,v15,v16,v24,v25,v26,o0)=>by kernel_rfl
def y5 (L1:zb0→Option (Bool × Unit)) (k0:jq→Option (Bool × Unit)):jq→Option (Bool × Unit):=fun (v14,v15,v16) =>
  bif decide (v16 < v15) then inR v16 ((List.length v14):Int) (Option.bind (yx ((ix zf v14 v16).2.2.2.2.1,some vJ,())) fun q0=>L1 (q0.1,v14,v15,v16,(ix zf v14 v16).2.2.1,((List.length (ix zf v14 v16).2.2.1):Int),0,ix zf v14 v16)) else some (true,())
abbrev znc (K:Nat):jq→Option (Bool × Unit):=zm (fun k0=>y5 (zb3 K k0) k0) K
theorem zxi (K:Nat):∀ n,evV Es3 K Tryz.f67 0 (ch [.bool]) [1,0,1,0] [] y3 n = zm (fun k0=>y5 (zb3 K k0) k0) n:=zeG (B:=fun L1 k0=>y5 L1 k0) (V1:=fun n0=>evV Es3 K Tryz.f67 0 (ch [.bool]) [1,0,1,0,0,1,1,0,0,1,1,0,1,0] [n0] znb K) (W1:=fun k0=>(zb3 K k0)) (fun n0=>zxh K n0 K) fun n0 (v14,v15,v16)=>by kernel_rfl
def zkc (L0:jq→Option (Bool × Unit)):(qL × Unit)→Option (Bool × Unit):=fun (x0,()) =>
  L0 (x0.2.1.2.1,((List.length x0.2.1.2.1):Int),0)
def zdY:(qL × Unit)→Option (Bool × Unit):=zkc (znc K0)
abbrev zqv:Fun:=⟨67,(ch [qb]),(ch [.bool]),0,zdY⟩
theorem zAk:Sq zqv:=ml3 (d:=false) (S:=fun K=>zkc (znc K)) Tryz.func67 (by kernel_rfl) (fun K=>tr1 (T:=zkc) (zxi K K) fun (x0,())=>by kernel_rfl) rfl
def zhZ:((List zp) × Unit)→Option ((List Int) × Unit):=fun (x0,()) =>
  Option.bind (zkS (x0,())) fun q0=>Option.bind (zfO (q0.1,())) fun q1=>some (q1.1,())
abbrev zsl:Fun:=⟨288,(ch [(.sl zo)]),(ch [(.sl tI)]),0,zhZ⟩
theorem zCn:Sq zsl:=ms3 (d:=false) (K:=0) Tryz.func288 (by kernel_rfl) (funext fun (x0,())=>by kernel_rfl)
abbrev zc7:Type:=(List zt) × Int × (List Int) × Int × Int × List Int
abbrev zyL:zc7→St:=fun (v0,v1,v14,v15,v16,o0)=>St.mk [(0,.dat (.sl zx) v0),(1,.dat tI v1),(6,.ow 0),(14,.dat (.sl tI) v14),(15,.dat tI v15),(16,.dat tI v16)] [.row tU o0 false]
def zc8 (k0:zc7→Option (Int × (Int × Unit))):zc7→Option (Int × (Int × Unit)):=fun (v0,v1,v14,v15,v16,o0) =>
  bif decide (v16 < v15) then inR v16 ((List.length v14):Int) (inR (ix (0:Int) v14 v16) ((List.length v0):Int) (bif (List.getD v0 (Int.toNat (ix (0:Int) v14 v16)) (ze zx)).2.2.2.1.1 == v1 then inR (ix (0:Int) v14 v16) ((List.length v0):Int) (bif decide (List.length o0 + List.length (zj (List.replicate 1 (0:Int)) 0 (List.getD v0 (Int.toNat (ix (0:Int) v14 v16)) (ze zx)).2.2.2.1.2.1) ≤ lim) then k0 (v0,v1,v14,v15,wI (v16 + 1),o0 ++ zj (List.replicate 1 (0:Int)) 0 (List.getD v0 (Int.toNat (ix (0:Int) v14 v16)) (ze zx)).2.2.2.1.2.1) else none) else k0 (v0,v1,v14,v15,wI (v16 + 1),o0))) else Option.bind (zfi (o0,())) fun q3=>some (q3.1,q3.2.1,())
abbrev zoO (K:Nat):zc7→Option (Int × (Int × Unit)):=zm zc8 K
theorem zyM (K:Nat):∀ n,evV Es3 K Tryz.f210 0 (ch [tU,tI]) [1,1,1,0,1,0] [] zyL n = zm zc8 n:=zv fun n0 (v0,v1,v14,v15,v16,o0)=>by kernel_rfl
def zh0 (L0:zc7→Option (Int × (Int × Unit))):((List zt) × (Int × Unit))→Option (Int × (Int × Unit)):=fun (x0,x1,()) =>
  Option.bind (ja (x1,())) fun q0=>bif q0.1 then Option.bind (zjq (x0,())) fun q1=>Option.bind (zcM (q1.1,())) fun q2=>L0 (x0,x1,q2.1,((List.length q2.1):Int),0,[]) else some (0,1,())
def zh1:((List zt) × Int × Unit)→Option (Int × Int × Unit):=zh0 (zoO K0)
abbrev zsm:Fun:=⟨210,(ch [(.sl zx),tI]),(ch [tU,tI]),0,zh1⟩
theorem zCo:Sq zsm:=ml3 (d:=false) (S:=fun K=>zh0 (zoO K)) Tryz.func210 (by kernel_rfl) (fun K=>tr1 (T:=zh0) (zyM K K) fun (x0,x1,())=>by kernel_rfl) rfl
def zh2:(zb × (Int × Unit))→Option (Int × (Int × Unit)):=fun (x0,x1,()) =>
  Option.bind (ja (x1,())) fun q0=>bif q0.1 then Option.bind (zfl (x0,x1,some ziV,())) fun q1=>bif q1.2.1 != 0 then some (0,q1.2.1,()) else Option.bind (zfl (x0,x1,some ziW,())) fun q2=>bif q2.2.1 != 0 then some (0,q2.2.1,()) else Option.bind (zhB (q1.1,q2.1,())) fun q3=>some (q3.1,q3.2.1,()) else some (0,1,())
abbrev zsn:Fun:=⟨138,(ch [zq,tI]),(ch [tU,tI]),0,zh2⟩
theorem zCp:Sq zsn:=ms3 (d:=false) (K:=0) Tryz.func138 (by kernel_rfl) (funext fun (x0,x1,())=>by kernel_rfl)
abbrev L4:List Fun:=zoM :: zsk :: zug :: zm9 :: zxf :: zuh :: zqu :: zoN :: zqv :: zsl :: zsm :: zsn :: L3
theorem h4:Sds Tryz.prog E0 L4:=⟨zyJ,zCm,zEd,zxe,zFU,zEe,zAj,zyK,zAk,zCn,zCo,zCp,h3⟩
theorem ms4 {d:Bool} {F:Fun} {f:Go.Func} {K:Nat} (hf:Tryz.prog.funcs[F.id]? = some f) (ho:qW f = true) (h:evF (En E0 d L4) K f F.md F.a F.r = F.spec):Sd Tryz.prog E0 F:=mkS h4 hf ho h
theorem ml4 {d:Bool} {F:Fun} {f:Go.Func} {S:Nat→F.a.I→Option F.r.I} (hf:Tryz.prog.funcs[F.id]? = some f) (ho:qW f = true) (h:∀ K,evF (En E0 d L4) K f F.md F.a F.r = S K) (e:S K0 = F.spec):Sd Tryz.prog E0 F:=mkS h4 hf ho ((h K0).trans e)
abbrev Es4:Env:=En E0 false L4
def zb4:(qO × Unit)→Option (Bool × Unit):=fun (x0,()) =>
  Option.bind (yT (x0.1,())) fun q0=>bif q0.1 then Option.bind (yT (x0.2.1,())) fun q1=>bif q1.1 then Option.bind (qj (x0.2.2.1,0,3,())) fun q2=>bif q2.1 then some (false,()) else some (true,()) else some (true,()) else some (true,())
abbrev zjX:Fun:=⟨256,(ch [qN]),(ch [.bool]),0,zb4⟩
theorem zso:Sq zjX:=ms4 (d:=false) (K:=0) Tryz.func256 (by kernel_rfl) (funext fun (x0,())=>by kernel_rfl)
def zfo:(qX × Unit)→Option (Bool × Unit):=fun (x0,()) =>
  bif x0.1 then Option.bind (yT (x0.2.1,())) fun q0=>bif q0.1 then bif x0.1 then some (false,()) else bif !ByteArray.toList x0.2.1 == ByteArray.toList (ByteArray.mk #[]) then some (true,()) else some (false,()) else some (true,()) else bif x0.1 then some (false,()) else bif !ByteArray.toList x0.2.1 == ByteArray.toList (ByteArray.mk #[]) then some (true,()) else some (false,())
abbrev zoP:Fun:=⟨179,(ch [qh]),(ch [.bool]),0,zfo⟩
theorem zyN:Sq zoP:=ms4 (d:=false) (K:=0) Tryz.func179 (by kernel_rfl) (funext fun (x0,())=>by kernel_rfl)
def zgp:(zi × Unit)→Option (Bool × Unit):=fun (x0,()) =>
  bif x0.1 then Option.bind (yT (x0.2.1,())) fun q0=>bif q0.1 then Option.bind (zfd (x0,())) fun q1=>Option.bind (jC (q1.1,())) fun q2=>bif q2.1 then some (false,()) else some (true,()) else some (true,()) else bif !eqI zl x0 (ze zl) then some (true,()) else some (false,())
abbrev zqw:Fun:=⟨183,(ch [zl]),(ch [.bool]),0,zgp⟩
theorem zAl:Sq zqw:=ms4 (d:=false) (K:=0) Tryz.func183 (by kernel_rfl) (funext fun (x0,())=>by kernel_rfl)
def zh3:(qq × Unit)→Option (Bool × Unit):=fun (x0,()) =>
  bif x0.1 then Option.bind (zi1 (x0,())) fun q0=>bif q0.1 then Option.bind (zjr (x0.2.2.2.2.1,())) fun q1=>bif q1.1 then some (false,()) else some (true,()) else some (true,()) else bif !eqI zZ x0 (ze zZ) then some (true,()) else some (false,())
abbrev zsp:Fun:=⟨185,(ch [zZ]),(ch [.bool]),0,zh3⟩
theorem zCq:Sq zsp:=ms4 (d:=false) (K:=0) Tryz.func185 (by kernel_rfl) (funext fun (x0,())=>by kernel_rfl)
def zgq:((List zt) × Unit)→Option (Bool × Unit):=fun (x0,()) =>
  Option.bind (qU (x0,some zev,())) fun q0=>bif q0.1 then some (false,()) else some (true,())
abbrev zqx:Fun:=⟨108,(ch [(.sl zx)]),(ch [.bool]),0,zgq⟩
theorem zAm:Sq zqx:=ms4 (d:=false) (K:=0) Tryz.func108 (by kernel_rfl) (funext fun (x0,())=>by kernel_rfl)
abbrev zc9:Type:=Int × (List zp) × Int × Int × List (Int × Int)
abbrev zyO:zc9→St:=fun (v4,v8,v9,v10,o0)=>St.mk [(3,.om 0),(4,.dat tI v4),(8,.dat (.sl zo) v8),(9,.dat tI v9),(10,.dat tI v10)] [.mp tI tI o0]
def zda (k0:zc9→Option (Bool × Unit)):zc9→Option (Bool × Unit):=fun (v4,v8,v9,v10,o0) =>
  bif decide (v10 < v9) then inR v10 ((List.length v8):Int) (bif (ix qp v8 v10).1 then Option.bind (zkT (ix qp v8 v10,())) fun q0=>bif q0.1 then bif (ix qp v8 v10).1 then bif (ix qp v8 v10).1 then k0 (wI (v4 + 1),v8,v9,wI (v10 + 1),yt tI o0 (ix qp v8 v10).2.2.2.2.2.2.2.2.2.1 (wI (zcl tI (0:Int) o0 (ix qp v8 v10).2.2.2.2.2.2.2.2.2.1 + 1))) else k0 (v4,v8,v9,wI (v10 + 1),o0) else bif !eqI zo (ix qp v8 v10) (ze zo) then some (false,()) else bif (ix qp v8 v10).1 then k0 (wI (v4 + 1),v8,v9,wI (v10 + 1),yt tI o0 (ix qp v8 v10).2.2.2.2.2.2.2.2.2.1 (wI (zcl tI (0:Int) o0 (ix qp v8 v10).2.2.2.2.2.2.2.2.2.1 + 1))) else k0 (v4,v8,v9,wI (v10 + 1),o0) else some (false,()) else bif (ix qp v8 v10).1 then bif (ix qp v8 v10).1 then k0 (wI (v4 + 1),v8,v9,wI (v10 + 1),yt tI o0 (ix qp v8 v10).2.2.2.2.2.2.2.2.2.1 (wI (zcl tI (0:Int) o0 (ix qp v8 v10).2.2.2.2.2.2.2.2.2.1 + 1))) else k0 (v4,v8,v9,wI (v10 + 1),o0) else bif !eqI zo (ix qp v8 v10) (ze zo) then some (false,()) else bif (ix qp v8 v10).1 then k0 (wI (v4 + 1),v8,v9,wI (v10 + 1),yt tI o0 (ix qp v8 v10).2.2.2.2.2.2.2.2.2.1 (wI (zcl tI (0:Int) o0 (ix qp v8 v10).2.2.2.2.2.2.2.2.2.1 + 1))) else k0 (v4,v8,v9,wI (v10 + 1),o0)) else bif ((List.length o0):Int) == v4 then some (true,()) else some (false,())
abbrev zoQ (K:Nat):zc9→Option (Bool × Unit):=zm zda K
theorem zyP (K:Nat):∀ n,evV Es4 K Tryz.f110 0 (ch [.bool]) [1,1,1,0,1,0] [] zyO n = zm zda n:=zv fun n0 (v4,v8,v9,v10,o0)=>by kernel_rfl
def zlY (L0:zc9→Option (Bool × Unit)):((List zp) × Unit)→Option (Bool × Unit):=fun (x0,()) =>
  L0 (0,x0,((List.length x0):Int),0,[])
def zlZ:((List zp) × Unit)→Option (Bool × Unit):=zlY (zoQ K0)
abbrev zsq:Fun:=⟨110,(ch [(.sl zo)]),(ch [.bool]),0,zlZ⟩
theorem zCr:Sq zsq:=ml4 (d:=false) (S:=fun K=>zlY (zoQ K)) Tryz.func110 (by kernel_rfl) (fun K=>tr1 (T:=zlY) (zyP K K) fun (x0,())=>by kernel_rfl) rfl
abbrev zb5:Type:=(List zH) × (List zH) × Int × Int
abbrev zxj:zb5→St:=fun (v0,v5,v6,v7)=>St.mk [(0,.dat (.sl zw) v0),(5,.dat (.sl zw) v5),(6,.dat tI v6),(7,.dat tI v7)] []
def zb6 (k0:zb5→Option (Bool × Unit)):zb5→Option (Bool × Unit):=fun (v0,v5,v6,v7) =>
  bif decide (v7 < v6) then inR v7 ((List.length v5):Int) (Option.bind (zjs (ix zhn v5 v7,())) fun q0=>bif q0.1 then bif decide (v7 > 0) then inR (wI (v7 - 1)) ((List.length v0):Int) (Option.bind (zgn (List.getD v0 (Int.toNat (wI (v7 - 1))) (ze zw),ix zhn v5 v7,())) fun q1=>bif decide (q1.1 ≥ 0) then some (false,()) else k0 (v0,v5,v6,wI (v7 + 1))) else k0 (v0,v5,v6,wI (v7 + 1)) else some (false,())) else some (true,())
abbrev znd (K:Nat):zb5→Option (Bool × Unit):=zm zb6 K
theorem zxk (K:Nat):∀ n,evV Es4 K Tryz.f111 0 (ch [.bool]) [1,0,1,0] [] zxj n = zm zb6 n:=zv fun n0 (v0,v5,v6,v7)=>by kernel_rfl
def zkd (L0:zb5→Option (Bool × Unit)):((List zH) × Unit)→Option (Bool × Unit):=fun (x0,()) =>
  L0 (x0,x0,((List.length x0):Int),0)
def zke:((List zH) × Unit)→Option (Bool × Unit):=zkd (znd K0)
abbrev zqy:Fun:=⟨111,(ch [(.sl zw)]),(ch [.bool]),0,zke⟩
theorem zAn:Sq zqy:=ml4 (d:=false) (S:=fun K=>zkd (znd K)) Tryz.func111 (by kernel_rfl) (fun K=>tr1 (T:=zkd) (zxk K K) fun (x0,())=>by kernel_rfl) rfl
abbrev zb7:Type:=(List zg) × Int × Int × qL
abbrev zxl:zb7→St:=fun (v10,v11,v12,o0)=>St.mk [(1,.bp 0 []),(10,.dat (.sl zn) v10),(11,.dat tI v11),(12,.dat tI v12)] [.bx (.dat qb o0) false]
def zb8 (k0:zb7→Option (Bool × Unit)):zb7→Option (Bool × Unit):=fun (v10,v11,v12,o0) =>
  bif decide (v12 < v11) then inR v12 ((List.length v10):Int) (Option.bind (zkb (o0,v12,())) fun q0=>Option.bind (zgP ((ix zf v10 v12).2.1,some fun z=>zes (z.1,some q0.1,()),())) fun q1=>bif q1.1 then Option.bind (yz ((ix zf v10 v12).2.2.1,some fun z=>zbL (z.1,some q0.1,()),())) fun q2=>bif q2.1 then Option.bind (zhW ((ix zf v10 v12).2.2.2.2.2.2.1,q0.1,())) fun q3=>bif q3.1 then k0 (v10,v11,wI (v12 + 1),o0) else some (false,()) else some (false,()) else Option.bind (yz ((ix zf v10 v12).2.2.1,some fun z=>zbL (z.1,some q0.1,()),())) fun q4=>bif q4.1 then some (false,()) else some (false,())) else some (true,())
abbrev zne (K:Nat):zb7→Option (Bool × Unit):=zm zb8 K
theorem zxm (K:Nat):∀ n,evV Es4 K Tryz.f65 0 (ch [.bool]) [1,0,1,0] [] zxl n = zm zb8 n:=zv fun n0 (v10,v11,v12,o0)=>by kernel_rfl
def zkf (L0:zb7→Option (Bool × Unit)):(qL × Unit)→Option (Bool × Unit):=fun (x0,()) =>
  L0 (x0.2.1.2.1,((List.length x0.2.1.2.1):Int),0,x0)
def zdZ:(qL × Unit)→Option (Bool × Unit):=zkf (zne K0)
abbrev zqz:Fun:=⟨65,(ch [qb]),(ch [.bool]),0,zdZ⟩
theorem zAo:Sq zqz:=ml4 (d:=false) (S:=fun K=>zkf (zne K)) Tryz.func65 (by kernel_rfl) (fun K=>tr1 (T:=zkf) (zxm K K) fun (x0,())=>by kernel_rfl) rfl
abbrev zd0:Type:=(List zp) × Int × (List Int) × Int × Int × List Int
abbrev zAp:zd0→St:=fun (v0,v1,v13,v14,v15,o0)=>St.mk [(0,.dat (.sl zo) v0),(1,.dat tI v1),(6,.ow 0),(13,.dat (.sl tI) v13),(14,.dat tI v14),(15,.dat tI v15)] [.row tU o0 false]
def zd1 (k0:zd0→Option (Int × (Int × Unit))):zd0→Option (Int × (Int × Unit)):=fun (v0,v1,v13,v14,v15,o0) =>
  bif decide (v15 < v14) then inR v15 ((List.length v13):Int) (inR (ix (0:Int) v13 v15) ((List.length v0):Int) (Option.bind (zgg (List.getD v0 (Int.toNat (ix (0:Int) v13 v15)) (ze zo),())) fun q2=>bif q2.1 == v1 then inR (ix (0:Int) v13 v15) ((List.length v0):Int) (bif decide (List.length o0 + List.length (zj (List.replicate 1 (0:Int)) 0 (List.getD v0 (Int.toNat (ix (0:Int) v13 v15)) (ze zo)).2.2.2.2.2.2.2.2.1) ≤ lim) then k0 (v0,v1,v13,v14,wI (v15 + 1),o0 ++ zj (List.replicate 1 (0:Int)) 0 (List.getD v0 (Int.toNat (ix (0:Int) v13 v15)) (ze zo)).2.2.2.2.2.2.2.2.1) else none) else k0 (v0,v1,v13,v14,wI (v15 + 1),o0))) else Option.bind (zfi (o0,())) fun q3=>some (q3.1,q3.2.1,())
abbrev zqA (K:Nat):zd0→Option (Int × (Int × Unit)):=zm zd1 K
theorem zAq (K:Nat):∀ n,evV Es4 K Tryz.f209 0 (ch [tU,tI]) [1,1,1,0,1,0] [] zAp n = zm zd1 n:=zv fun n0 (v0,v1,v13,v14,v15,o0)=>by kernel_rfl
def zjt (L0:zd0→Option (Int × (Int × Unit))):((List zp) × (Int × Unit))→Option (Int × (Int × Unit)):=fun (x0,x1,()) =>
  Option.bind (ja (x1,())) fun q0=>bif q0.1 then Option.bind (zhZ (x0,())) fun q1=>L0 (x0,x1,q1.1,((List.length q1.1):Int),0,[]) else some (0,1,())
def zju:((List zp) × Int × Unit)→Option (Int × Int × Unit):=zjt (zqA K0)
abbrev zui:Fun:=⟨209,(ch [(.sl zo),tI]),(ch [tU,tI]),0,zju⟩
theorem zEf:Sq zui:=ml4 (d:=false) (S:=fun K=>zjt (zqA K)) Tryz.func209 (by kernel_rfl) (fun K=>tr1 (T:=zjt) (zAq K K) fun (x0,x1,())=>by kernel_rfl) rfl
abbrev L5:List Fun:=zjX :: zoP :: zqw :: zsp :: zqx :: zsq :: zqy :: zqz :: zui :: L4
theorem h5:Sds Tryz.prog E0 L5:=⟨zso,zyN,zAl,zCq,zAm,zCr,zAn,zAo,zEf,h4⟩
theorem ms5 {d:Bool} {F:Fun} {f:Go.Func} {K:Nat} (hf:Tryz.prog.funcs[F.id]? = some f) (ho:qW f = true) (h:evF (En E0 d L5) K f F.md F.a F.r = F.spec):Sd Tryz.prog E0 F:=mkS h5 hf ho h
theorem ml5 {d:Bool} {F:Fun} {f:Go.Func} {S:Nat→F.a.I→Option F.r.I} (hf:Tryz.prog.funcs[F.id]? = some f) (ho:qW f = true) (h:∀ K,evF (En E0 d L5) K f F.md F.a F.r = S K) (e:S K0 = F.spec):Sd Tryz.prog E0 F:=mkS h5 hf ho ((h K0).trans e)
abbrev Es5:Env:=En E0 false L5
def jD:(zd × Unit)→Option (Bool × Unit):=fun (x0,()) =>
  Option.bind (qj (((List.length x0.2.2.1):Int),1,8,())) fun q0=>bif q0.1 then Option.bind (zav (x0.2.2.1,some zb4,())) fun q1=>bif q1.1 then some (false,()) else Option.bind (zfD (x0,())) fun q2=>Option.bind (zlm (q2.1,())) fun q3=>bif q3.1 then some (true,()) else some (false,()) else some (false,())
abbrev zl0:Fun:=⟨172,(ch [zy]),(ch [.bool]),0,jD⟩
theorem zvx:Sq zl0:=ms5 (d:=false) (K:=0) Tryz.func172 (by kernel_rfl) (funext fun (x0,())=>by kernel_rfl)
def zh4:((List qX) × Unit)→Option (Bool × Unit):=fun (x0,()) =>
  Option.bind (zcw (x0,some zfo,())) fun q0=>bif q0.1 then some (false,()) else some (true,())
abbrev zsr:Fun:=⟨104,(ch [(.sl qh)]),(ch [.bool]),0,zh4⟩
theorem zCs:Sq zsr:=ms5 (d:=false) (K:=0) Tryz.func104 (by kernel_rfl) (funext fun (x0,())=>by kernel_rfl)
def zbt:((List zi) × Unit)→Option (Bool × Unit):=fun (x0,()) =>
  Option.bind (jc (x0,some zgp,())) fun q0=>bif q0.1 then some (false,()) else some (true,())
abbrev zqB:Fun:=⟨106,(ch [(.sl zl)]),(ch [.bool]),0,zbt⟩
theorem zAr:Sq zqB:=ms5 (d:=false) (K:=0) Tryz.func106 (by kernel_rfl) (funext fun (x0,())=>by kernel_rfl)
def zh5:((List qq) × Unit)→Option (Bool × Unit):=fun (x0,()) =>
  Option.bind (je (x0,some zh3,())) fun q0=>bif q0.1 then some (false,()) else some (true,())
abbrev zss:Fun:=⟨107,(ch [(.sl zZ)]),(ch [.bool]),0,zh5⟩
theorem zCt:Sq zss:=ms5 (d:=false) (K:=0) Tryz.func107 (by kernel_rfl) (funext fun (x0,())=>by kernel_rfl)
abbrev zdb:Type:=Int × (List zg) × Int × Int × (List (List Int)) × Int × Int × List Int
abbrev zoR:zdb→St:=fun (v1,v31,v32,v33,v52,v53,v54,o0)=>St.mk [(1,.dat tI v1),(8,.ow 0),(31,.dat (.sl zn) v31),(32,.dat tI v32),(33,.dat tI v33),(52,.dat (.sl (.arr 4 tU)) v52),(53,.dat tI v53),(54,.dat tI v54)] [.row tU o0 false]
abbrev yB:Type:=Int × (List zg) × Int × Int × List Int
abbrev zoS:yB→St:=fun (v1,v31,v32,v33,o0)=>St.mk [(1,.dat tI v1),(8,.ow 0),(31,.dat (.sl zn) v31),(32,.dat tI v32),(33,.dat tI v33)] [.row tU o0 false]
def zdc (k0:yB→Option (Int × (Int × Unit))) (k1:zdb→Option (Int × (Int × Unit))):zdb→Option (Int × (Int × Unit)):=fun (v1,v31,v32,v33,v52,v53,v54,o0) =>
  bif decide (v54 < v53) then inR v54 ((List.length v52):Int) (inR v1 (↑4:Int) (bif decide (List.length o0 + List.length (zj (List.replicate 1 (0:Int)) 0 (List.getD (List.getD v52 (Int.toNat v54) (ze (.arr 4 tU))) (Int.toNat v1) (0:Int))) ≤ lim) then k1 (v1,v31,v32,v33,v52,v53,wI (v54 + 1),o0 ++ zj (List.replicate 1 (0:Int)) 0 (List.getD (List.getD v52 (Int.toNat v54) (ze (.arr 4 tU))) (Int.toNat v1) (0:Int))) else none)) else k0 (v1,v31,v32,wI (v33 + 1),o0)
abbrev zdd (K:Nat) (k0:yB→Option (Int × (Int × Unit))):zdb→Option (Int × (Int × Unit)):=zm (fun k1=>zdc k0 k1) K
theorem zyQ (K:Nat) (n0:Nat):∀ n,evV Es5 K Tryz.f137 0 (ch [tU,tI]) [1,1,1,1,1,0,1,0,0,1,1,0,0,1,1,1,1,1,0] [n0] zoR n = zm (fun k1=>zdc (evV Es5 K Tryz.f137 0 (ch [tU,tI]) [1,1,1,1,1,0,1,0] [] zoS n0) k1) n:=zv fun n1 (v1,v31,v32,v33,v52,v53,v54,o0)=>by kernel_rfl
def zaL (L1:zdb→Option (Int × (Int × Unit))) (k0:yB→Option (Int × (Int × Unit))):yB→Option (Int × (Int × Unit)):=fun (v1,v31,v32,v33,o0) =>
  bif decide (v33 < v32) then inR v33 ((List.length v31):Int) (Option.bind (zh1 ((ix zf v31 v33).2.2.2.2.1,v1,())) fun q2=>bif q2.2.1 != 0 then some (0,q2.2.1,()) else bif decide (List.length o0 + List.length (zj (List.replicate 1 (0:Int)) 0 q2.1) ≤ lim) then L1 (v1,v31,v32,v33,(ix zf v31 v33).2.2.2.2.2.1,((List.length (ix zf v31 v33).2.2.2.2.2.1):Int),0,o0 ++ zj (List.replicate 1 (0:Int)) 0 q2.1) else none) else Option.bind (zfi (o0,())) fun q3=>some (q3.1,q3.2.1,())
abbrev zoT (K:Nat):yB→Option (Int × (Int × Unit)):=zm (fun k0=>zaL (zdd K k0) k0) K
theorem zyR (K:Nat):∀ n,evV Es5 K Tryz.f137 0 (ch [tU,tI]) [1,1,1,1,1,0,1,0] [] zoS n = zm (fun k0=>zaL (zdd K k0) k0) n:=zeG (B:=fun L1 k0=>zaL L1 k0) (V1:=fun n0=>evV Es5 K Tryz.f137 0 (ch [tU,tI]) [1,1,1,1,1,0,1,0,0,1,1,0,0,1,1,1,1,1,0] [n0] zoR K) (W1:=fun k0=>(zdd K k0)) (fun n0=>zyQ K n0 K) fun n0 (v1,v31,v32,v33,o0)=>by kernel_rfl
def zh6 (L0:yB→Option (Int × (Int × Unit))):(zb × (Int × Unit))→Option (Int × (Int × Unit)):=fun (x0,x1,()) =>
  Option.bind (ja (x1,())) fun q0=>bif q0.1 then Option.bind (zju (x0.2.2.2.1,x1,())) fun q1=>bif q1.2.1 != 0 then some (0,q1.2.1,()) else L0 (x1,x0.2.1,((List.length x0.2.1):Int),0,[q1.1]) else some (0,1,())
def zh7:(zb × Int × Unit)→Option (Int × Int × Unit):=zh6 (zoT K0)
abbrev zst:Fun:=⟨137,(ch [zq,tI]),(ch [tU,tI]),0,zh7⟩
theorem zCu:Sq zst:=ml5 (d:=false) (S:=fun K=>zh6 (zoT K)) Tryz.func137 (by kernel_rfl) (fun K=>tr1 (T:=zh6) (zyR K K) fun (x0,x1,())=>by kernel_rfl) rfl
abbrev L6:List Fun:=zl0 :: zsr :: zqB :: zss :: zst :: L5
theorem h6:Sds Tryz.prog E0 L6:=⟨zvx,zCs,zAr,zCt,zCu,h5⟩
theorem ms6 {d:Bool} {F:Fun} {f:Go.Func} {K:Nat} (hf:Tryz.prog.funcs[F.id]? = some f) (ho:qW f = true) (h:evF (En E0 d L6) K f F.md F.a F.r = F.spec):Sd Tryz.prog E0 F:=mkS h6 hf ho h
theorem ml6 {d:Bool} {F:Fun} {f:Go.Func} {S:Nat→F.a.I→Option F.r.I} (hf:Tryz.prog.funcs[F.id]? = some f) (ho:qW f = true) (h:∀ K,evF (En E0 d L6) K f F.md F.a F.r = S K) (e:S K0 = F.spec):Sd Tryz.prog E0 F:=mkS h6 hf ho ((h K0).trans e)
abbrev Es6:Env:=En E0 false L6
abbrev zb9:Type:=Int × Int × zd × List (Option ((zd × Unit)→Option (Bool × Unit)))
abbrev zxn:zb9→St:=fun (v6,v7,o0,o1)=>St.mk [(1,.bp 0 []),(5,.ow 1),(6,.dat tI v6),(7,.dat tI v7)] [.bx (.dat zy o0) false,.row (.fn (.pair zy .unit) (.pair .bool .unit)) o1 false]
def zew (k0:zb9→Option (Bool × Unit)):zb9→Option (Bool × Unit):=fun (v6,v7,o0,o1) =>
  bif decide (v7 < v6) then inR v7 ((List.length o1):Int) (Option.bind (List.getD o1 (Int.toNat v7) (ze (.fn (.pair zy .unit) (.pair .bool .unit)))) fun q0=>Option.bind (q0 (o0,())) fun q1=>bif q1.1 then k0 (v6,wI (v7 + 1),o0,o1) else some (false,())) else some (true,())
abbrev znf (K:Nat):zb9→Option (Bool × Unit):=zm zew K
theorem zxo (K:Nat):∀ n,evV Es6 K Tryz.f94 0 (ch [.bool]) [1,0,1,0] [] zxn n = zm zew n:=zv fun n0 (v6,v7,o0,o1)=>by kernel_rfl
def zkg (L0:zb9→Option (Bool × Unit)):(zd × Unit)→Option (Bool × Unit):=fun (x0,()) =>
  L0 (((List.length (zj (zj (zj (zj (zj (zj (List.replicate 6 (ze (.fn (.pair zy .unit) (.pair .bool .unit)))) 0 (some vv)) 1 (some yb)) 2 (some jD)) 3 (some vt)) 4 (some vu)) 5 (some yS))):Int),0,x0,[some vv,some yb,some jD,some vt,some vu,some yS])
def zac:(zd × Unit)→Option (Bool × Unit):=zkg (znf K0)
abbrev zqC:Fun:=⟨94,(ch [zy]),(ch [.bool]),0,zac⟩
theorem zAs:Sq zqC:=ml6 (d:=false) (S:=fun K=>zkg (znf K)) Tryz.func94 (by kernel_rfl) (fun K=>tr1 (T:=zkg) (zxo K K) fun (x0,())=>by kernel_rfl) rfl
def zex:(zg × Unit)→Option (Bool × Unit):=fun (x0,()) =>
  Option.bind (zh4 (x0.1,())) fun q0=>bif q0.1 then Option.bind (zlQ (x0.2.1,())) fun q1=>bif q1.1 then Option.bind (zbt (x0.2.2.1,())) fun q2=>bif q2.1 then Option.bind (zh5 (x0.2.2.2.1,())) fun q3=>bif q3.1 then Option.bind (zgq (x0.2.2.2.2.1,())) fun q4=>bif q4.1 then some (true,()) else some (false,()) else some (false,()) else some (false,()) else some (false,()) else some (false,())
abbrev zng:Fun:=⟨103,(ch [zn]),(ch [.bool]),0,zex⟩
theorem zxp:Sq zng:=ms6 (d:=false) (K:=0) Tryz.func103 (by kernel_rfl) (funext fun (x0,())=>by kernel_rfl)
abbrev zca:Type:=Int × Int × (List zg) × Int × Int × qL
abbrev znh:zca→St:=fun (v3,v10,v15,v16,v17,o0)=>St.mk [(1,.bp 0 []),(3,.dat tI v3),(10,.dat tI v10),(15,.dat (.sl zn) v15),(16,.dat tI v16),(17,.dat tI v17)] [.bx (.dat qb o0) false]
abbrev vP:Type:=Int × qL
abbrev zni:vP→St:=fun (v10,o0)=>St.mk [(1,.bp 0 []),(10,.dat tI v10)] [.bx (.dat qb o0) false]
def zcb (k0:vP→Option (Bool × Unit)) (k1:zca→Option (Bool × Unit)):zca→Option (Bool × Unit):=fun (v3,v10,v15,v16,v17,o0) =>
  bif decide (v17 < v16) then inR v17 ((List.length v15):Int) (inR v3 (↑4:Int) (inR v17 ((List.length o0.1.2.2.2.2.1):Int) (bif decide (List.getD (ix zf v15 v17).2.2.2.2.2.2.2.1 (Int.toNat v3) (0:Int) > (ix jS o0.1.2.2.2.2.1 v17).2.2.2.2.2.1) then some (false,()) else k1 (v3,v10,v15,v16,wI (v17 + 1),o0)))) else Option.bind (zh7 (o0.2.1,v3,())) fun q0=>Option.bind (zh2 (o0.2.1,v3,())) fun q1=>bif q0.2.1 != 0 then some (false,()) else bif q1.2.1 != 0 then some (false,()) else bif q0.1 != q1.1 then some (false,()) else k0 (wI (v10 + 1),o0)
abbrev zcc (K:Nat) (k0:vP→Option (Bool × Unit)):zca→Option (Bool × Unit):=zm (fun k1=>zcb k0 k1) K
theorem zxq (K:Nat) (n0:Nat):∀ n,evV Es6 K Tryz.f68 0 (ch [.bool]) [1,0,1,0,0,1,1,0,0,1,0,1,0] [n0] znh n = zm (fun k1=>zcb (evV Es6 K Tryz.f68 0 (ch [.bool]) [1,0,1,0] [] zni n0) k1) n:=zv fun n1 (v3,v10,v15,v16,v17,o0)=>by kernel_rfl
def zcd (L1:zca→Option (Bool × Unit)) (k0:vP→Option (Bool × Unit)):vP→Option (Bool × Unit):=fun (v10,o0) =>
  bif decide (v10 < 4) then L1 (v10,v10,o0.2.1.2.1,((List.length o0.2.1.2.1):Int),0,o0) else some (true,())
abbrev znj (K:Nat):vP→Option (Bool × Unit):=zm (fun k0=>zcd (zcc K k0) k0) K
theorem zxr (K:Nat):∀ n,evV Es6 K Tryz.f68 0 (ch [.bool]) [1,0,1,0] [] zni n = zm (fun k0=>zcd (zcc K k0) k0) n:=zeG (B:=fun L1 k0=>zcd L1 k0) (V1:=fun n0=>evV Es6 K Tryz.f68 0 (ch [.bool]) [1,0,1,0,0,1,1,0,0,1,0,1,0] [n0] znh K) (W1:=fun k0=>(zcc K k0)) (fun n0=>zxq K n0 K) fun n0 (v10,o0)=>by kernel_rfl
def zkh (L0:vP→Option (Bool × Unit)):(qL × Unit)→Option (Bool × Unit):=fun (x0,()) =>
  L0 (0,x0)
def zd2:(qL × Unit)→Option (Bool × Unit):=zkh (znj K0)
abbrev zqD:Fun:=⟨68,(ch [qb]),(ch [.bool]),0,zd2⟩
theorem zAt:Sq zqD:=ml6 (d:=false) (S:=fun K=>zkh (znj K)) Tryz.func68 (by kernel_rfl) (fun K=>tr1 (T:=zkh) (zxr K K) fun (x0,())=>by kernel_rfl) rfl
def zh8:((List zi) × (ByteArray × (Int × Unit)))→Option ((List zi) × (Int × (Int × Unit))):=fun (x0,x1,x2,()) =>
  Option.bind (zbt (x0,())) fun q0=>bif q0.1 then Option.bind (jC ((1,x2,(ze qa).2.2),())) fun q1=>bif q1.1 then Option.bind (yT (x1,())) fun q2=>bif q2.1 then Option.bind (zcx (x0,())) fun q3=>Option.bind (zkP ((true,x1,(ze zl).2.2),(1,x2,(ze qa).2.2),())) fun q4=>Option.bind (zfm (q3.1,q4.1,())) fun q5=>some q5 else some ([],0,2,()) else some ([],0,1,()) else some ([],0,1,())
abbrev zsu:Fun:=⟨73,(ch [(.sl zl),.str,tI]),(ch [(.sl zl),tI,tI]),0,zh8⟩
theorem zCv:Sq zsu:=ms6 (d:=false) (K:=0) Tryz.func73 (by kernel_rfl) (funext fun (x0,x1,x2,())=>by kernel_rfl)
def za5:((List zi) × (Int × (qx × (qx × Unit))))→Option ((List zi) × (Int × Unit)):=fun (x0,x1,x2,x3,()) =>
  Option.bind (zbt (x0,())) fun q0=>bif q0.1 then Option.bind (jC (x2,())) fun q1=>bif q1.1 then Option.bind (jC (x3,())) fun q2=>bif q2.1 then Option.bind (zcx (x0,())) fun q3=>Option.bind (zfj (q3.1,x1,())) fun q4=>bif q4.1 then inR x1 ((List.length x0):Int) (Option.bind (zfd (ix zO x0 x1,())) fun q5=>bif !eqI qa q5.1 x2 then some ([],3,()) else Option.bind (zcx (x0,())) fun q6=>inR x1 ((List.length x0):Int) (Option.bind (zkP (ix zO x0 x1,x3,())) fun q7=>Option.bind (zaJ (q6.1,x1,q7.1,())) fun q8=>some q8)) else some ([],3,()) else some ([],1,()) else some ([],1,()) else some ([],1,())
abbrev zsv:Fun:=⟨158,(ch [(.sl zl),tI,qa,qa]),(ch [(.sl zl),tI]),0,za5⟩
theorem zCw:Sq zsv:=ms6 (d:=false) (K:=0) Tryz.func158 (by kernel_rfl) (funext fun (x0,x1,x2,x3,())=>by kernel_rfl)
abbrev L7:List Fun:=zqC :: zng :: zqD :: zsu :: zsv :: L6
theorem h7:Sds Tryz.prog E0 L7:=⟨zAs,zxp,zAt,zCv,zCw,h6⟩
theorem ms7 {d:Bool} {F:Fun} {f:Go.Func} {K:Nat} (hf:Tryz.prog.funcs[F.id]? = some f) (ho:qW f = true) (h:evF (En E0 d L7) K f F.md F.a F.r = F.spec):Sd Tryz.prog E0 F:=mkS h7 hf ho h
theorem ml7 {d:Bool} {F:Fun} {f:Go.Func} {S:Nat→F.a.I→Option F.r.I} (hf:Tryz.prog.funcs[F.id]? = some f) (ho:qW f = true) (h:∀ K,evF (En E0 d L7) K f F.md F.a F.r = S K) (e:S K0 = F.spec):Sd Tryz.prog E0 F:=mkS h7 hf ho ((h K0).trans e)
abbrev Es7:Env:=En E0 false L7
abbrev Ed7:Env:=En E0 true L7
end
end Go.Proofs.YtejbgeokcpillaaGreatDoor
end
