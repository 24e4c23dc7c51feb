import Derived.Test.YtokcjmkikhgkeaaGreatDoorMuc
import Derived.Carry
import Derived.OpenShut
import Derived.Test.YtokcjmkikhgkeaaGreatDoorProg
set_option linter.unusedSimpArgs false
set_option linter.unusedVariables false
section
namespace Go.Ev
open Go.RowKit
section
variable {P:Program} {nt:Up} {F0 F G:FH} {w0 w:World} {st st':St} {m:MM} {a:Act} {E:Env} {v:AV} {u:Value}
def zoI (ids:Nat→Option Nat) (h:List Obj):(b:Ty)→Nat→b.I→List AV→Prop
  | .pair (.sl σ) b,i,x,v :: vs=>(∃ id,v = .ow id ∧ ids i = some id ∧ atN h id = some (mkO σ (bif σ.deep then some (List.length x.1) else none) x.1)) ∧ zoI ids h b (i + 1) x.2 vs
  | .pair a b,i,x,v :: vs=>v = .dat a x.1 ∧ zoI ids h b (i + 1) x.2 vs
  | .unit,_,_,[]=>True
  | _,_,_,_=>False
theorem zoI.ids {ids ids':Nat→Option Nat} {h:List Obj}:∀ {b:Ty} {i:Nat} {x:b.I} {vs:List AV},(∀ f,i ≤ f→ids' f = ids f)→zoI ids h b i x vs→zoI ids' h b i x vs:=by
  intro b
  induction b with
  | unit=>intro i x vs _ ho; cases vs <;> exact ho
  | pair t b _ ihb =>
    intro i x vs hi ho
    cases vs with
    | nil=>cases t <;> exact ho.elim
    | cons v vs =>
      cases t with
      | sl σ =>
        obtain ⟨⟨id,h1,h2,h3⟩,h4⟩:=ho
        exact ⟨⟨id,h1,by rw [hi i (Nat.le_refl _)]; exact h2,h3⟩,ihb (fun f hf=>hi f (by omega)) h4⟩
      | _=>exact ⟨ho.1,ihb (fun f hf=>hi f (by omega)) ho.2⟩
  | _=>intro i x vs _ ho; cases vs <;> exact ho.elim
theorem zoI.heap {ids:Nat→Option Nat} {h h':List Obj}:∀ {b:Ty} {i:Nat} {x:b.I} {vs:List AV},(∀ f id,ids f = some id→atN h' id = atN h id)→zoI ids h b i x vs→zoI ids h' b i x vs:=by
  intro b
  induction b with
  | unit=>intro i x vs _ ho; cases vs <;> exact ho
  | pair t b _ ihb =>
    intro i x vs hi ho
    cases vs with
    | nil=>cases t <;> exact ho.elim
    | cons v vs =>
      cases t with
      | sl σ =>
        obtain ⟨⟨id,h1,h2,h3⟩,h4⟩:=ho
        exact ⟨⟨id,h1,h2,by rw [hi _ _ h2]; exact h3⟩,ihb hi h4⟩
      | _=>exact ⟨ho.1,ihb hi ho.2⟩
  | _=>intro i x vs _ ho; cases vs <;> exact ho.elim
theorem zI0 {h h0 h1:List Obj} (hdr:∀ i τ xs k,atN h i = some (.drow τ xs k)→τ.deep = true) {t:Ty} {x:t.I} (hz:zvz h0 t v = some (x,h1)) (l:yL h0 h) :
    (v = .dat t x ∧ t.dl = false ∧ h1 = h0) ∨ ∃ (σ:Ty) (xs:List σ.I) (id:Nat),(⟨t,x⟩:(τ:Ty) × τ.I) = ⟨.sl σ,xs⟩ ∧ v = .ow id ∧ atN h id = some (mkO σ (bif σ.deep then some (List.length xs) else none) xs) ∧ atN h0 id ≠ some .gone ∧ (∃ o,atN h0 id = some o) ∧ h1 = zi h0 id .gone:=by
  cases v with
  | dat τ y =>
    simp only [zvz] at hz
    obtain ⟨hdl,hz⟩:=qq hz
    split at hz
    · rename_i z hc
      cases hz
      obtain ⟨rfl,rfl⟩:=zN hc
      exact .inl ⟨rfl,hdl,rfl⟩
    · cases hz
  | ow id =>
    simp only [zvz] at hz
    right
    split at hz
    · rename_i τ xs ho
      obtain ⟨hd,hz⟩:=qq hz
      split at hz
      · rename_i z hc
        cases hz
        obtain ⟨e,rfl⟩:=zN hc
        subst e
        refine ⟨τ,xs,id,rfl,rfl,?_,(by rw [ho]; intro e; cases e),⟨_,ho⟩,rfl⟩
        rw [l.at ho (by intro e; cases e),hd]
        rfl
      · cases hz
    · rename_i τ xs n ho
      split at hz
      · rename_i z hc
        obtain ⟨hn,hz⟩:=zd hz
        cases hz
        obtain ⟨e,rfl⟩:=zN hc
        subst e
        have hat:=l.at ho (by intro e; cases e)
        refine ⟨τ,xs,id,rfl,rfl,?_,(by rw [ho]; intro e; cases e),⟨_,ho⟩,rfl⟩
        rw [hat,hdr _ _ _ _ hat,of_decide_eq_true hn]
        rfl
      · cases hz
    · cases hz
  | _=>cases hz
theorem zAQ {h:List Obj} (hdr:∀ i τ xs k,atN h i = some (.drow τ xs k)→τ.deep = true):∀ {b:Ty} {vs:List AV} {x:b.I} {h0 h1:List Obj} (i:Nat),ownC b vs h0 = some (x,h1)→yL h0 h →
    ∃ ids:Nat→Option Nat,zoI ids h b i x vs ∧ yL h1 h ∧ (∀ f id,ids f = some id→i ≤ f ∧ atN h0 id ≠ some .gone ∧ atN h1 id = some .gone ∧ ∃ σ k xs,atN h id = some (mkO σ k xs)) ∧ (∀ j,atN h0 j = some .gone→atN h1 j = some .gone) ∧
      ∀ f f' id,ids f = some id→ids f' = some id→f = f':=by
  intro b
  induction b with
  | unit =>
    intro vs x h0 h1 i hz l
    cases vs with
    | nil=>cases hz; exact ⟨fun _=>none,trivial,l,fun f id e=>(by cases e),fun _ h=>h,fun f f' id e=>(by cases e)⟩
    | cons _ _=>cases hz
  | pair t b _ ihb =>
    intro vs x h0 h1 i hz l
    cases vs with
    | nil=>cases hz
    | cons v vs =>
      simp only [ownC] at hz
      split at hz
      · rename_i y h2 hy
        split at hz
        · rename_i ys h3 hys
          cases hz
          rcases zI0 hdr hy l with ⟨rfl,hdl,rfl⟩ | ⟨σ,xs,id,e,rfl,hat,hng,⟨o,ho⟩,rfl⟩
          · obtain ⟨ids,g1,g2,g3,g4,g5⟩:=ihb (i + 1) hys l
            refine ⟨ids,?_,g2,fun f id hf=>⟨by have:=(g3 f id hf).1; omega,(g3 f id hf).2⟩,g4,g5⟩
            cases t with
            | sl σ=>cases hdl
            | _=>exact ⟨rfl,g1⟩
          · cases e
            obtain ⟨ids,g1,g2,g3,g4,g5⟩:=ihb (i + 1) hys (l.gone ho)
            have hid:atN (zi h0 id .gone) id = some .gone:=yu ho
            have hids:∀ f,i + 1 ≤ f→(if f = i then some id else ids f) = ids f:=fun f hf=>by rw [if_neg (by omega)]
            refine ⟨fun f=>if f = i then some id else ids f,⟨⟨id,rfl,if_pos rfl,hat⟩,g1.ids hids⟩,g2,fun f id' hf=>?_,fun j hj=>?_,fun f f' id' hf hf'=>?_⟩
            · by_cases e:f = i
              · simp only [e,if_true,Option.some.injEq] at hf
                subst hf
                exact ⟨by omega,hng,g4 _ hid,σ,_,_,hat⟩
              · simp only [e,if_false] at hf
                obtain ⟨k1,k2,k3,k4⟩:=g3 f id' hf
                refine ⟨by omega,fun hg=>k2 ?_,k3,k4⟩
                by_cases e2:id = id'
                · rw [← e2]; exact hid
                · rw [qo e2]; exact hg
            · refine g4 j ?_
              by_cases e2:id = j
              · rw [← e2]; exact hid
              · rw [qo e2]; exact hj
            · by_cases e:f = i <;> by_cases e':f' = i
              · omega
              · simp only [e,if_true,Option.some.injEq] at hf
                simp only [e',if_false] at hf'
                subst hf
                exact absurd hid (g3 f' _ hf').2.1
              · simp only [e,if_false] at hf
                simp only [e',if_true,Option.some.injEq] at hf'
                subst hf'
                exact absurd hid (g3 f _ hf).2.1
              · simp only [e,if_false] at hf
                simp only [e',if_false] at hf'
                exact g5 f f' id' hf hf'
        · cases hz
      · cases hz
  | _=>intro vs x h0 h1 i hz l; cases vs <;> cases hz
def MM.ofI (m:MM) (ids:Nat→Option Nat):Nat→Nat→List Nat→Option (Nat × Nat):=fun f=>match ids f with | some id=>m.d id | none=>fun _ _=>none
theorem MM.ofI_some {m:MM} {ids:Nat→Option Nat} {f j:Nat} {p:List Nat} {b:Nat × Nat} (h:m.ofI ids f j p = some b):∃ id,ids f = some id ∧ m.d id j p = some b:=by
  unfold MM.ofI at h
  cases hi:ids f with
  | none=>rw [hi] at h; cases h
  | some id=>rw [hi] at h; exact ⟨id,rfl,h⟩
theorem zGM (h:Rel P nt F0 w0 st m F a w) {ids:Nat→Option Nat}:∀ {b:Ty} {i:Nat} {x:b.I} {vs:List AV} {cs:List Value},zoI ids st.h b i x vs→z4 P st.h m F b vs cs→zij P F w (fun f=>(ids f).bind m) (m.ofI ids) b i x cs:=by
  intro b
  induction b with
  | unit =>
    intro i x vs cs ho hv
    cases vs with
    | nil=>exact hv
    | cons _ _=>exact hv.elim
  | pair t b _ ihb =>
    intro i x vs cs ho hv
    cases vs with
    | nil=>exact hv.elim
    | cons v vs =>
      obtain ⟨c,d,rfl,h1,h2⟩:=hv
      cases t with
      | sl σ =>
        obtain ⟨⟨id,rfl,hi,hat⟩,h4⟩:=ho
        obtain ⟨σ',u,e1,rfl,hs,_⟩:=h1
        cases e1
        refine ⟨u,d,rfl,⟨fun j p bk n hp=>?_,?_⟩,ihb h4 h2⟩
        · obtain ⟨id',hi',hp⟩:=MM.ofI_some hp
          rw [hi] at hi'; cases hi'
          obtain ⟨⟨o,g1,g2⟩,_⟩:=h.dok _ _ _ _ _ hp
          rw [hat] at g1
          cases g1
          cases hd:σ.deep with
          | false=>rw [hd] at g2; cases g2
          | true =>
            rw [hd] at g2
            simp only [cond_true,mkO,Obj.deepAt,decide_eq_true_eq] at g2
            exact ⟨rfl,g2⟩
        · have hq:=zG.owAt hat (zpg _ _ _) hs
          show match (ids i).bind m with | some (b,n)=>_ | none=>_
          rw [hi,Option.bind_some]
          cases hmi:m id with
          | none =>
            rw [hmi] at hq
            exact ⟨zDi (h.obs _ _ hat) hmi,hq.2⟩
          | some bn =>
            obtain ⟨bk,n⟩:=bn
            rw [hmi] at hq
            obtain ⟨cap,g1,g2,g3⟩:=hq
            refine ⟨cap,g1,g2,g3,?_⟩
            have:=zqz (h.obs _ _ hat) hmi
            have hd:m.ofI ids i = m.d id:=by unfold MM.ofI; rw [hi]
            rw [hd]
            exact this
      | _ =>
        obtain ⟨rfl,h4⟩:=ho
        exact ⟨c,d,rfl,h1.2,ihb h4 h2⟩
  | _=>intro i x vs cs ho; cases vs <;> exact ho.elim
theorem zGN (h:Rel P nt F0 w0 st m F a w) {ids:Nat→Option Nat} (hat:∀ f id,ids f = some id→∃ σ k xs,atN st.h id = some (mkO σ k xs)) (hinj:∀ f f' id,ids f = some id→ids f' = some id→f = f'):zC5 F w w0.heap.size (fun f=>(ids f).bind m) (m.ofI ids):=by
  refine ⟨fun f b n hf=>?_,fun f j p b n hp=>?_,fun f f' b n n' hf hf'=>?_,fun f j p b n f' j' p' n' hp hp'=>?_,fun f b n f' j p n' hf hp=>?_⟩
  · obtain ⟨id,hi,hf⟩:=Option.bind_eq_some_iff.1 hf
    obtain ⟨σ,k,xs,ho⟩:=hat f id hi
    obtain ⟨el,cs,c,d,_,_,_,hF,_⟩:=zqz (h.obs _ _ ho) hf
    have:=h.rng _ _ _ hf
    exact ⟨this.2.1,this.2.2,hF⟩
  · obtain ⟨id,hi,hp⟩:=MM.ofI_some hp
    have:=h.dok _ _ _ _ _ hp
    exact ⟨this.2.1,this.2.2.1,this.2.2.2.1⟩
  · obtain ⟨id,hi,hf⟩:=Option.bind_eq_some_iff.1 hf
    obtain ⟨id',hi',hf'⟩:=Option.bind_eq_some_iff.1 hf'
    have:=h.inj _ _ _ _ _ hf hf'
    subst this
    exact hinj _ _ _ hi hi'
  · obtain ⟨id,hi,hp⟩:=MM.ofI_some hp
    obtain ⟨id',hi',hp'⟩:=MM.ofI_some hp'
    obtain ⟨rfl,e2,e3⟩:=h.din _ _ _ _ _ _ _ _ _ hp hp'
    exact ⟨hinj _ _ _ hi hi',e2,e3⟩
  · obtain ⟨id,hi,hf⟩:=Option.bind_eq_some_iff.1 hf
    obtain ⟨id',hi',hp⟩:=MM.ofI_some hp
    exact (h.dok _ _ _ _ _ hp).2.2.2.2 _ _ hf
theorem zJR {ρ:Type} {h:List Obj} {σ:Ty} {v:AV} {k:σ.I→List Obj→Option ρ}:zG3 h σ v k = (zvz h σ v).bind fun p=>k p.1 p.2:=by
  unfold zG3 zvz
  cases v with
  | dat τ x =>
    simp only
    cases τ.dl with
    | true=>rfl
    | false=>simp only [cond_false]; cases qR τ σ x <;> rfl
  | ow id =>
    simp only
    cases atN h id with
    | none=>rfl
    | some o =>
      cases o with
      | row τ xs f =>
        cases f with
        | true=>rfl
        | false =>
          simp only
          cases τ.deep with
          | true=>rfl
          | false=>simp only [cond_false]; cases qR (.sl τ) σ xs <;> rfl
      | drow τ xs n =>
        simp only
        cases qR (.sl τ) σ xs with
        | none=>rfl
        | some x=>simp only; cases decide (n = List.length xs) <;> rfl
      | _=>rfl
  | _=>rfl
theorem zDB {ρ:Type}:∀ {σ:Ty} {vs:List AV} {h:List Obj} {k:σ.I→List Obj→Option ρ},zwU σ vs h k = (ownC σ vs h).bind fun p=>k p.1 p.2:=by
  intro σ
  induction σ with
  | unit=>intro vs h k; cases vs <;> rfl
  | pair a b _ ihb =>
    intro vs h k
    cases vs with
    | nil=>rfl
    | cons v vs =>
      simp only [zwU,ownC,zJR,ihb]
      cases zvz h a v with
      | none=>rfl
      | some p =>
        obtain ⟨x,h1⟩:=p
        simp only [Option.bind_some]
        cases ownC b vs h1 <;> rfl
  | _=>intro vs h k; cases vs <;> rfl
theorem zI1 {md:Nat} {r:Ty} {y:r.I} {vs:List AV} {us:List Value} (h:Rel P nt F0 w0 st m F a w) (hv:jx P st.h m F vs us) (hz:zG4 md r vs st = some y) :
    ∃ F',F0.grow F' w0.heap.size ∧ F'.ok w ∧ zjR P F' w w0.heap.size md r y us:=by
  unfold zG4 at hz
  split at hz
  ·
    rename_i b c v vs
    split at hz
    · rename_i x h1 hx
      split at hz
      · rename_i p hp
        cases hz
        obtain ⟨u,r,rfl,hv1,hv2⟩:=hv
        obtain ⟨id,k,rfl,hat,rfl,hkr⟩:∃ id k,v = .ow id ∧ atN st.h id = some (mkO b k x) ∧ h1 = zi st.h id .gone ∧ (k = none ∨ k = some 0):=by
          unfold zIn at hx
          split at hx
          · rename_i id
            split at hx
            · rename_i τ xs ho
              split at hx
              · rename_i z hc
                cases hx
                obtain ⟨e,rfl⟩:=zN hc
                cases e
                exact ⟨id,none,rfl,ho,rfl,.inl rfl⟩
              · cases hx
            · rename_i τ xs n ho
              split at hx
              · rename_i z hc
                obtain ⟨hn,hx⟩:=zd hx
                cases hx
                obtain ⟨e,rfl⟩:=zN hc
                cases e
                have hn:n = 0:=of_decide_eq_true hn
                subst hn
                exact ⟨id,some 0,rfl,ho,rfl,.inr rfl⟩
              · cases hx
            · cases hx
          · cases hx
        obtain ⟨st2fr,st2h⟩:=st
        have l:yL (zi st2h id .gone) st2h:=(yL.refl st2h).gone hat
        obtain ⟨h',e1,e2,e3⟩:=zoH l (show jF false c vs ⟨st2fr,zi st2h id .gone⟩ = some (p.1,p.2) from hp)
        obtain ⟨m',F',g1,g2,g3⟩:=zeX e1 h hv2
        have hat':atN h' id = some (mkO b k x):=by rw [(e3.2 id (yu hat)).2]; exact hat
        have hq:=zG.owAt hat' (zpg _ _ _) (show zG P h' m' F' (.ow id) u from hv1.ext g3)
        refine ⟨F',g1.gro,g1.fok,?_⟩
        simp only [zjR]
        refine ⟨u,r,rfl,g2,?_⟩
        cases hmi:m' id with
        | none =>
          rw [hmi] at hq
          exact .inr ⟨zDi (g1.obs _ _ hat') hmi,hq.2⟩
        | some bn =>
          obtain ⟨bk,n⟩:=bn
          rw [hmi] at hq
          obtain ⟨cap,k1,k2,k3⟩:=hq
          obtain ⟨el,cs,cc,d,f1,f2,f3,f4,f5⟩:=zqz (g1.obs _ _ hat') hmi
          refine .inl ⟨bk,cap,el,cs,cc,d,k3,k2,(g1.rng _ _ _ hmi).2.1,f1,f4,by rw [f2,k1],f3,?_⟩
          rcases hkr with rfl | rfl
          · exact f5
          · exact z8.toL (fun j x c _ _ hx=>by unfold DE at hx; rw [if_neg (by omega)] at hx; exact hx) (show z8 (DE P F' w (m'.d id) b 0) 0 x cc from f5)
      · cases hz
    · cases hz
  ·
    rename_i b c c' vs us'
    obtain ⟨hbc,hz⟩:=zd hz
    simp only [decide_eq_true_eq] at hbc
    rw [zDB] at hz
    obtain ⟨⟨x,h1⟩,hx,hz⟩:=Option.bind_eq_some_iff.1 hz
    · split at hz
      · rename_i p hp
        cases hz
        obtain ⟨u,r,rfl,hv1,hv2⟩:=hv
        obtain ⟨cs,rfl,hfs⟩:=(show zF P st.h m F (.fld c' vs) u from hv1)
        subst hbc
        obtain ⟨ids,k1,k2,k3,k4,k5⟩:=zAQ (fun i τ xs k ho=>(h.drowk ho).2) 0 hx (yL.refl _)
        obtain ⟨st2fr,st2h⟩:=st
        obtain ⟨h',e1,e2,e3⟩:=zoH k2 (show jF false c us' ⟨st2fr,h1⟩ = some (p.1,p.2) from hp)
        obtain ⟨m',F',g1,g2,g3⟩:=zeX e1 h hv2
        have hkeep:∀ f id,ids f = some id→atN h' id = atN st2h id:=fun f id hf=>(e3.2 id (k3 f id hf).2.2.1).2
        refine ⟨F',g1.gro,g1.fok,?_⟩
        simp only [zjR]
        refine ⟨.agg cs,r,cs,_,_,rfl,g2,rfl,zGM g1 (k1.heap hkeep) (hfs.ext g3),zGN g1 (fun f id hf=>?_) k5⟩
        obtain ⟨σ,k,xs,ho⟩:=(k3 f id hf).2.2.2
        exact ⟨σ,k,xs,by rw [hkeep f id hf]; exact ho⟩
      · cases hz
  ·
    rename_i b c v us'
    rw [zDB] at hz
    obtain ⟨⟨x,h1⟩,hx,hz⟩:=Option.bind_eq_some_iff.1 hz
    · split at hz
      · rename_i p hp
        cases hz
        obtain ⟨u,r,rfl,hv1,hv2⟩:=hv
        obtain ⟨ids,k1,k2,k3,k4,k5⟩:=zAQ (fun i τ xs k ho=>(h.drowk ho).2) 0 hx (yL.refl _)
        obtain ⟨⟨id,rfl,hi0,hat0⟩,_⟩:=(show (∃ id,v = .ow id ∧ ids 0 = some id ∧ atN st.h id = some (mkO b _ x.1)) ∧ _ from k1)
        have hT:y5 st.h id = some b:=by rw [zt4 hat0,zpg]; rfl
        have hfs:z4 P st.h m F (.pair (.sl b) .unit) [.ow id] [u]:=⟨[u],[],rfl,vC.ofRow hT (show zG P st.h m F (.ow id) u from hv1),rfl⟩
        obtain ⟨st2fr,st2h⟩:=st
        obtain ⟨h',e1,e2,e3⟩:=zoH k2 (show jF false c us' ⟨st2fr,h1⟩ = some (p.1,p.2) from hp)
        obtain ⟨m',F',g1,g2,g3⟩:=zeX e1 h hv2
        have hkeep:∀ f id,ids f = some id→atN h' id = atN st2h id:=fun f id hf=>(e3.2 id (k3 f id hf).2.2.1).2
        refine ⟨F',g1.gro,g1.fok,?_⟩
        simp only [zjR]
        refine ⟨u,r,_,_,rfl,g2,zGM g1 (k1.heap hkeep) (hfs.ext g3),zGN g1 (fun f id hf=>?_) k5⟩
        obtain ⟨σ,k,xs,ho⟩:=(k3 f id hf).2.2.2
        exact ⟨σ,k,xs,by rw [hkeep f id hf]; exact ho⟩
      · cases hz
  ·
    split at hz
    · rename_i p hp
      cases hz
      obtain ⟨m',F',g1,g2,_⟩:=zeX (x:=p.1) (st':=p.2) hp h hv
      exact ⟨F',g1.gro,g1.fok,g2⟩
    · cases hz
  · cases hz
theorem zI2 (hm:P.follows .mixedOrders = true) (hE:EnvOk P G E) {fi:FuncId} {f:Func} (hf:P.funcs[fi]? = some f) {K md:Nat} {a r:Ty} {x:a.I} {y:r.I} (he:evF E K f md a r x = some y)
    {F0:FH} {w:World} {vs:List Value} (hG:G.le F0) (hk:F0.ok w) (hr:RepA P F0 a x vs) :
    Calls P fi vs.toArray w fun e w'=>∃ us F',e = .returned (zql us) ∧ Below w.heap.size w w' ∧ F0.grow F' w.heap.size ∧ F'.ok w' ∧ zjR P F' w' w.heap.size md r y us:=by
  unfold evF at he
  cases hb:f.body with
  | none=>rw [hb] at he; cases he
  | some c =>
    rw [hb] at he
    simp only at he
    have hE':EnvOk P G { E with nt:=f.ntmps }:=⟨hE.types,hE.funs,hE.glob,hE.ext,hE.hnd⟩
    refine calls_of_wp hf hb ?_
    refine zGL (nt:=⟨f.ntmps,[],F0⟩) (F0:=F0) (w0:=w) (.inr rfl) hm hE' hG rfl c (r:=y) ?_ ⟨_,F0,Rel.enter hk hr f.ntmps⟩ he
    rintro e st a' w' ⟨m,F,h⟩ hfin
    have hdone:(cond ((f.results.toList.map (zdi { E with nt:=f.ntmps } st)).all Option.isSome) (zG4 md r ((f.results.toList.map (zdi { E with nt:=f.ntmps } st)).filterMap id) st) none) = some y →
        a'.defers = [] ∧ ∃ v,(results f a'.tmps).run P w' = .ok v w' ∧ ∃ us F',Ending.returned v = .returned (zql us) ∧ Below w.heap.size w w' ∧ F0.grow F' w.heap.size ∧ F'.ok w' ∧ zjR P F' w' w.heap.size md r y us:=by
      intro hfin
      obtain ⟨h1,h2⟩:=zd hfin
      obtain ⟨us,h3,h4⟩:=zuP hE' h (zk4 h1)
      obtain ⟨F',g1,g2,g3⟩:=zI1 h h4 h2
      exact ⟨h.dfr,_,h3,us,F',rfl,h.bel,g1,g2,g3⟩
    cases e with
    | normal=>exact hdone hfin
    | ret=>exact hdone hfin
    | exit id=>cases hfin
theorem jx.one {h:List Obj}:∀ {vs:List AV} {us:List Value},jx P h m F vs us→vs.all AV.one = true→zkj P h m F vs us
  | [],_,e,_=>e
  | v :: vs,_,⟨u,r,e,h1,h2⟩,ho=>by
    simp only [List.all_cons,Bool.and_eq_true] at ho
    rw [zh.eq1 (by rintro ws rfl; cases ho.1)] at h1
    exact ⟨u,r,e,h1,jx.one h2 ho.2⟩
theorem zxt:∀ {vs:List AV} {us:List Value} {h:List Obj} {m:MM} {F:FH} {i t:Nat} {v:AV},look (slots vs i) t = some v→jx P h m F vs us→i ≤ t ∧ ∃ u,us[t - i]? = some u ∧ zh P h m F v u
  | [],_,_,_,_,_,_,_,h,_=>by simp [slots,look] at h
  | x :: vs,_,hp,m,F,i,t,v,h,⟨u,r,rfl,h1,h2⟩=>by
    simp only [slots] at h
    by_cases e:i = t
    · subst e
      simp only [look,beq_self,cond_true,Option.some.injEq] at h
      subst h
      exact ⟨Nat.le_refl _,u,by simp,h1⟩
    · simp only [look,zaL e,cond_false] at h
      obtain ⟨g1,u',g2,g3⟩:=zxt h h2
      refine ⟨by omega,u',?_,g3⟩
      rw [show t - i = (t - (i + 1)) + 1 by omega,List.getElem?_cons_succ]
      exact g2
theorem zKt (hm:P.follows .mixedOrders = true) (hE:EnvOk P G E) {fi:FuncId} {f:Func} (hf:P.funcs[fi]? = some f) (hn:(f.name == "runtime.NumGoroutine") = false) (hb':f.body.isNone = false):zKN P G fi (zKW E f):=by
  refine ⟨⟨f,hf,hn,hb'⟩,fun args h h' v he nt F0 w0 fr m F a w vs hG hr hv=>?_⟩
  change zqF E f (AV × List Obj) args h (fun v h=>some (v,h)) = some (v,h') at he
  unfold zqF at he
  cases hb:f.body with
  | none=>rw [hb] at he; cases he
  | some c =>
    rw [hb] at he
    simp only at he
    have hE':EnvOk P G (inE E f):=⟨hE.types,hE.funs,hE.glob,hE.ext,hE.hnd⟩
    refine calls_of_wp hf hb ?_
    let up:List (AV × Value):=fr.filterMap (fun p=>(look fr p.1).map fun v=>(v,a.tmps.getD p.1 undef)) ++ nt.up
    have hup:∀ v u,(v,u) ∈ up→zh P h m F v u:=by
      intro v u hv
      rcases List.mem_append.1 hv with hv | hv
      · obtain ⟨p,hp,e⟩:=List.mem_filterMap.1 hv
        obtain ⟨v',h1,h2⟩:=Option.map_eq_some_iff.1 e
        cases h2
        exact hr.fr _ _ h1
      · exact hr.up v u hv
    have hst:Rel P ⟨f.ntmps,up,F⟩ F0 w0 ⟨slots args 0,h⟩ m F { tmps:=vs.toArray ++ Array.replicate (f.ntmps - vs.toArray.size) undef,defers:=[] } w:=by
      refine ⟨by simp; omega,fun t v ht=>?_,hup,.refl F,hr.obs,hr.inj,hr.rng,hr.dok,hr.din,hr.fok,hr.gro,hr.bel,rfl⟩
      obtain ⟨_,u,h2,h3⟩:=zxt ht hv
      rw [Nat.sub_zero] at h2
      have hlt:=(List.getElem?_eq_some_iff.1 h2).1
      have:(vs.toArray ++ Array.replicate (f.ntmps - vs.toArray.size) undef).getD t undef = u:=by
        rw [Array.getD_eq_getD_getElem?,Array.getElem?_append_left (by simpa using hlt)]
        simp [h2]
      rw [this]
      exact h3
    refine zGL (nt:=⟨f.ntmps,up,F⟩) (F0:=F0) (w0:=w0) (.inl rfl) hm hE' hG rfl c (r:=(v,h')) ?_ ⟨m,F,hst⟩ he
    rintro e st a' w' ⟨m',F',h2⟩ hfin
    have hdone:(cond ((f.results.toList.map (zdi (inE E f) st)).all Option.isSome && ((f.results.toList.map (zdi (inE E f) st)).filterMap id).all AV.one) (some (unT ((f.results.toList.map (zdi (inE E f) st)).filterMap id),st.h)) none) = some (v,h') →
        a'.defers = [] ∧ ∃ v1,(results f a'.tmps).run P w' = .ok v1 w' ∧ ∃ u m' F',Ending.returned v1 = .returned u ∧ F.le F' ∧ Rel P nt F0 w0 ⟨fr,h'⟩ m' F' a w' ∧ zh P h' m' F' v u:=by
      intro hfin
      obtain ⟨g1,g2⟩:=zd hfin
      rw [Bool.and_eq_true] at g1
      cases g2
      obtain ⟨us,g3,g4⟩:=zuP hE' h2 (zk4 g1.1)
      refine ⟨h2.dfr,_,g3,_,m',F',rfl,h2.lo,⟨hr.nt,fun t v ht=>?_,fun v u hv=>h2.up v u (List.mem_append.2 (.inr hv)),hr.lo.trans h2.lo,h2.obs,h2.inj,h2.rng,h2.dok,h2.din,h2.fok,h2.gro,h2.bel,hr.dfr⟩,zdu (jx.one g4 g1.2)⟩
      have hmem:∀ (l:List (Nat × AV)),look l t = some v→∃ p ∈ l,p.1 = t:=by
        intro l
        induction l with
        | nil=>intro h; simp [look] at h
        | cons p l ih =>
          intro h
          obtain ⟨k,y⟩:=p
          simp only [look] at h
          cases hb:Nat.beq k t with
          | true=>exact ⟨(k,y),by simp,Nat.eq_of_beq_eq_true hb⟩
          | false=>rw [hb] at h; obtain ⟨p,hp,e⟩:=ih h; exact ⟨p,by simp [hp],e⟩
      obtain ⟨p,hp,rfl⟩:=hmem fr ht
      exact h2.up v _ (List.mem_append.2 (.inl (List.mem_filterMap.2 ⟨p,hp,by rw [ht]; rfl⟩)))
    cases e with
    | normal=>exact hdone hfin
    | ret=>exact hdone hfin
    | exit id=>cases hfin
end
end Go.Ev
end
section
namespace Go.Ev
open Go.RowKit Go.ChangeShapes
def InR:(τ:Ty)→τ.I→Prop
  | .int k,n=>(Lit.int k n).wf = true
  | .str,s=>ByteArray.size s ≤ maxLen
  | .pair a b,x=>InR a x.1 ∧ InR b x.2
  | .st a,x=>InR a x
  | .arr n a,xs=>List.length xs = n ∧ ∀ x ∈ (show List a.I from xs),InR a x
  | .sl a,xs=>List.length xs ≤ maxLen ∧ ∀ x ∈ (show List a.I from xs),InR a x
  | _,_=>True
def Ty.data:Ty→Bool
  | .bool | .int _ | .str | .unit=>true
  | .pair a b=>a.data && b.data
  | .st a=>a.data
  | .arr _ a=>a.data
  | .sl a=>a.data
  | _=>false
mutual
def dbk {H:Type}:DataW H→Nat
  | .slice elems _=>zgQ elems + 1
  | .agg parts=>zgQ parts + 1
  | _=>1
def zgQ {H:Type}:List (DataW H)→Nat
  | []=>0
  | d :: r=>dbk d + zgQ r
end
def bkI:(τ:Ty)→τ.I→Nat
  | .unit,_=>0
  | .pair a b,x=>bkI a x.1 + bkI b x.2
  | .st a,x=>bkI a x + 1
  | .arr _ a,xs=>(List.map (bkI a) xs).sum + 1
  | .sl a,xs=>(List.map (bkI a) xs).sum + 1
  | _,_=>1
theorem zue {H:Type} (d:DataW H):1 ≤ dbk d:=by cases d <;> simp [dbk]
section
variable {P:Program} {H:Type} {enc:TypeId × Value→H} {w:World} {base:Nat} {sp:Nat→Bool} {held:Bool}
theorem zDC {a:Addr} {j:Nat} {v:Value} (h:w.cell? (a.add j) = some v) (h0:a.spot = none ∨ j = 0):a.spot = none ∧ ∃ c el fz,w.heap[a.block]? = some (.cells c el fz) ∧ c[a.off + j]? = some v:=by
  have hs:a.spot = none:=by
    rcases h0 with h0 | rfl
    · exact h0
    · have:a.add 0 = a:=by unfold Addr.add; rfl
      rw [this] at h
      unfold World.cell? at h
      split at h
      · cases hsp:a.spot with
        | none=>rfl
        | some x=>rw [hsp] at h; simp at h
      · cases h
  refine ⟨hs,?_⟩
  rw [zqp hs] at h
  unfold World.cell? at h
  simp only at h
  split at h
  · rename_i c el fz hk
    exact ⟨c,el,fz,hk,by simpa using h⟩
  · cases h
theorem zDD {a:Addr} {n:Nat} {cs:List Value} (h:w.cells? base a n = some cs) (hn:0 < n):∃ c,FH.of w a.block = some c ∧ a.spot = none ∧ ∀ (j:Nat) (v:Value),cs[j]? = some v→c[a.off + j]? = some v:=by
  obtain ⟨hb,hl,hc⟩:=World.cells?_some h
  have h0:=hc 0 hn
  rw [List.getElem?_eq_getElem (by omega)] at h0
  obtain ⟨hs,c,el,fz,hk,_⟩:=zDC h0 (.inr rfl)
  refine ⟨c,by simp [FH.of,hk],hs,fun j v hv=>?_⟩
  have hj:=(List.getElem?_eq_some_iff.1 hv).1
  have:=hc j (by omega)
  rw [hv] at this
  obtain ⟨_,c',_,_,hk',h2⟩:=zDC this (.inl hs)
  rw [hk] at hk'
  cases hk'
  exact h2
theorem zGO {ad:Addr} {n:Nat} (hn:0 < n) {c:Array Value} (hs:ad.spot = none) (hc:FH.of w ad.block = some c):∀ (m i0:Nat) (css:List (List Value)),((List.range' i0 m).mapM fun i=>w.cells? base (ad.add (i * n)) n) = some css →
    ∀ (j:Nat) (v:Value),css.flatten[j]? = some v→c[ad.off + i0 * n + j]? = some v
  | 0,i0,css,h,j,v,hj=>by simp at h; subst h; simp at hj
  | m + 1,i0,css,h,j,v,hj=>by
    rw [List.range'_succ,List.mapM_cons] at h
    simp only [Option.bind_eq_bind,Option.bind_eq_some_iff,Option.pure_def,Option.some.injEq] at h
    obtain ⟨cs,h1,css',h2,rfl⟩:=h
    have hl:=(World.cells?_some h1).2.1
    obtain ⟨c',h3,_,h5⟩:=zDD h1 hn
    rw [zqp hs] at h3 h5
    simp only at h3 h5
    rw [hc] at h3
    cases h3
    rw [List.flatten_cons] at hj
    by_cases hjn:j < n
    · rw [List.getElem?_append_left (by omega)] at hj
      exact h5 j v hj
    · rw [List.getElem?_append_right (by omega),hl] at hj
      have:=zGO hn hs hc m (i0 + 1) css' h2 (j - n) v hj
      rw [show ad.off + i0 * n + j = ad.off + (i0 + 1) * n + (j - n) by rw [Nat.add_mul]; omega]
      exact this
theorem zvO {α:Type} {R:α→List Value→Prop} {f:Nat→Option (List Value)} {g:List Value→Option (DataW H × List MemPlace)} {I:α→Prop} {bk:α→Nat} (hg:∀ cs y,g cs = some y→∃ x,R x cs ∧ I x ∧ bk x ≤ dbk y.1) :
    ∀ (l:List Nat) (ys:List (DataW H × List MemPlace)),(l.mapM fun i=>(f i).bind g) = some ys→∃ (xs:List α) (css:List (List Value)),xs.length = l.length ∧ l.mapM f = some css ∧ zx R xs css.flatten ∧ (∀ x ∈ xs,I x) ∧ (xs.map bk).sum ≤ zgQ (ys.map (·.1))
  | [],ys,h=>⟨[],[],rfl,rfl,rfl,by simp,Nat.zero_le _⟩
  | i :: l,ys,h=>by
    rw [List.mapM_cons] at h
    simp only [Option.bind_eq_bind,Option.bind_eq_some_iff,Option.pure_def,Option.some.injEq] at h
    obtain ⟨y,⟨cs,hcs,hy⟩,ys',h2,rfl⟩:=h
    obtain ⟨x,hx,hI,hk⟩:=hg cs y hy
    obtain ⟨xs,css,h3,h4,h5,h6,h7⟩:=zvO hg l ys' h2
    refine ⟨x :: xs,cs :: css,by simp [h3],?_,⟨cs,css.flatten,rfl,hx,h5⟩,?_,by simp only [List.map_cons,List.sum_cons,zgQ]; omega⟩
    · rw [List.mapM_cons,hcs,h4]; rfl
    · intro z hz
      rcases List.mem_cons.1 hz with rfl | hz
      · exact hI
      · exact h6 z hz
theorem zpl {cs:List Value} {n:Nat}:∀ (m i0:Nat) (css:List (List Value)),(i0 + m) * n ≤ cs.length→((List.range' i0 m).mapM fun i=>some ((cs.drop (i * n)).take n)) = some css→css.flatten = (cs.drop (i0 * n)).take (m * n)
  | 0,i0,css,_,h=>by simp at h; subst h; simp
  | m + 1,i0,css,hl,h=>by
    rw [List.range'_succ,List.mapM_cons] at h
    simp only [Option.bind_eq_bind,Option.bind_some,Option.bind_eq_some_iff,Option.pure_def,Option.some.injEq] at h
    obtain ⟨css',h2,rfl⟩:=h
    have:=zpl m (i0 + 1) css' (by rw [show i0 + 1 + m = i0 + (m + 1) by omega]; exact hl) h2
    rw [List.flatten_cons,this,Nat.add_mul i0 1 n,Nat.one_mul,← List.drop_drop,show (m + 1) * n = n + m * n by rw [Nat.add_mul]; omega,List.take_add]
theorem zJS:∀ (τ:Ty),τ.data = true →
    (∀ (fuel:Nat) (t:TypeId) (cs:List Value) (x:DataW H × List MemPlace),τ.np = true→z6 P t τ→DataW.trod enc P w base sp held fuel t cs = some x→∃ y,Rep P (FH.of w) τ y cs ∧ InR τ y ∧ bkI τ y ≤ dbk x.1) ∧
    (∀ (fuel:Nat) (fs:List Field) (off:Nat) (cs:List Value) (xs:List (DataW H × List MemPlace)),(tyB P τ).2 fs off = true→(fs.mapM fun f=>DataW.trod enc P w base sp held fuel f.type ((cs.drop f.offset).take (P.cellsOf f.type))) = some xs→cs.length = off + nc τ→∃ y,Rep P (FH.of w) τ y (cs.drop off) ∧ InR τ y ∧ bkI τ y ≤ zgQ (xs.map (·.1))):=by
  intro τ
  induction τ with
  | unit =>
    intro _
    refine ⟨fun fuel t cs x _ h=>(by cases h),fun fuel fs off cs xs h _ hl=>⟨(),?_,trivial,Nat.zero_le _⟩⟩
    show cs.drop off = []
    rw [List.drop_eq_nil_iff]
    simp only [nc] at hl
    omega
  | bool =>
    intro _
    refine ⟨fun fuel t cs x _ h hx=>?_,fun fuel fs off cs xs h=>(by cases h)⟩
    have hu:P.underlying t = some .bool:=by
      simp only [z6,tyB,Bool.and_eq_true] at h
      have:=h.2
      split at this
      · assumption
      · cases this
    cases fuel with
    | zero=>simp [DataW.trod] at hx
    | succ fuel =>
      unfold DataW.trod at hx
      rw [hu] at hx
      split at hx <;> first | (cases hx; done) | skip
      all_goals first | exact ⟨_,rfl,trivial,zue _⟩ | (rename_i hh; simp at hh)
  | int k =>
    intro _
    refine ⟨fun fuel t cs x _ h hx=>?_,fun fuel fs off cs xs h=>(by cases h)⟩
    have hu:P.underlying t = some (.int k):=by
      simp only [z6,tyB,Bool.and_eq_true] at h
      have:=h.2
      split at this
      · simp only [decide_eq_true_eq] at this; subst this; assumption
      · cases this
    cases fuel with
    | zero=>simp [DataW.trod] at hx
    | succ fuel =>
      unfold DataW.trod at hx
      rw [hu] at hx
      split at hx <;> first | (cases hx; done) | skip
      · rename_i hh; cases hh
      · rename_i k1 k2 n hh
        cases hh
        split at hx
        · rename_i hc; obtain ⟨rfl,hw⟩:=hc; exact ⟨n,rfl,hw,zue _⟩
        · cases hx
      all_goals (rename_i hh; simp at hh)
  | str =>
    intro _
    refine ⟨fun fuel t cs x _ h hx=>?_,fun fuel fs off cs xs h=>(by cases h)⟩
    have hu:P.underlying t = some .string:=by
      simp only [z6,tyB,Bool.and_eq_true] at h
      have:=h.2
      split at this
      · assumption
      · cases this
    cases fuel with
    | zero=>simp [DataW.trod] at hx
    | succ fuel =>
      unfold DataW.trod at hx
      rw [hu] at hx
      split at hx <;> first | (cases hx; done) | skip
      all_goals first
        | (rename_i hh; simp at hh; done)
        | (rename_i s hh; split at hx; · rename_i hc; exact ⟨s,rfl,hc,zue _⟩
           · cases hx)
        | skip
  | pair a b iha ihb =>
    intro hd
    simp only [Ty.data,Bool.and_eq_true] at hd
    refine ⟨fun fuel t cs x _ h hx=>?_,fun fuel fs off cs xs h hx hl=>?_⟩
    · rename_i hnp; cases hnp
    · cases fs with
      | nil=>cases h
      | cons f fs =>
        simp only [tyB,Bool.and_eq_true] at h
        obtain ⟨⟨⟨⟨h1,h2⟩,h3⟩,_⟩,h4⟩:=h
        obtain rfl:=Nat.eq_of_beq_eq_true h1
        obtain ⟨i,hi,hsz⟩:=z6.size h2 (Ty.np_spec h3.2)
        rw [List.mapM_cons] at hx
        simp only [Option.bind_eq_bind,Option.bind_eq_some_iff,Option.pure_def,Option.some.injEq] at hx
        obtain ⟨x1,hx1,xs2,hx2,rfl⟩:=hx
        have hcells:P.cellsOf f.type = nc a:=by unfold Program.cellsOf; rw [hi]; exact hsz
        rw [hcells] at hx1
        obtain ⟨y1,g1,g2,b1⟩:=(iha hd.1).1 fuel f.type _ x1 h3.2 h2 hx1
        simp only [nc] at hl
        obtain ⟨y2,g3,g4,b2⟩:=(ihb hd.2).2 fuel fs (f.offset + nc a) cs xs2 h4 hx2 (by omega)
        refine ⟨(y1,y2),⟨_,_,?_,g1,g3⟩,⟨g2,g4⟩,by simp only [bkI,List.map_cons,zgQ]; omega⟩
        rw [← List.drop_drop,List.take_append_drop]
  | st a iha =>
    intro hd
    refine ⟨fun fuel t cs x _ h hx=>?_,fun fuel fs off cs xs h=>(by cases h)⟩
    obtain ⟨fs,hu,hf,_⟩:=z6.st h
    obtain ⟨i,hi,hsz⟩:=z6.size h (by intro a b e; cases e)
    have hcells:P.cellsOf t = nc a:=by unfold Program.cellsOf; rw [hi]; exact hsz
    cases fuel with
    | zero=>simp [DataW.trod] at hx
    | succ fuel =>
      unfold DataW.trod at hx
      rw [hu] at hx
      simp only at hx
      split at hx
      · rename_i hl
        simp only [Option.map_eq_some_iff] at hx
        obtain ⟨xs,hx,rfl⟩:=hx
        obtain ⟨y,g1,g2,b1⟩:=(iha hd).2 fuel fs.toList 0 cs xs hf hx (by omega)
        exact ⟨y,g1,g2,by simp only [bkI,dbk]; omega⟩
      · cases hx
  | arr n a iha =>
    intro hd
    refine ⟨fun fuel t cs x _ h hx=>?_,fun fuel fs off cs xs h=>(by cases h)⟩
    obtain ⟨e,hu,he,hpos,hnp,_⟩:=z6.arr h
    obtain ⟨i,hi,hsz⟩:=z6.size h (by intro a b e; cases e)
    obtain ⟨ie,hie,hsze⟩:=z6.size he (Ty.np_spec hnp)
    have hcells:P.cellsOf t = n * nc a:=by unfold Program.cellsOf; rw [hi]; exact hsz
    have hcellse:P.cellsOf e = nc a:=by unfold Program.cellsOf; rw [hie]; exact hsze
    cases fuel with
    | zero=>simp [DataW.trod] at hx
    | succ fuel =>
      unfold DataW.trod at hx
      rw [hu] at hx
      simp only at hx
      split at hx
      · rename_i hl
        simp only [Option.map_eq_some_iff] at hx
        obtain ⟨xs,hx,rfl⟩:=hx
        rw [hcellse] at hx
        obtain ⟨ys,css,h1,h2,h3,h4,h5⟩:=zvO (bk:=bkI a) (f:=fun i=>some ((cs.drop (i * nc a)).take (nc a))) (g:=DataW.trod enc P w base sp held fuel e) (R:=Rep P (FH.of w) a) (I:=InR a) (fun cs y hy=>(iha hd).1 fuel e cs y hnp he hy) (List.range n) xs hx
        rw [List.range_eq_range'] at h2
        have:=zpl n 0 css (by rw [Nat.zero_add]; omega) h2
        rw [this] at h3
        simp only [Nat.zero_mul,List.drop_zero] at h3
        rw [List.take_of_length_le (by omega)] at h3
        refine ⟨ys,⟨by simpa using h1,h3⟩,⟨by simpa using h1,h4⟩,by simp only [bkI,dbk]; omega⟩
      · cases hx
  | sl a iha =>
    intro hd
    refine ⟨fun fuel t cs x _ h hx=>?_,fun fuel fs off cs xs h=>(by cases h)⟩
    obtain ⟨e,hu,he,hpos,hnp⟩:=z6.sl h
    obtain ⟨ie,hie,hsze⟩:=z6.size he (Ty.np_spec hnp)
    have hcellse:P.cellsOf e = nc a:=by unfold Program.cellsOf; rw [hie]; exact hsze
    cases fuel with
    | zero=>simp [DataW.trod] at hx
    | succ fuel =>
      unfold DataW.trod at hx
      rw [hu] at hx
      split at hx <;> first | (cases hx; done) | skip
      all_goals first
        | (rename_i hh; cases hh; done)
        | exact ⟨[],⟨_,0,rfl,Nat.le_refl _,fun hne=>absurd rfl hne⟩,⟨Nat.zero_le _,fun x hx=>(by cases hx)⟩,zue _⟩
        | skip
      rename_i e' ad len cap heq
      simp only [Option.some.injEq,TypeDesc.slice.injEq] at heq
      subst heq
      simp only at hx
      split at hx
      · rename_i hc
        simp only [Option.bind_eq_some_iff] at hx
        obtain ⟨elems,hx,hx2⟩:=hx
        rw [hcellse] at hx
        obtain ⟨ys,css,h1,h2,h3,h4,h5⟩:=zvO (bk:=bkI a) (f:=fun i=>w.cells? base (ad.add (i * nc a)) (nc a)) (g:=DataW.trod enc P w base sp held fuel e) (R:=Rep P (FH.of w) a) (I:=InR a) (fun cs y hy=>(iha hd).1 fuel e cs y hnp he hy) (List.range len) elems hx
        rw [List.length_range] at h1
        refine ⟨ys,⟨some ad,cap,by rw [h1],by rw [h1]; exact hc.2.1,fun hne=>?_⟩,⟨(show ys.length ≤ maxLen by omega),h4⟩,?_⟩
        rotate_left
        · obtain ⟨rest,-,rfl⟩:=Option.map_eq_some_iff.1 hx2
          simp only [bkI,dbk]; omega
        have hlen:0 < len:=by
          rw [← h1]
          exact List.length_pos_iff.2 hne
        rw [List.range_eq_range'] at h2
        obtain ⟨m,rfl⟩:∃ m,len = m + 1:=⟨len - 1,by omega⟩
        have h2':=h2
        rw [List.range'_succ,List.mapM_cons] at h2'
        simp only [Option.bind_eq_bind,Option.bind_eq_some_iff,Option.pure_def,Option.some.injEq] at h2'
        obtain ⟨cs0,g1,_⟩:=h2'
        rw [Nat.zero_mul,show ad.add 0 = ad from rfl] at g1
        obtain ⟨c,g2,g3,g4⟩:=zDD g1 hpos
        refine ⟨ad,css.flatten,rfl,⟨g3,c,g2,fun j v hv=>?_⟩,h3⟩
        have:=zGO hpos g3 g2 (m + 1) 0 css h2 j v hv
        simpa using this
      · cases hx
  | ptr a=>intro hd; cases hd
  | fn a b=>intro hd; cases hd
def tyL (P:Program):Ty→List TypeId→Bool
  | .unit,[]=>true
  | .pair a b,t :: ts=>(tyB P a).1 t && a.np && a.data && tyL P b ts
  | _,_=>false
theorem zuQ:∀ {τ:Ty} {ts:List TypeId} {vs:List Value} {ds:List (DataW H)} {ps:List MemPlace},tyL P τ ts = true→DataW.TrodAll enc P w base sp held ts vs ds ps→(∀ (j:Nat) (t:TypeId) (v:Value),ts[j]? = some t→vs[j]? = some v→∃ W r b,Value.okWide P W r b t v) →
    ∃ x,RepA P (FH.of w) τ x vs ∧ InR τ x ∧ bkI τ x ≤ zgQ ds
  | .unit,[],[],[],ps,_,_,_=>⟨(),rfl,trivial,Nat.zero_le _⟩
  | .pair a b,t :: ts,v :: vs,d :: ds,ps,h,hr,hf=>by
    simp only [tyL,Bool.and_eq_true] at h
    obtain ⟨⟨⟨h1,h2⟩,h3⟩,h4⟩:=h
    obtain ⟨p,q,⟨fuel,h5⟩,h6,_⟩:=hr
    obtain ⟨y,g1,g2,b1⟩:=(zJS a h3).1 fuel t v.cells.toList (d,p) h2 h1 h5
    obtain ⟨x,g3,g4,b2⟩:=zuQ h4 h6 fun j t v ht hv=>hf (j + 1) t v (by simpa using ht) (by simpa using hv)
    refine ⟨(y,x),⟨v,vs,rfl,g1,?_,g3⟩,⟨g2,g4⟩,by simp only [bkI,zgQ]; exact Nat.add_le_add b1 b2⟩
    obtain ⟨W,r,b0,hform⟩:=hf 0 t v rfl rfl
    obtain ⟨de,hu,hagg⟩:=z6.isAgg h1
    unfold Value.okWide at hform
    rw [hu] at hform
    rw [← hagg]
    have hno:∀ cs,v = .agg cs→Cell.okWide P W r b0 t v→(match de with | .struct _ | .array _ _=>true | _=>false) = false→False:=by
      rintro cs rfl hc hde
      unfold Cell.okWide at hc
      rw [hu] at hc
      cases de <;> simp [Cell.ok,hu] at hc hde
    cases de <;> simp only at hform hno ⊢
    case struct=>obtain ⟨cs,rfl,_⟩:=hform; rfl
    case array=>obtain ⟨cs,rfl,_⟩:=hform; rfl
    all_goals (cases v <;> first | rfl | exact (hno _ rfl hform trivial).elim)
  | .unit,[],[],_ :: _,_,_,h,_=>h.elim
  | .unit,[],_ :: _,_,_,_,h,_=>(by cases h)
  | .unit,_ :: _,_,_,_,h,_,_=>(by cases h)
  | .pair _ _,[],_,_,_,h,_,_=>(by cases h)
  | .pair _ _,_ :: _,[],_,_,_,h,_=>(by cases h)
  | .pair _ _,_ :: _,_ :: _,[],_,_,h,_=>(by cases h)
  | .bool,_,_,_,_,h,_,_=>(by cases h)
  | .int _,_,_,_,_,h,_,_=>(by cases h)
  | .str,_,_,_,_,h,_,_=>(by cases h)
  | .st _,_,_,_,_,h,_,_=>(by cases h)
  | .arr _ _,_,_,_,_,h,_,_=>(by cases h)
  | .sl _,_,_,_,_,h,_,_=>(by cases h)
  | .ptr _,_,_,_,_,h,_,_=>(by cases h)
  | .fn _ _,_,_,_,_,h,_,_=>(by cases h)
theorem zq9 {W W':World} (hl:laidOutB P = true) (hb:Below W.heap.size W W'):∀ {ts:List TypeId} {vs:List Value} {ds:List (DataW H)} {ps:List MemPlace},
    (∀ t ∈ ts,P.readableRec t = true ∧ t < P.types.size)→DataW.TrodAll enc P W 0 (fun _=>true) true ts vs ds ps→(∀ x ∈ ps,x.block < W.heap.size)→∀ s:Nat→Bool,(∀ p ∈ ps,s p.block = true)→DataW.TrodAll enc P W' 0 s true ts vs ds ps
  | [],[],[],ps,_,h,_,s,_=>h
  | t :: ts,v :: vs,d :: ds,ps,ht,⟨p,q,h1,h2,e⟩,hlt,s,hs=>by
    subst e
    have h0:=ht t (by simp)
    refine ⟨p,q,?_,zq9 hl hb (fun t' h'=>ht t' (by simp [h'])) h2 (fun x hx=>hlt x (by simp [hx])) s (fun x hx=>hs x (by simp [hx])),rfl⟩
    exact WideElems.Trod_stays hl h0.1 h0.2 h1 (fun x hx=>hb.same (hlt x (by simp [hx]))) (fun x hx=>hs x (by simp [hx]))
  | [],[],_ :: _,_,_,h,_,_,_=>h.elim
  | [],_ :: _,_,_,_,h,_,_,_=>h.elim
  | _ :: _,[],_,_,_,h,_,_,_=>h.elim
  | _ :: _,_ :: _,[],_,_,h,_,_,_=>h.elim
end
section
variable {P:Program} {H:Type} {enc:TypeId × Value→H}
theorem law_contract {fi:FuncId} {f:Func} {a:Ty} {tb:TypeId} {spec:ChangeSpec} {W:World} {base:Nat} {args:Array Value} {ds gs:List (DataW H)} {before:List MemPlace}
    (hl:laidOutB P = true) (hts:∀ t ∈ f.params.toList,P.readableRec t = true ∧ t < P.types.size) (hty:tyL P a f.params.toList = true) (hres:f.resultTypes = #[tb]) (hbool:P.underlying tb = some .bool) (hvars:spec.vars = [])
    (hfn:∀ ds:List (DataW H),ds.length = f.params.size→spec.fn H ds = { results:=[.lit (.bool true)],args:=ds })
    (hval:∀ (j:Nat) t v,f.params[j]? = some t→args[j]? = some v→Value.okWide P W .any base t v)
    (hW:DataW.Whole enc P f.params.toList spec.vars false W args.toList ds gs before)
    (hcall:∀ x,InR a x→bkI a x ≤ zgQ ds→RepA P (FH.of W) a x args.toList→Calls P fi args W fun e W'=>e = .returned (.bool true) ∧ Below W.heap.size W W') :
    Calls P fi args W fun e W'=>∃ v,e = .returned v ∧ spec.post enc P f false true false false W args v W':=by
  have hW':=hW
  obtain ⟨p,q,hA,hV,rfl,hfz,hnd⟩:=hW
  rw [hvars] at hV
  obtain ⟨rfl,rfl⟩:=trodVars_none hV
  have hlt:∀ x ∈ p,x.block < W.heap.size:=fun x hx=>by simpa using hW'.lt x (by simp [hx])
  obtain ⟨x,hx,hin,hbk⟩:=zuQ (w:=W) hty hA fun j t v ht hv=>⟨W,.any,base,hval j t v (by rw [← Array.getElem?_toList]; exact ht) (by rw [← Array.getElem?_toList]; exact hv)⟩
  have hlen:∀ {ts:List TypeId} {vs:List Value} {ds:List (DataW H)} {ps:List MemPlace},DataW.TrodAll enc P W 0 (fun _=>true) true ts vs ds ps→ds.length = ts.length:=by
    intro ts
    induction ts with
    | nil=>intro vs ds ps h; cases vs <;> cases ds <;> first | rfl | exact h.elim
    | cons t ts ih=>intro vs ds ps h; cases vs <;> cases ds <;> first | exact h.elim | (obtain ⟨_,_,_,h2,_⟩:=h; simp [ih h2])
  have hfn':=hfn ds (by rw [hlen hA]; simp)
  refine (hcall x hin hbk hx).mono fun e W' ⟨he,hb⟩=>?_
  subst he
  simp only [List.append_nil] at *
  refine ⟨_,rfl,ds,[],p,[],p,[],hW',?_,?_,?_,hb.frame _,fun h=>(by cases h)⟩
  · rw [List.append_nil,hfn',hres]
    exact trodAll_cons_mk (shut_bool hbool _) trodAll_mk0
  · rw [List.append_nil,hfn']
    exact zq9 hl hb hts hA hlt _ (fun x hx=>by simpa using hlt x hx)
  · rw [List.append_nil,hfn',hvars]
    rfl
end
end Go.Ev
end
section
namespace Go.Ev
open Go.RowKit
section
variable {P:Program} {G:FH} {E:Env}
theorem zoD.mk (hm:P.follows .mixedOrders = true) (hE:EnvOk P G E) {fi:FuncId} {f:Func} (hf:P.funcs[fi]? = some f) (hn:(f.name == "runtime.NumGoroutine") = false) (hb:f.body.isNone = false)
    {F:Fun} (h:∀ x y,F.spec x = some y→∃ K,evF E K f F.md F.a F.r x = some y):zoD P G fi F:=by
  refine ⟨⟨f,hf,hn,hb⟩,fun x y hy F0 w vs hG hk hr=>?_⟩
  obtain ⟨K,he⟩:=h x y hy
  exact zI2 hm hE hf he hG hk hr
theorem EnvOk.nil {types:TT} {nt:Nat} {dp:Bool} (ht:types.all (fun k τ=>(tyB P τ).1 k) = true) {glob:List (Nat × AV)} (hg:∀ g v,look glob g = some v→∃ τ x cs,v = .dat (.ptr τ) (some x) ∧ At G ⟨g,0,none⟩ cs ∧ Rep P G τ x cs) {ext:List (Nat × Bool)} {jn:List Nat} (hx:∀ f add,look ext f = some add→ExtOk P f add):EnvOk P G ⟨types,[],glob,nt,dp,ext,jn,fun _=>none,false,false⟩ :=
  ⟨fun t τ h=>TT.all_look ht h,fun f F h=>by simp [look] at h,hg,hx,fun f H h=>by cases h⟩
theorem EnvOk.deep (hE:EnvOk P G E) (d:Bool):EnvOk P G { E with deep:=d }:=⟨hE.types,hE.funs,hE.glob,hE.ext,hE.hnd⟩
theorem EnvOk.cons (hE:EnvOk P G E) {fi:FuncId} {F:Fun} (h:zoD P G fi F):EnvOk P G { E with funs:=(fi,F) :: E.funs }:=by
  refine ⟨hE.types,fun f F' h'=>?_,hE.glob,hE.ext,hE.hnd⟩
  simp only [look] at h'
  cases hb:Nat.beq fi f with
  | true =>
    rw [hb] at h'
    simp only [cond_true,Option.some.injEq] at h'
    subst h'
    rw [← Nat.eq_of_beq_eq_true hb]
    exact h
  | false=>rw [hb] at h'; exact hE.funs f F' h'
end
end Go.Ev
end
section
namespace Go.Ev
theorem zDE {n:Nat} (h:n ≤ Go.maxLen):IntKind.wrap .i64 (n:Int) = (n:Int):=by
  unfold Go.maxLen at h
  exact IntWalk.i64_in _ (by omega)
def j8 {α:Type} (p:α→Bool):List α→Int→Int
  | [],_=>-1
  | x :: xs,i=>cond (p x) i (j8 p xs (i + 1))
theorem zvP {α:Type} {p:α→Bool}:∀ (xs:List α) (i:Int),0 ≤ i→decide (j8 p xs i ≥ 0) = xs.any p
  | [],_,_=>rfl
  | x :: xs,i,h=>by
    have ih:=zvP (p:=p) xs (i + 1) (by omega)
    simp only [j8,List.any_cons]
    by_cases hp:p x = true
    · simp [hp,h]
    · simp only [Bool.not_eq_true] at hp
      simp only [hp,cond_false,Bool.false_or]
      exact ih
end Go.Ev
end
section
namespace Go.Ev
theorem zxu {i len:Nat} (h:i < len) (hl:len ≤ Go.maxLen):IntKind.wrap .i64 ((i:Int) + 1) = (i:Int) + 1:=by
  rw [show (i:Int) + 1 = ((i + 1:Nat):Int) by omega]
  exact zDE (by omega)
theorem zbF {α:Type} {l:List α} {i:Nat} (d:α) (h:i < l.length):l.drop i = l.getD i d :: l.drop (i + 1):=by
  rw [List.drop_eq_getElem_cons h]
  simp [List.getD,h]
theorem zJT {σ ρ:Type} {L:Nat→Int→σ→Option ρ} {len:Nat} (hl:len ≤ Go.maxLen) (F:Nat→σ→Option ρ) (I:Nat→σ→Prop)
    (hstep:∀ n i s,i < len→I i s→(∀ s',I (i + 1) s'→L n ((i:Int) + 1) s' = F (i + 1) s')→L (n + 1) (i:Int) s = F i s)
    (hend:∀ n s,I len s→L (n + 1) (len:Int) s = F len s) :
    ∀ (k i n:Nat) (s:σ),i + k = len→k < n→I i s→L n (i:Int) s = F i s:=by
  intro k
  induction k with
  | zero =>
    intro i n s hi hn hI
    obtain ⟨m,rfl⟩:∃ m,n = m + 1:=⟨n - 1,by omega⟩
    obtain rfl:i = len:=by omega
    exact hend m s hI
  | succ k ih =>
    intro i n s hi hn hI
    obtain ⟨m,rfl⟩:∃ m,n = m + 1:=⟨n - 1,by omega⟩
    refine hstep m i s (by omega) hI fun s' hI'=>?_
    have:=ih (i + 1) m s' (by omega) (by omega) hI'
    rw [show (i:Int) + 1 = ((i + 1:Nat):Int) by omega]
    exact this
theorem zI3 {σ ρ:Type} {L:Nat→Int→σ→Option ρ} {len:Nat} (hl:len ≤ Go.maxLen) (F:Nat→σ→Option ρ) (I:Nat→σ→Prop)
    (hstep:∀ n i s,i < len→I i s→(∀ s',I (i + 1) s'→L n ((i:Int) + 1) s' = F (i + 1) s')→L (n + 1) (i:Int) s = F i s)
    (hend:∀ n s,I len s→L (n + 1) (len:Int) s = F len s) (n:Nat) (hn:len < n) (s:σ) (h0:I 0 s):L n 0 s = F 0 s :=
  zJT hl F I hstep hend len 0 n s (by omega) hn h0
end Go.Ev
end
section
namespace Go.Ev
abbrev Fnc (A R:Ty):Type:=A.I→Option R.I
def zg {σ ρ:Type} (B:(σ→Option ρ)→σ→Option ρ):Nat→σ→Option ρ
  | 0,_=>none
  | n + 1,s=>B (zg B n) s
noncomputable def evV {σ:Type} (E:Env) (K:Nat) (f:Func) (md:Nat) (R:Ty) (p ns:List Nat) (S:σ→St) (n:Nat):σ→Option R.I:=fun s=>evL E K f md R p ns n (S s)
theorem zDF {E:Env} {K:Nat} {f:Func} {md:Nat} {R:Ty} {p ns:List Nat} {st:St}:evL E K f md R p ns 0 st = none:=by
  unfold evL
  split
  · split <;> rfl
  · rfl
theorem zo {σ:Type} {E:Env} {K:Nat} {f:Func} {md:Nat} {R:Ty} {p ns:List Nat} {S:σ→St} {B:(σ→Option R.I)→σ→Option R.I}
    (h:∀ n s,evV E K f md R p ns S (n + 1) s = B (evV E K f md R p ns S n) s):∀ n,evV E K f md R p ns S n = zg B n
  | 0=>by funext s; exact zDF
  | n + 1=>by funext s; rw [h,zo h n]; rfl
theorem qJ {σ τ:Type} {E:Env} {K:Nat} {f:Func} {md:Nat} {R:Ty} {p ns:List Nat} {S:σ→St} {B:(τ→Option R.I)→(σ→Option R.I)→σ→Option R.I} {V1:Nat→τ→Option R.I} {W1:(σ→Option R.I)→τ→Option R.I}
    (h1:∀ n,V1 n = W1 (evV E K f md R p ns S n)) (h:∀ n s,evV E K f md R p ns S (n + 1) s = B (V1 n) (evV E K f md R p ns S n) s):∀ n,evV E K f md R p ns S n = zg (fun k=>B (W1 k) k) n :=
  zo fun n s=>by rw [← h1]; exact h n s
theorem zI4 {σ τ υ:Type} {E:Env} {K:Nat} {f:Func} {md:Nat} {R:Ty} {p ns:List Nat} {S:σ→St} {B:(τ→Option R.I)→(υ→Option R.I)→(σ→Option R.I)→σ→Option R.I} {V1:Nat→τ→Option R.I} {W1:(σ→Option R.I)→τ→Option R.I} {V2:Nat→υ→Option R.I} {W2:(σ→Option R.I)→υ→Option R.I}
    (h1:∀ n,V1 n = W1 (evV E K f md R p ns S n)) (h2:∀ n,V2 n = W2 (evV E K f md R p ns S n)) (h:∀ n s,evV E K f md R p ns S (n + 1) s = B (V1 n) (V2 n) (evV E K f md R p ns S n) s):∀ n,evV E K f md R p ns S n = zg (fun k=>B (W1 k) (W2 k) k) n :=
  zo fun n s=>by rw [← h1,← h2]; exact h n s
def zxv {σ τ ρ:Type} (B0:(τ→Option ρ)→σ→Option ρ) (B1:(τ→Option ρ)→τ→Option ρ):Nat→σ→Option ρ
  | 0,_=>none
  | n + 1,s=>B0 (zg B1 n) s
theorem zI5 {σ τ:Type} {E:Env} {K:Nat} {f:Func} {md:Nat} {R:Ty} {p ns:List Nat} {S0:σ→St} {S1:τ→St} {B0:(τ→Option R.I)→σ→Option R.I} {B1:(τ→Option R.I)→τ→Option R.I}
    (h1:∀ n,evV E K f md R p ns S1 n = zg B1 n) (h:∀ n s,evV E K f md R p ns S0 (n + 1) s = B0 (evV E K f md R p ns S1 n) s):∀ n,evV E K f md R p ns S0 n = zxv B0 B1 n
  | 0=>by funext s; exact zDF
  | n + 1=>by funext s; rw [h,h1]; rfl
theorem tr1 {α X Y:Type} {T:α→X→Y} {V W:α} (h:V = W) {F:X→Y} (hx:∀ x,F x = T V x):F = T W:=by subst h; funext x; exact hx x
def En (E:Env) (d:Bool) (l:List Fun):Env:=⟨E.types,l.map fun F=>(F.id,F),E.glob,0,d,E.ext,[],fun _=>none,false,false⟩
def Ej (E:Env) (d:Bool) (js:List Nat) (l:List Fun):Env:=⟨E.types,l.map fun F=>(F.id,F),E.glob,0,d,E.ext,js,fun _=>none,false,js.any (Nat.beq 999999)⟩
def Sd (P:Program) (E:Env) (F:Fun):Prop:=∀ G,EnvOk P G E→zoD P G F.id F
def Sds (P:Program) (E:Env):List Fun→Prop
  | []=>True
  | F :: l=>Sd P E F ∧ Sds P E l
def jY (f:Func):Bool:=!(f.name == "runtime.NumGoroutine") && !f.body.isNone
theorem Sds.env {P:Program} {E:Env} {l:List Fun} {d:Bool} {G:FH} (h:Sds P E l) (hE:EnvOk P G E):EnvOk P G (En E d l):=by
  refine ⟨hE.types,?_,hE.glob,hE.ext,fun f H h=>by cases h⟩
  intro f F hf
  have key:∀ l:List Fun,Sds P E l→look (l.map fun F=>(F.id,F)) f = some F→zoD P G f F:=by
    intro l
    induction l with
    | nil=>intro _ h; cases h
    | cons F' l ih =>
      intro hs hl
      simp only [List.map_cons,look] at hl
      cases hb:Nat.beq F'.id f with
      | true =>
        rw [hb] at hl
        cases hl
        rw [← Nat.eq_of_beq_eq_true hb]
        exact hs.1 G hE
      | false=>rw [hb] at hl; exact ih hs.2 hl
  exact key l h hf
theorem Sds.envJ {P:Program} {E:Env} {l:List Fun} {d:Bool} {js:List Nat} {G:FH} (h:Sds P E l) (hE:EnvOk P G E):EnvOk P G (Ej E d js l) :=
  have h':=h.env (d:=d) hE
  ⟨h'.types,h'.funs,h'.glob,h'.ext,fun f H h=>by cases h⟩
theorem Sd.mk {P:Program} {E:Env} {l:List Fun} {d:Bool} {F:Fun} {f:Func} {K:Nat} (hm:P.follows .mixedOrders = true) (hl:Sds P E l) (hf:P.funcs[F.id]? = some f) (ho:jY f = true)
    (h:evF (En E d l) K f F.md F.a F.r = F.spec):Sd P E F:=by
  intro G hE
  unfold jY at ho
  simp only [Bool.and_eq_true,Bool.not_eq_true'] at ho
  exact zoD.mk hm (hl.env hE) hf ho.1 ho.2 fun x y hy=>⟨K,by rw [h]; exact hy⟩
def FOk (P:Program):List (Nat × Func)→Prop
  | []=>True
  | p :: l=>(P.funcs[p.1]? = some p.2 ∧ jY p.2 = true) ∧ FOk P l
theorem FOk.look {P:Program}:∀ {l:List (Nat × Func)} {i:Nat} {f:Func},FOk P l→look l i = some f→P.funcs[i]? = some f ∧ jY f = true
  | (j,g) :: l,i,f,h,hl=>by
    simp only [Go.Ev.look] at hl
    cases hb:Nat.beq j i with
    | true=>rw [hb] at hl; cases hl; rw [← Nat.eq_of_beq_eq_true hb]; exact h.1
    | false=>rw [hb] at hl; exact FOk.look h.2 hl
theorem EnvOk.inl {P:Program} {G:FH} {E:Env} (hm:P.follows .mixedOrders = true) (hE:EnvOk P G E) {fs:List (Nat × Func)} (hfs:FOk P fs):∀ d,EnvOk P G (E.inl fs d)
  | 0=>hE
  | d + 1=>⟨hE.types,hE.funs,hE.glob,hE.ext,fun i H h=>by
    obtain ⟨fn,h1,rfl⟩:=Option.map_eq_some_iff.1 h
    obtain ⟨h2,h3⟩:=hfs.look h1
    unfold jY at h3
    simp only [Bool.and_eq_true,Bool.not_eq_true'] at h3
    exact zKt hm (EnvOk.inl hm hE hfs d) h2 h3.1 h3.2⟩
theorem Sd.mkI {P:Program} {E:Env} {l:List Fun} {d:Bool} {js:List Nat} {fs:List (Nat × Func)} {n:Nat} {F:Fun} {f:Func} {K:Nat} (hm:P.follows .mixedOrders = true) (hl:Sds P E l) (hfs:FOk P fs) (hf:P.funcs[F.id]? = some f) (ho:jY f = true)
    (h:evF ((Ej E d js l).inl fs n) K f F.md F.a F.r = F.spec):Sd P E F:=by
  intro G hE
  unfold jY at ho
  simp only [Bool.and_eq_true,Bool.not_eq_true'] at ho
  exact zoD.mk hm ((hl.envJ hE).inl hm hfs n) hf ho.1 ho.2 fun x y hy=>⟨K,by rw [h]; exact hy⟩
@[reducible] def ch:List Ty→Ty
  | []=>.unit
  | a :: l=>.pair a (ch l)
abbrev u0 {a0 a1:Type} (x:a0 × a1) (v:a0):a0 × a1:=(v,x.2)
abbrev u1 {a0 a1 a2:Type} (x:a0 × a1 × a2) (v:a1):a0 × a1 × a2:=(x.1,v,x.2.2)
abbrev u2 {a0 a1 a2 a3:Type} (x:a0 × a1 × a2 × a3) (v:a2):a0 × a1 × a2 × a3:=(x.1,x.2.1,v,x.2.2.2)
abbrev u5 {a0 a1 a2 a3 a4 a5 a6:Type} (x:a0 × a1 × a2 × a3 × a4 × a5 × a6) (v:a5):a0 × a1 × a2 × a3 × a4 × a5 × a6:=(x.1,x.2.1,x.2.2.1,x.2.2.2.1,x.2.2.2.2.1,v,x.2.2.2.2.2.2)
abbrev u7 {a0 a1 a2 a3 a4 a5 a6 a7 a8:Type} (x:a0 × a1 × a2 × a3 × a4 × a5 × a6 × a7 × a8) (v:a7):a0 × a1 × a2 × a3 × a4 × a5 × a6 × a7 × a8:=(x.1,x.2.1,x.2.2.1,x.2.2.2.1,x.2.2.2.2.1,x.2.2.2.2.2.1,x.2.2.2.2.2.2.1,v,x.2.2.2.2.2.2.2.2)
abbrev u8 {a0 a1 a2 a3 a4 a5 a6 a7 a8 a9:Type} (x:a0 × a1 × a2 × a3 × a4 × a5 × a6 × a7 × a8 × a9) (v:a8):a0 × a1 × a2 × a3 × a4 × a5 × a6 × a7 × a8 × a9:=(x.1,x.2.1,x.2.2.1,x.2.2.2.1,x.2.2.2.2.1,x.2.2.2.2.2.1,x.2.2.2.2.2.2.1,x.2.2.2.2.2.2.2.1,v,x.2.2.2.2.2.2.2.2.2)
def inR {ρ:Type} (i n:Int) (x:Option ρ):Option ρ:=cond (decide (0 ≤ i)) (cond (decide (i < n)) x none) none
theorem zI6 {ρ:Type} {i n:Int} {x:Option ρ} (h0:0 ≤ i) (h1:i < n):inR i n x = x:=by unfold inR; rw [decide_eq_true h0,decide_eq_true h1]; rfl
abbrev ix {α:Type} (d:α) (l:List α) (i:Int):α:=List.getD l (Int.toNat i) d
def K0:Nat:=Go.maxLen + 2
theorem zCQ {n:Nat} (h:n ≤ Go.maxLen):n < K0:=by unfold K0; omega
abbrev tI:Ty:=.int .i64
abbrev tU:Ty:=.int .u64
abbrev wI (n:Int):Int:=IntKind.wrap .i64 n
abbrev wU (n:Int):Int:=IntKind.wrap .u64 n
end Go.Ev
end
section
namespace Go.Ev
theorem zeZ {σ α ρ:Type} {B:(σ→Option ρ)→σ→Option ρ} {len:Nat} (hl:len ≤ Go.maxLen) (st:Int→α→σ) (F:Nat→α→Option ρ) (I:Nat→α→Prop)
    (hstep:∀ k (i:Nat) s,i < len→I i s→(∀ s',I (i + 1) s'→k (st (wI (i + 1)) s') = F (i + 1) s')→B k (st i s) = F i s)
    (hend:∀ k s,I len s→B k (st len s) = F len s) (s:α) (h0:I 0 s):zg B K0 (st 0 s) = F 0 s:=by
  refine zI3 (L:=fun n i s=>zg B n (st i s)) hl F I (fun n i s hi hI h=>?_) (fun n s hI=>hend _ s hI) K0 (zCQ hl) s h0
  refine hstep _ i s hi hI fun s' hI'=>?_
  rw [wI,zxu hi hl]
  exact h s' hI'
theorem z3 {α:Type} {l:List α} {i:Nat} {d:α} (h:i < l.length):l.getD i d ∈ l:=by
  rw [List.getD_eq_getElem?_getD,List.getElem?_eq_getElem h]
  exact List.getElem_mem h
theorem zC (p:Bool):some (p,()) = bif p then some (true,()) else some (false,()):=by cases p <;> rfl
theorem jZ {σ α ρ:Type} {B:(σ→Option ρ)→σ→Option ρ} {l:List α} (d:α) {p:α→Bool} {fin bad:Option ρ} (st:Int→σ) (hl:l.length ≤ Go.maxLen)
    (hin:∀ k (i:Nat) x,i < l.length→l.getD i d = x→x ∈ l→B k (st i) = bif p x then k (st (wI (i + 1))) else bad) (hout:∀ k,B k (st l.length) = fin):zg B K0 (st 0) = bif l.all p then fin else bad:=by
  have:=zeZ (α:=Unit) (B:=B) hl (fun i _=>st i) (fun i _=>bif (l.drop i).all p then fin else bad) (fun _ _=>True) (fun k i s hi _ h=>?_) (fun k s _=>?_) () trivial
  · simpa using this
  · rw [hin k i _ hi rfl (z3 hi),h () trivial,zbF d hi,List.all_cons]
    cases p (l.getD i d) <;> rfl
  · rw [hout,List.drop_of_length_le (Nat.le_refl _)]; rfl
theorem zAR {σ ρ:Type} {B:(σ→Option ρ)→σ→Option ρ} {n:Nat} (hn:n ≤ Go.maxLen) {p:Nat→Bool} {fin bad:Option ρ} (st:Int→σ)
    (hin:∀ k (i:Nat),i < n→B k (st i) = bif p i then k (st (wI (i + 1))) else bad) (hout:∀ k,B k (st n) = fin):zg B K0 (st 0) = bif (List.range n).all p then fin else bad:=by
  have hx:∀ i,i < n→(List.range n).getD i 0 = i:=fun i hi=>by simp [List.getD,hi]
  refine jZ (l:=List.range n) 0 st (by simpa using hn) (fun k i x hi hx' _=>?_) (by simpa using hout)
  simp only [List.length_range] at hi
  rw [hx i hi] at hx'
  subst hx'
  exact hin k i hi
theorem znE {σ α β ρ:Type} {B:(σ→Option ρ)→σ→Option ρ} {l:List β} (d:β) (st:Int→α→σ) (G:List β→α→Option ρ) (hl:l.length ≤ Go.maxLen)
    (hin:∀ k (i:Nat) x rest s,i < l.length→l.getD i d = x→x ∈ l→l.drop (i + 1) = rest→(∀ s',k (st (wI (i + 1)) s') = G rest s')→B k (st i s) = G (x :: rest) s) (hout:∀ k s,B k (st l.length s) = G [] s) (s:α):zg B K0 (st 0 s) = G l s:=by
  have:=zeZ (B:=B) hl st (fun i s=>G (l.drop i) s) (fun _ _=>True) (fun k i s hi _ h=>?_) (fun k s _=>?_) s trivial
  · simpa using this
  · rw [zbF d hi]
    exact hin k i _ _ s hi rfl (z3 hi) rfl fun s'=>h s' trivial
  · rw [hout,List.drop_of_length_le (Nat.le_refl _)]
def zO (p:Nat→Bool) (i:Nat):Nat→Bool
  | 0=>true
  | n + 1=>p i && zO p (i + 1) n
theorem qr {p:Nat→Bool}:∀ {n i:Nat},zO p i n = true ↔ ∀ j,i ≤ j→j < i + n→p j = true
  | 0,i=>by simp only [zO,true_iff]; intro j h1 h2; omega
  | n + 1,i=>by
    simp only [zO,Bool.and_eq_true,qr (n:=n)]
    constructor
    · rintro ⟨h1,h2⟩ j h3 h4
      by_cases e:j = i
      · subst e; exact h1
      · exact h2 j (by omega) (by omega)
    · intro h
      exact ⟨h i (Nat.le_refl i) (by omega),fun j h1 h2=>h j (by omega) (by omega)⟩
theorem zX {σ ρ:Type} {B:(σ→Option ρ)→σ→Option ρ} {i0 n:Nat} (hn:n ≤ Go.maxLen) (h0:i0 ≤ n) {p:Nat→Bool} {fin bad:Option ρ} (st:Int→σ)
    (hin:∀ k (i:Nat),i0 ≤ i→i < n→B k (st i) = bif p i then k (st (wI (i + 1))) else bad) (hout:∀ k,B k (st n) = fin):zg B K0 (st i0) = bif zO p i0 (n - i0) then fin else bad:=by
  have key:∀ (m i fuel:Nat),i0 ≤ i→i + m = n→m < fuel→zg B fuel (st i) = bif zO p i m then fin else bad:=by
    intro m
    induction m with
    | zero =>
      intro i fuel _ h1 h2
      obtain ⟨f,rfl⟩:∃ f,fuel = f + 1:=⟨fuel - 1,by omega⟩
      obtain rfl:i = n:=by omega
      exact hout _
    | succ m ih =>
      intro i fuel h1 h2 h3
      obtain ⟨f,rfl⟩:∃ f,fuel = f + 1:=⟨fuel - 1,by omega⟩
      show B (zg B f) (st i) = _
      rw [hin _ i h1 (by omega),wI,zxu (len:=n) (by omega) hn,show ((i:Int) + 1) = ((i + 1:Nat):Int) by omega,ih (i + 1) f (by omega) (by omega) (by omega)]
      simp only [zO]
      cases p i <;> rfl
  exact key (n - i0) i0 K0 (Nat.le_refl _) (by omega) (by have:=zCQ hn; omega)
theorem zh6 {i:Nat} (h:1 ≤ i) (hi:i ≤ Go.maxLen):wI ((i:Int) - 1) = ((i - 1:Nat):Int):=by
  rw [show ((i:Int) - 1) = ((i - 1:Nat):Int) by omega]
  exact zDE (by omega)
section
variable {τ:Ty} {l:List τ.I} {g:τ.I × Unit→Option (Bool × Unit)} {p:τ.I→Bool}
theorem zp {ρ:Type} {i n:Nat} {x:Option ρ} (h:i < n):inR (i:Int) (n:Int) x = x:=zI6 (by omega) (by omega)
theorem ltT {i n:Nat} (h:i < n):decide ((i:Int) < (n:Int)) = true:=decide_eq_true (by omega)
theorem ltF (n:Nat):decide ((n:Int) < (n:Int)) = false:=decide_eq_false (by omega)
theorem zS {α:Type} {d:α} {l:List α} {i:Nat}:ix d l (i:Int) = l.getD i d:=by rw [ix,Int.toNat_natCast]
theorem qQ {B:((List τ.I × Option (τ.I × Unit→Option (Bool × Unit)) × Int × Int)→Option (Int × Unit))→(List τ.I × Option (τ.I × Unit→Option (Bool × Unit)) × Int × Int)→Option (Int × Unit)}
    (hB:∀ k l g n i,B k (l,g,n,i) = bif decide (i < n) then inR i (List.length l:Int) (Option.bind g fun q0=>Option.bind (q0 (ix (zb τ) l i,())) fun q1=>bif q1.1 then some (i,()) else k (l,g,n,wI (i + 1))) else some (-1,()))
    (hl:l.length ≤ Go.maxLen) (hp:∀ x ∈ l,g (x,()) = some (p x,())):zg B K0 (l,some g,(l.length:Int),0) = some (j8 p l 0,()):=by
  have:=zeZ (α:=Unit) (B:=B) hl (fun i _=>(l,some g,(l.length:Int),i)) (fun i _=>some (j8 p (l.drop i) i,())) (fun _ _=>True) (fun k i s hi _ h=>?_) (fun k s _=>?_) () trivial
  · simpa using this
  · rw [hB,ltT hi,zp hi,zS,Option.bind_some,hp _ (z3 hi),Option.bind_some,h () trivial,zbF (zb τ) hi]
    simp only [j8,cond_true]
    cases p (l.getD i (zb τ)) <;> rfl
  · rw [hB,ltF,List.drop_of_length_le (Nat.le_refl _)]; rfl
theorem qm {f:Fnc (.pair (.sl τ) (.pair (.fn (.pair τ .unit) (.pair .bool .unit)) .unit)) (.pair (.int .i64) .unit)} (hf:f (l,some g,()) = some (j8 p l 0,())) :
    (Option.bind (f (l,some g,())) fun q0=>bif decide ((q0.1:Int) ≥ 0) then some (true,()) else some (false,())) = some (l.any p,()):=by
  rw [hf,Option.bind_some,zvP (p:=p) l 0 (Int.le_refl 0)]
  cases l.any p <;> rfl
theorem j5 {α:Type} {l:List α} {p:α→Bool}:(!(l.any fun x=>!p x)) = l.all p:=by
  rw [List.not_any_eq_all_not]
  congr 1
  funext x
  simp
theorem zir (a b:Nat):((a:Int) != (b:Int)) = !decide (a = b):=by
  by_cases h:a = b
  · subst h; simp
  · have:(a:Int) ≠ (b:Int):=by omega
    simp [h,this]
theorem yc {x:Option (List τ.I × Unit)} (h:l.length ≤ lim) (hx:x = bif decide (List.length (List.replicate 0 (zb τ)) + List.length l ≤ lim) then some (List.replicate 0 (zb τ) ++ l,()) else none) :
    (bif List.isEmpty l then ze7 (some ([],())) x else x) = some (l,()):=by
  have e:x = some (l,()):=by rw [hx,decide_eq_true (by simpa using h)]; rfl
  rw [e]
  cases l with
  | nil=>exact zIQ _
  | cons y l=>rfl
end
end Go.Ev
end
section
namespace Go.Proofs.YtokcjmkikhgkeaaGreatDoor
open Go.Ev
abbrev tMe:Ty:=.st (.pair (.int .i64) (.pair (.int .i64) (.pair (.int .i64) .unit)))
abbrev pMe:Type:=(Int × (Int × (Int × Unit)))
abbrev qL:Ty:=.st (.pair (.int .i64) (.pair (.int .i64) (.pair (.int .i64) (.pair (.int .i64) (.pair (.int .u64) .unit)))))
abbrev vY:Type:=(Int × (Int × (Int × (Int × (Int × Unit)))))
abbrev zl:Ty:=.st (.pair (.int .i64) (.pair (.int .u64) .unit))
abbrev zw:Type:=(Int × (Int × Unit))
abbrev qN:zw:=zb zl
abbrev zbG:Ty:=.st (.pair (.int .i64) (.pair (.int .i64) (.pair (.int .i64) (.pair (.int .i64) (.pair (.int .i64) (.pair (.int .u64) .unit))))))
abbrev zag:Type:=(Int × (Int × (Int × (Int × (Int × (Int × Unit))))))
abbrev qf:zag:=zb zbG
abbrev qv:Ty:=.st (.pair .str (.pair .str (.pair (.int .i64) (.pair .bool .unit))))
abbrev qs:Type:=(ByteArray × (ByteArray × (Int × (Bool × Unit))))
abbrev qG:qs:=zb qv
abbrev yk:Ty:=.st (.pair (.int .i64) (.pair (.int .i64) .unit))
abbrev z7:Type:=(Int × (Int × Unit))
abbrev qz:z7:=zb yk
abbrev qC:Ty:=.st (.pair .bool (.pair .str .unit))
abbrev jD:Type:=(Bool × (ByteArray × Unit))
abbrev zkm:jD:=zb qC
abbrev zY:Ty:=.st (.pair (.int .i64) (.pair (.int .i64) .unit))
abbrev vA:Type:=(Int × (Int × Unit))
abbrev zKX:vA:=zb zY
abbrev zr:Ty:=.st (.pair .bool (.pair (.int .i64) (.pair (.int .i64) (.pair (.int .i64) (.pair (.int .i64) (.pair (.int .i64) (.pair (.int .u64) (.pair (.int .u64) (.pair (.int .u64) (.pair (.int .i64) .unit))))))))))
abbrev zn:Type:=(Bool × (Int × (Int × (Int × (Int × (Int × (Int × (Int × (Int × (Int × Unit))))))))))
abbrev zH:zn:=zb zr
abbrev zy:Ty:=.st (.pair (.int .u64) (.pair (.int .i64) (.pair (.int .i64) (.pair (.int .i64) (.pair (.int .i64) (.pair (.int .i64) (.pair (.int .i64) (.pair (.int .u64) (.pair (.int .u64) (.pair (.int .i64) .unit))))))))))
abbrev zI:Type:=(Int × (Int × (Int × (Int × (Int × (Int × (Int × (Int × (Int × (Int × Unit))))))))))
abbrev zah:zI:=zb zy
abbrev qb:Ty:=.st (.pair .bool (.pair zY (.pair zY (.pair (.int .i64) .unit))))
abbrev qi:Type:=(Bool × (vA × (vA × (Int × Unit))))
abbrev qg:qi:=zb qb
abbrev qh:Ty:=.st (.pair .bool (.pair (.int .i64) (.pair (.int .i64) (.pair (.int .i64) (.pair .str .unit)))))
abbrev qw:Type:=(Bool × (Int × (Int × (Int × (ByteArray × Unit)))))
abbrev zdk:qw:=zb qh
abbrev zL:Ty:=.st (.pair .bool (.pair .str (.pair (.int .i64) (.pair (.int .i64) (.pair zY .unit)))))
abbrev qj:Type:=(Bool × (ByteArray × (Int × (Int × (vA × Unit)))))
abbrev zB:qj:=zb zL
abbrev zdl:Ty:=.st (.pair (.int .i64) (.pair (.int .u64) (.pair (.int .i64) .unit)))
abbrev zis:Type:=(Int × (Int × (Int × Unit)))
abbrev zz:Ty:=.st (.pair .bool (.pair (.int .i64) (.pair (.int .i64) (.pair zdl (.pair zdl .unit)))))
abbrev zt:Type:=(Bool × (Int × (Int × (zis × (zis × Unit)))))
abbrev zV:zt:=zb zz
abbrev vF:Ty:=.st (.pair (.sl zz) (.pair (.fn (.pair zz .unit) (.pair .bool .unit)) .unit))
abbrev zbH:Type:=((List zt) × ((Option ((zt × Unit)→Option (Bool × Unit))) × Unit))
abbrev zuf:Ty:=.st (.pair (.int .i64) (.pair (.int .i64) (.pair zY .unit)))
abbrev zzs:Type:=(Int × (Int × (vA × Unit)))
abbrev yH:Ty:=.st (.pair (.sl zr) (.pair (.fn (.pair zr .unit) (.pair .bool .unit)) .unit))
abbrev zed:Type:=((List zn) × ((Option ((zn × Unit)→Option (Bool × Unit))) × Unit))
abbrev zlD:Ty:=.st (.pair (.int .u8) (.pair (.int .u8) .unit))
abbrev zu:Ty:=.st (.pair (.sl zl) (.pair (.sl (.int .i64)) (.pair (.sl qv) (.pair (.sl yk) (.pair (.sl zbG) (.pair (.int .i64) (.pair (.int .i64) (.pair (.int .i64) (.pair (.int .i64) .unit)))))))))
abbrev zf:Type:=((List zw) × ((List Int) × ((List qs) × ((List z7) × ((List zag) × (Int × (Int × (Int × (Int × Unit)))))))))
abbrev zm:Ty:=.st (.pair (.sl qC) (.pair (.sl qb) (.pair (.sl zL) (.pair (.sl qh) (.pair (.sl zz) (.pair (.sl (.arr 4 (.int .u64))) (.pair (.sl zY) (.pair (.arr 4 (.int .u64)) (.pair (.arr 4 (.int .u64)) .unit)))))))))
abbrev zk:Type:=((List jD) × ((List qi) × ((List qj) × ((List qw) × ((List zt) × ((List (List Int)) × ((List vA) × ((List Int) × ((List Int) × Unit)))))))))
abbrev za:zk:=zb zm
abbrev zq:Ty:=.st (.pair (.int .u64) (.pair (.sl zm) (.pair (.sl (.sl (.int .i64))) (.pair (.sl zr) (.pair (.sl zy) (.pair (.sl (.int .i64)) .unit))))))
abbrev ze:Type:=(Int × ((List zk) × ((List (List Int)) × ((List zn) × ((List zI) × ((List Int) × Unit))))))
abbrev zgR:Ty:=.st (.pair (.fn (.pair (.ptr zq) .unit) (.pair (.int .i64) .unit)) .unit)
abbrev qk:Ty:=.st (.pair zu (.pair zq .unit))
abbrev qT:Type:=(zf × (ze × Unit))
def types:TT:=(.node (.node (.node (.node (.node (.node (.node (.node (.node .nil 1 (.fn .unit .unit) .nil) 2 (.int .i64) .nil) 3 (.int .i64) (.node .nil 4 .bool .nil)) 5 (.int .u8) (.node (.node .nil 6 (.int .u8) .nil) 7 (.st (.pair (.int .i64) (.pair (.int .i64) (.pair .bool (.pair (.int .u8) .unit))))) (.node .nil 8 (.st (.pair (.int .i64) (.pair (.int .i64) (.pair .bool (.pair (.int .u8) .unit))))) .nil))) 9 .str (.node (.node (.node (.node .nil 10 .str .nil) 11 .str .nil) 12 (.int .u64) (.node .nil 21 (.int .i32) .nil)) 22 (.sl zl) (.node (.node .nil 23 (.sl (.int .i64)) .nil) 24 (.sl qv) (.node .nil 25 (.sl yk) .nil)))) 26 (.sl zbG) (.node (.node (.node (.node (.node .nil 27 (.st (.pair (.sl zl) (.pair (.sl (.int .i64)) (.pair (.sl qv) (.pair (.sl yk) (.pair (.sl zbG) (.pair (.int .i64) (.pair (.int .i64) (.pair (.int .i64) (.pair (.int .i64) .unit)))))))))) .nil) 28 zu .nil) 29 (.int .u64) (.node .nil 30 (.sl zm) .nil)) 31 (.sl (.sl (.int .i64))) (.node (.node .nil 32 (.sl zr) .nil) 33 (.sl zy) (.node .nil 34 (.st (.pair (.int .u64) (.pair (.sl zm) (.pair (.sl (.sl (.int .i64))) (.pair (.sl zr) (.pair (.sl zy) (.pair (.sl (.int .i64)) .unit))))))) .nil))) 35 zq (.node (.node (.node .nil 36 (.st (.pair (.int .i64) (.pair (.int .i64) (.pair (.int .i64) .unit)))) .nil) 37 tMe (.node .nil 38 (.st (.pair (.int .i64) (.pair (.int .i64) (.pair (.int .i64) (.pair (.int .i64) (.pair (.int .u64) .unit)))))) .nil)) 39 qL (.node (.node .nil 40 (.int .i64) .nil) 42 (.fn (.pair zu (.pair zq (.pair tMe (.pair (.int .i64) (.pair (.int .i64) (.pair (.int .i64) (.pair (.int .u64) .unit))))))) (.pair zq (.pair (.int .i64) .unit))) (.node .nil 43 (.fn .unit (.pair .bool .unit)) .nil))))) 44 (.fn (.pair zu (.pair zq .unit)) (.pair .bool .unit)) (.node (.node (.node (.node (.node (.node .nil 45 (.fn (.pair zl (.pair zl .unit)) (.pair .bool .unit)) .nil) 46 (.st (.pair (.int .i64) (.pair (.int .u64) .unit))) .nil) 47 zl (.node .nil 48 (.arr 4 (.int .u64)) .nil)) 49 (.sl qC) (.node (.node .nil 50 (.sl qb) .nil) 51 (.sl zL) (.node .nil 52 (.sl qh) .nil))) 53 (.sl zz) (.node (.node (.node .nil 54 (.sl (.arr 4 (.int .u64))) .nil) 55 (.sl zY) (.node .nil 56 (.st (.pair (.sl qC) (.pair (.sl qb) (.pair (.sl zL) (.pair (.sl qh) (.pair (.sl zz) (.pair (.sl (.arr 4 (.int .u64))) (.pair (.sl zY) (.pair (.arr 4 (.int .u64)) (.pair (.arr 4 (.int .u64)) .unit)))))))))) .nil)) 57 zm (.node (.node .nil 58 (.fn (.pair zu (.pair zq (.pair tMe (.pair qL .unit)))) (.pair .bool .unit)) .nil) 59 (.fn (.pair zu (.pair zq (.pair tMe (.pair qL .unit)))) (.pair zq (.pair (.int .i64) .unit))) (.node .nil 60 (.fn (.pair zu (.pair zq (.pair tMe .unit))) (.pair .bool .unit)) .nil)))) 62 (.fn (.pair zq (.pair (.int .i64) .unit)) (.pair (.int .u64) (.pair (.int .i64) .unit))) (.node (.node (.node (.node (.node .nil 63 (.fn (.pair zl .unit) (.pair .bool .unit)) .nil) 64 (.fn (.pair zu (.pair zq (.pair zq (.pair zl .unit)))) (.pair .bool .unit)) .nil) 65 (.fn (.pair zu (.pair zq (.pair tMe (.pair qL (.pair zl .unit))))) (.pair .bool .unit)) (.node .nil 67 (.fn (.pair zu (.pair zq (.pair tMe .unit))) (.pair (.arr 4 (.int .u64)) (.pair (.int .i64) .unit))) .nil)) 68 (.fn (.pair zu (.pair zq (.pair zq (.pair tMe (.pair qL (.pair zl .unit)))))) (.pair .bool .unit)) (.node (.node .nil 69 (.fn (.pair zu (.pair zq (.pair tMe (.pair (.int .i64) (.pair (.int .u64) .unit))))) (.pair .bool .unit)) .nil) 70 (.fn (.pair zu (.pair (.int .i64) (.pair (.int .i64) .unit))) (.pair .bool .unit)) (.node .nil 71 (.fn (.pair zq (.pair (.sl zgR) .unit)) (.pair zq (.pair (.int .i64) .unit))) .nil))) 72 (.fn (.pair (.ptr zq) .unit) (.pair (.int .i64) .unit)) (.node (.node (.node .nil 73 (.st (.pair (.fn (.pair (.ptr zq) .unit) (.pair (.int .i64) .unit)) .unit)) .nil) 74 zgR (.node .nil 75 (.fn (.pair .bool (.pair (.int .i64) .unit)) (.pair zgR .unit)) .nil)) 76 (.fn (.pair (.int .i64) (.pair (.int .i64) (.pair (.int .i64) (.pair (.int .u64) .unit)))) (.pair zgR .unit)) (.node (.node .nil 77 (.fn .unit (.pair zu .unit)) .nil) 78 (.fn (.pair zu .unit) (.pair zq (.pair (.int .i64) .unit))) (.node .nil 79 (.fn (.pair zu (.pair zq (.pair tMe (.pair (.int .i64) (.pair (.int .u64) .unit))))) (.pair zq (.pair (.int .i64) .unit))) .nil)))))) 80 (.fn (.pair zu (.pair zq (.pair tMe (.pair (.int .i64) (.pair (.int .i64) (.pair (.int .u64) .unit)))))) (.pair zq (.pair (.int .i64) .unit))) (.node (.node (.node (.node (.node (.node (.node .nil 81 (.fn (.pair zu .unit) (.pair .bool .unit)) .nil) 82 (.fn (.pair zu (.pair zq (.pair (.int .i64) .unit))) (.pair .bool .unit)) .nil) 83 (.st (.pair (.int .i64) (.pair (.int .i64) (.pair (.int .i64) (.pair (.int .i64) (.pair (.int .i64) (.pair (.int .u64) .unit))))))) (.node .nil 84 zbG .nil)) 85 (.st (.pair zu (.pair zq .unit))) (.node (.node .nil 86 qk .nil) 87 (.sl (.fn .unit (.pair .bool .unit))) (.node .nil 88 (.fn (.pair (.int .i64) .unit) (.pair .bool .unit)) .nil))) 89 (.fn (.pair (.sl zr) (.pair (.int .i64) .unit)) (.pair (.int .u64) (.pair (.int .i64) .unit))) (.node (.node (.node (.node .nil 90 (.sl (.int .u64)) .nil) 91 (.fn (.pair (.sl zz) (.pair (.int .i64) .unit)) (.pair (.int .u64) (.pair (.int .i64) .unit))) .nil) 92 (.fn (.pair (.sl (.int .u64)) .unit) (.pair (.int .u64) (.pair (.int .i64) .unit))) (.node .nil 93 (.fn (.pair zu (.pair zq (.pair zl .unit))) (.pair zq (.pair (.int .i64) .unit))) .nil)) 94 (.fn (.pair zq (.pair zq .unit)) (.pair .bool .unit)) (.node (.node .nil 95 (.ptr (.arr 4 (.int .u64))) .nil) 96 (.fn (.pair (.ptr zq) (.pair (.int .i64) (.pair (.int .i64) .unit))) (.pair (.ptr (.arr 4 (.int .u64))) .unit)) (.node .nil 97 (.ptr zq) .nil)))) 98 (.fn (.pair zu (.pair (.int .i64) .unit)) (.pair .bool .unit)) (.node (.node (.node (.node (.node .nil 99 (.sl zgR) .nil) 100 (.fn (.pair zq .unit) (.pair zq .unit)) .nil) 101 (.fn (.pair (.arr 4 (.int .u64)) (.pair (.int .i64) (.pair (.int .u64) .unit))) (.pair (.arr 4 (.int .u64)) (.pair (.int .i64) .unit))) (.node .nil 102 (.st (.pair .str (.pair .str (.pair (.int .i64) (.pair .bool .unit))))) .nil)) 103 qv (.node (.node .nil 104 (.st (.pair (.int .i64) (.pair (.int .i64) .unit))) .nil) 105 yk (.node .nil 106 (.fn (.pair zu .unit) (.pair (.sl (.sl (.int .i64))) .unit)) .nil))) 107 (.fn (.pair zu (.pair zbG .unit)) (.pair zm .unit)) (.node (.node (.node .nil 108 (.st (.pair .bool (.pair .str .unit))) .nil) 109 qC (.node .nil 110 (.fn (.pair (.sl zl) .unit) (.pair .bool .unit)) .nil)) 111 (.fn (.pair (.sl qv) .unit) (.pair .bool .unit)) (.node (.node .nil 112 (.fn (.pair (.sl yk) (.pair (.sl zl) (.pair (.int .i64) .unit))) (.pair .bool .unit)) .nil) 113 (.fn (.pair (.sl zbG) .unit) (.pair .bool .unit)) (.node .nil 114 (.fn (.pair zu (.pair (.sl (.sl (.int .i64))) .unit)) (.pair .bool .unit)) .nil))))) 115 (.fn (.pair (.sl zr) .unit) (.pair .bool .unit)) (.node (.node (.node (.node (.node (.node .nil 116 (.fn (.pair (.sl zy) .unit) (.pair .bool .unit)) .nil) 117 (.fn (.pair zq (.pair zY .unit)) (.pair .bool .unit)) .nil) 118 (.st (.pair (.int .i64) (.pair (.int .i64) .unit))) (.node .nil 119 zY .nil)) 120 (.st (.pair .bool (.pair (.int .i64) (.pair (.int .i64) (.pair (.int .i64) (.pair (.int .i64) (.pair (.int .i64) (.pair (.int .u64) (.pair (.int .u64) (.pair (.int .u64) (.pair (.int .i64) .unit))))))))))) (.node (.node .nil 121 zr .nil) 122 (.st (.pair (.int .u64) (.pair (.int .i64) (.pair (.int .i64) (.pair (.int .i64) (.pair (.int .i64) (.pair (.int .i64) (.pair (.int .i64) (.pair (.int .u64) (.pair (.int .u64) (.pair (.int .i64) .unit))))))))))) (.node .nil 123 zy .nil))) 124 (.fn (.pair (.sl qC) .unit) (.pair .bool .unit)) (.node (.node (.node .nil 125 (.fn (.pair (.sl qb) .unit) (.pair .bool .unit)) .nil) 126 (.fn (.pair (.sl zL) .unit) (.pair .bool .unit)) (.node .nil 127 (.fn (.pair (.sl qh) .unit) (.pair .bool .unit)) .nil)) 128 (.fn (.pair (.sl zz) .unit) (.pair .bool .unit)) (.node (.node .nil 129 (.st (.pair .bool (.pair zY (.pair zY (.pair (.int .i64) .unit))))) .nil) 130 qb (.node .nil 131 (.fn (.pair zu (.pair zq (.pair zY (.pair (.int .i64) .unit)))) (.pair .bool .unit)) .nil)))) 132 (.fn (.pair zu (.pair zq (.pair (.int .i64) (.pair (.int .i64) .unit)))) (.pair .bool .unit)) (.node (.node (.node (.node (.node .nil 133 (.fn (.pair zu (.pair zm (.pair (.int .i64) .unit))) (.pair .bool .unit)) .nil) 134 (.st (.pair .bool (.pair (.int .i64) (.pair (.int .i64) (.pair (.int .i64) (.pair .str .unit)))))) .nil) 135 qh (.node .nil 136 (.fn (.pair (.int .u64) (.pair (.int .u64) .unit)) (.pair (.int .u64) (.pair (.int .i64) .unit))) .nil)) 137 (.fn (.pair (.sl zm) (.pair (.fn (.pair zm .unit) (.pair .bool .unit)) .unit)) (.pair .bool .unit)) (.node (.node .nil 138 (.fn (.pair zm .unit) (.pair .bool .unit)) .nil) 139 (.fn (.pair (.sl zr) (.pair (.fn (.pair zr .unit) (.pair .bool .unit)) .unit)) (.pair .bool .unit)) (.node .nil 140 (.fn (.pair zr .unit) (.pair .bool .unit)) .nil))) 141 (.fn (.pair (.sl zy) (.pair (.fn (.pair zy .unit) (.pair .bool .unit)) .unit)) (.pair .bool .unit)) (.node (.node (.node .nil 142 (.fn (.pair zy .unit) (.pair .bool .unit)) .nil) 143 (.fn (.pair (.sl (.int .i64)) (.pair (.fn (.pair (.int .i64) .unit) (.pair .bool .unit)) .unit)) (.pair .bool .unit)) (.node .nil 144 (.fn (.pair zY .unit) (.pair .bool .unit)) .nil)) 145 (.fn (.pair (.int .i64) .unit) (.pair (.fn (.pair zY .unit) (.pair .bool .unit)) .unit)) (.node (.node .nil 146 (.fn (.pair (.sl qb) (.pair (.fn (.pair qb .unit) (.pair .bool .unit)) .unit)) (.pair .bool .unit)) .nil) 147 (.fn (.pair qb .unit) (.pair .bool .unit)) (.node .nil 148 (.fn (.pair (.sl zL) (.pair (.fn (.pair zL .unit) (.pair .bool .unit)) .unit)) (.pair .bool .unit)) .nil))))))) 149 (.st (.pair .bool (.pair .str (.pair (.int .i64) (.pair (.int .i64) (.pair zY .unit)))))) (.node (.node (.node (.node (.node (.node (.node (.node .nil 150 zL .nil) 151 (.fn (.pair zL .unit) (.pair .bool .unit)) .nil) 152 (.fn (.pair (.sl zY) (.pair (.fn (.pair zY .unit) (.pair .bool .unit)) .unit)) (.pair .bool .unit)) (.node .nil 153 (.fn (.pair (.sl qh) (.pair (.fn (.pair qh .unit) (.pair .bool .unit)) .unit)) (.pair .bool .unit)) .nil)) 154 (.fn (.pair (.int .i64) (.pair (.int .i64) .unit)) (.pair .bool .unit)) (.node (.node .nil 155 (.fn (.pair qh .unit) (.pair .bool .unit)) .nil) 156 (.fn (.pair (.sl zz) (.pair (.fn (.pair zz .unit) (.pair .bool .unit)) .unit)) (.pair .bool .unit)) (.node .nil 157 (.st (.pair (.int .i64) (.pair (.int .u64) (.pair (.int .i64) .unit)))) .nil))) 158 zdl (.node (.node (.node (.node .nil 159 (.st (.pair .bool (.pair (.int .i64) (.pair (.int .i64) (.pair zdl (.pair zdl .unit)))))) .nil) 160 zz .nil) 161 (.fn (.pair zz .unit) (.pair .bool .unit)) (.node .nil 162 (.ptr vF) .nil)) 163 (.fn (.pair (.sl zz) (.pair (.fn (.pair zz .unit) (.pair .bool .unit)) .unit)) (.pair (.ptr vF) .unit)) (.node (.node .nil 164 (.fn .unit (.pair (.sl (.int .i64)) .unit)) .nil) 165 (.fn (.pair (.sl zr) .unit) (.pair (.sl (.int .i64)) .unit)) (.node .nil 166 (.fn (.pair zr .unit) (.pair (.int .i64) .unit)) .nil)))) 167 (.fn (.pair (.sl zz) .unit) (.pair (.ptr vF) .unit)) (.node (.node (.node (.node (.node .nil 169 (.fn (.pair (.int .i64) .unit) (.pair zl (.pair (.int .i64) .unit))) .nil) 170 (.fn (.pair (.sl zm) (.pair (.sl zm) (.pair (.fn (.pair (.int .i64) .unit) (.pair .bool .unit)) .unit))) (.pair (.sl zm) .unit)) .nil) 171 (.fn (.pair (.sl (.sl (.int .i64))) (.pair (.sl (.sl (.int .i64))) (.pair (.fn (.pair (.int .i64) .unit) (.pair .bool .unit)) .unit))) (.pair (.sl (.sl (.int .i64))) .unit)) (.node .nil 172 (.fn (.pair (.sl (.int .i64)) (.pair (.sl (.int .i64)) (.pair (.fn (.pair (.int .i64) .unit) (.pair .bool .unit)) .unit))) (.pair (.sl (.int .i64)) .unit)) .nil)) 173 (.fn (.pair (.sl zm) (.pair (.sl zm) (.pair (.fn (.pair zm (.pair zm .unit)) (.pair .bool .unit)) .unit))) (.pair .bool .unit)) (.node (.node .nil 174 (.fn (.pair zm (.pair zm .unit)) (.pair .bool .unit)) .nil) 175 (.fn (.pair (.sl (.sl (.int .i64))) (.pair (.sl (.sl (.int .i64))) (.pair (.fn (.pair (.sl (.int .i64)) (.pair (.sl (.int .i64)) .unit)) (.pair .bool .unit)) .unit))) (.pair .bool .unit)) (.node .nil 176 (.fn (.pair (.sl (.int .i64)) (.pair (.sl (.int .i64)) .unit)) (.pair .bool .unit)) .nil))) 177 (.fn (.pair (.sl zr) (.pair (.sl zr) .unit)) (.pair .bool .unit)) (.node (.node (.node .nil 178 (.fn (.pair (.sl zy) (.pair (.sl zy) .unit)) (.pair .bool .unit)) .nil) 179 (.fn (.pair (.int .i64) (.pair (.int .i64) (.pair (.int .i64) .unit))) (.pair .bool .unit)) (.node .nil 180 (.fn (.pair (.sl zr) .unit) (.pair (.sl zr) .unit)) .nil)) 181 (.fn (.pair (.sl zy) .unit) (.pair (.sl zy) .unit)) (.node (.node .nil 182 (.fn (.pair (.sl (.int .i64)) .unit) (.pair (.sl (.int .i64)) .unit)) .nil) 183 (.fn (.pair (.sl (.sl (.int .i64))) .unit) (.pair (.sl (.sl (.int .i64))) .unit)) (.node .nil 184 (.fn (.pair (.sl zm) .unit) (.pair (.sl zm) .unit)) .nil))))) 185 (.fn (.pair (.sl qC) .unit) (.pair (.sl qC) .unit)) (.node (.node (.node (.node (.node (.node .nil 186 (.fn (.pair (.sl qb) .unit) (.pair (.sl qb) .unit)) .nil) 187 (.fn (.pair (.sl zL) .unit) (.pair (.sl zL) .unit)) .nil) 188 (.fn (.pair (.sl qh) .unit) (.pair (.sl qh) .unit)) (.node .nil 189 (.fn (.pair (.sl zz) .unit) (.pair (.sl zz) .unit)) .nil)) 190 (.fn (.pair (.sl (.arr 4 (.int .u64))) .unit) (.pair (.sl (.arr 4 (.int .u64))) .unit)) (.node (.node .nil 191 (.fn (.pair (.sl zY) .unit) (.pair (.sl zY) .unit)) .nil) 192 (.fn (.pair (.arr 4 (.int .u64)) (.pair (.int .i64) (.pair (.int .u64) (.pair (.fn (.pair (.int .u64) (.pair (.int .u64) .unit)) (.pair (.int .u64) (.pair (.int .i64) .unit))) .unit)))) (.pair (.arr 4 (.int .u64)) (.pair (.int .i64) .unit))) (.node .nil 193 (.sl (.fn (.pair zu .unit) (.pair .bool .unit))) .nil))) 194 (.fn (.pair zl (.pair zl .unit)) (.pair (.int .i64) .unit)) (.node (.node (.node .nil 195 (.fn (.pair .str .unit) (.pair .bool .unit)) .nil) 196 (.fn (.pair (.sl zl) (.pair zl .unit)) (.pair (.int .i64) .unit)) (.node .nil 197 (.fn (.pair (.int .i64) .unit) (.pair zl .unit)) .nil)) 198 (.fn (.pair zl (.pair (.int .i64) .unit)) (.pair .bool .unit)) (.node (.node .nil 199 (.fn (.pair (.sl yk) (.pair (.int .i64) .unit)) (.pair .bool .unit)) .nil) 200 (.fn (.pair (.sl zr) (.pair (.int .i64) (.pair (.int .i64) .unit))) (.pair .bool .unit)) (.node .nil 201 (.fn (.pair zy (.pair zy .unit)) (.pair .bool .unit)) .nil)))) 202 (.fn (.pair zr (.pair (.int .i64) .unit)) (.pair (.int .u64) .unit)) (.node (.node (.node (.node (.node .nil 203 (.fn (.pair (.sl qC) (.pair (.fn (.pair qC .unit) (.pair .bool .unit)) .unit)) (.pair .bool .unit)) .nil) 204 (.fn (.pair qC .unit) (.pair .bool .unit)) .nil) 205 (.fn (.pair (.sl qb) (.pair zY (.pair (.int .i64) .unit))) (.pair (.int .i64) .unit)) (.node .nil 206 (.pair (.int .i64) (.int .i64)) .nil)) 207 (.fn (.pair zy (.pair zy .unit)) (.pair (.int .i64) .unit)) (.node (.node .nil 208 (.st (.pair (.sl zz) (.pair (.fn (.pair zz .unit) (.pair .bool .unit)) .unit))) .nil) 209 vF (.node .nil 210 (.fn (.pair zq (.pair (.int .i64) (.pair (.fn (.pair zm .unit) (.pair (.arr 4 (.int .u64)) .unit)) .unit))) (.pair (.int .u64) (.pair (.int .i64) .unit))) .nil))) 211 (.fn (.pair zm .unit) (.pair (.arr 4 (.int .u64)) .unit)) (.node (.node (.node .nil 212 (.ptr yH) .nil) 213 (.fn (.pair (.sl zr) .unit) (.pair (.ptr yH) .unit)) (.node .nil 215 (.fn (.pair (.int .u64) (.pair (.int .u64) (.pair (.int .u64) .unit))) (.pair (.int .u64) (.pair (.int .u64) .unit))) .nil)) 216 (.fn (.pair (.sl qC) (.pair (.sl qC) .unit)) (.pair .bool .unit)) (.node (.node .nil 217 (.fn (.pair (.sl qb) (.pair (.sl qb) .unit)) (.pair .bool .unit)) .nil) 218 (.fn (.pair (.sl zL) (.pair (.sl zL) .unit)) (.pair .bool .unit)) (.node .nil 219 (.fn (.pair (.sl qh) (.pair (.sl qh) .unit)) (.pair .bool .unit)) .nil)))))) 220 (.fn (.pair (.sl zz) (.pair (.sl zz) .unit)) (.pair .bool .unit)) (.node (.node (.node (.node (.node (.node (.node .nil 221 (.fn (.pair (.sl (.arr 4 (.int .u64))) (.pair (.sl (.arr 4 (.int .u64))) .unit)) (.pair .bool .unit)) .nil) 222 (.fn (.pair (.sl zY) (.pair (.sl zY) .unit)) (.pair .bool .unit)) .nil) 223 (.fn (.pair (.sl zl) (.pair (.fn (.pair zl .unit) (.pair .bool .unit)) .unit)) (.pair .bool .unit)) (.node .nil 224 (.fn (.pair qv .unit) (.pair .bool .unit)) .nil)) 225 (.fn (.pair (.sl qv) (.pair (.fn (.pair qv .unit) (.pair .bool .unit)) .unit)) (.pair .bool .unit)) (.node (.node .nil 226 (.fn (.pair (.sl .str) .unit) (.pair .bool .unit)) .nil) 227 (.sl .str) (.node .nil 228 (.fn (.pair zu .unit) (.pair (.sl .str) .unit)) .nil))) 229 (.fn (.pair (.sl zl) (.pair zl .unit)) (.pair .bool .unit)) (.node (.node (.node (.node .nil 230 (.fn (.pair zbG .unit) (.pair (.sl (.int .i64)) .unit)) .nil) 231 (.int .u64) .nil) 232 (.fn (.pair (.int .i64) (.pair (.int .u64) (.pair (.int .u64) .unit))) (.pair (.int .u64) (.pair (.int .i64) .unit))) (.node .nil 233 (.fn (.pair (.int .u8) .unit) (.pair .bool .unit)) .nil)) 234 (.fn (.pair zdl .unit) (.pair .bool .unit)) (.node (.node .nil 235 (.fn (.pair (.sl zm) (.pair (.fn (.pair zm .unit) (.pair .bool .unit)) .unit)) (.pair (.int .i64) .unit)) .nil) 236 (.fn (.pair (.sl qC) (.pair (.fn (.pair qC .unit) (.pair .bool .unit)) .unit)) (.pair (.int .i64) .unit)) (.node .nil 237 (.fn (.pair .str (.pair (.fn (.pair (.int .u8) .unit) (.pair .bool .unit)) .unit)) (.pair .bool .unit)) .nil)))) 238 (.fn (.pair (.sl qb) (.pair (.fn (.pair qb .unit) (.pair .bool .unit)) .unit)) (.pair (.int .i64) .unit)) (.node (.node (.node (.node (.node .nil 239 (.fn (.pair (.sl zL) (.pair (.fn (.pair zL .unit) (.pair .bool .unit)) .unit)) (.pair (.int .i64) .unit)) .nil) 240 (.st (.pair (.int .i64) (.pair (.int .i64) (.pair zY .unit)))) .nil) 241 zuf (.node .nil 242 (.fn (.pair zL .unit) (.pair zuf .unit)) .nil)) 243 (.fn (.pair (.sl qh) (.pair (.fn (.pair qh .unit) (.pair .bool .unit)) .unit)) (.pair (.int .i64) .unit)) (.node (.node .nil 244 (.fn (.pair (.sl zz) (.pair (.fn (.pair zz .unit) (.pair .bool .unit)) .unit)) (.pair (.int .i64) .unit)) .nil) 245 (.fn (.pair (.sl (.int .i64)) (.pair (.fn (.pair (.int .i64) .unit) (.pair .bool .unit)) .unit)) (.pair (.int .i64) .unit)) (.node .nil 246 (.fn (.pair (.sl (.int .i64)) .unit) (.pair (.int .i64) .unit)) .nil))) 247 (.fn (.pair (.int .u64) (.pair (.int .u64) .unit)) (.pair (.int .i64) .unit)) (.node (.node (.node .nil 248 (.fn (.pair (.int .i64) (.pair (.int .i64) .unit)) (.pair (.int .i64) .unit)) .nil) 249 (.fn (.pair (.sl zr) (.pair (.fn (.pair zr .unit) (.pair .bool .unit)) .unit)) (.pair (.int .i64) .unit)) (.node .nil 250 (.fn (.pair (.sl zy) (.pair (.fn (.pair zy .unit) (.pair .bool .unit)) .unit)) (.pair (.int .i64) .unit)) .nil)) 251 (.fn (.pair (.sl zY) (.pair (.fn (.pair zY .unit) (.pair .bool .unit)) .unit)) (.pair (.int .i64) .unit)) (.node (.node .nil 252 (.fn (.pair (.sl zr) (.pair (.fn (.pair zr .unit) (.pair .bool .unit)) .unit)) (.pair (.ptr yH) .unit)) .nil) 253 (.st (.pair (.sl zr) (.pair (.fn (.pair zr .unit) (.pair .bool .unit)) .unit))) (.node .nil 254 yH .nil))))) 255 (.fn (.pair (.sl zl) (.pair (.fn (.pair zl .unit) (.pair .bool .unit)) .unit)) (.pair (.int .i64) .unit)) (.node (.node (.node (.node (.node (.node .nil 256 (.fn (.pair (.sl qv) (.pair (.fn (.pair qv .unit) (.pair .bool .unit)) .unit)) (.pair (.int .i64) .unit)) .nil) 257 (.pair .str (.int .i64)) .nil) 258 (.fn (.pair (.sl (.int .u8)) (.pair (.fn (.pair (.int .u8) .unit) (.pair .bool .unit)) .unit)) (.pair .bool .unit)) (.node .nil 259 (.sl (.int .u8)) .nil)) 260 (.fn (.pair .str (.pair .str .unit)) (.pair .str .unit)) (.node (.node .nil 261 (.fn (.pair (.int .u64) .unit) (.pair .bool .unit)) .nil) 262 (.fn (.pair (.sl (.int .u8)) (.pair (.fn (.pair (.int .u8) .unit) (.pair .bool .unit)) .unit)) (.pair (.int .i64) .unit)) (.node .nil 263 (.fn (.pair .str (.pair (.int .u8) .unit)) (.pair .str .unit)) .nil))) 264 (.arr 256 .bool) (.node (.node (.node .nil 265 (.arr 256 .bool) .nil) 267 (.fn (.pair .str .unit) (.pair (.arr 256 .bool) (.pair .bool .unit))) (.node .nil 268 (.fn (.pair .str (.pair (.ptr (.arr 256 .bool)) .unit)) (.pair .str .unit)) .nil)) 269 (.ptr (.arr 256 .bool)) (.node (.node .nil 270 (.fn (.pair (.int .u64) (.pair (.int .u64) .unit)) (.pair (.int .u64) (.pair (.int .u64) .unit))) .nil) 272 (.fn (.pair .str .unit) (.pair (.int .i32) (.pair (.int .i64) .unit))) (.node .nil 273 (.fn (.pair .str (.pair (.int .i32) .unit)) (.pair .bool .unit)) .nil)))) 274 (.fn (.pair .str (.pair (.int .i32) .unit)) (.pair (.int .i64) .unit)) (.node (.node (.node (.node (.node .nil 275 (.arr 256 (.int .u8)) .nil) 276 (.st (.pair (.int .u8) (.pair (.int .u8) .unit))) .nil) 277 zlD (.node .nil 278 (.arr 16 zlD) .nil)) 279 (.fn (.pair .str (.pair (.int .u8) .unit)) (.pair (.int .i64) .unit)) (.node (.node .nil 280 (.fn (.pair (.int .i32) .unit) (.pair .bool .unit)) .nil) 281 (.fn (.pair (.int .i64) .unit) (.pair (.int .i64) .unit)) (.node .nil 282 (.fn (.pair .str (.pair .str .unit)) (.pair (.int .i64) .unit)) .nil))) 283 (.fn .unit (.pair .str .unit)) (.node (.node (.node .nil 289 (.fn .unit (.pair (.int .i64) .unit)) .nil) 290 (.int .u32) (.node .nil 291 (.int .u8) .nil)) 292 (.int .u8) (.node (.node .nil 294 (.ptr (.int .u8)) .nil) 295 (.int .i32) (.node .nil 296 (.int .i32) .nil))))))))
def glob:List (Nat × AV):=[]
abbrev A_law30_MoneyUp:Ty:=(.pair zu (.pair zq (.pair tMe (.pair qL .unit))))
def ext:List (Nat × Bool):=[(215,true),(223,false)]
def E0:Env:=⟨types,[],glob,0,false,ext,[],fun _=>none,false,false⟩
theorem zHC:Tryz.prog.follows .mixedOrders = true:=by kernel_rfl
theorem mkS {l:List Fun} {d:Bool} {F:Fun} {f:Go.Func} {K:Nat} (hl:Sds Tryz.prog E0 l) (hf:Tryz.prog.funcs[F.id]? = some f) (ho:jY f = true) (h:evF (En E0 d l) K f F.md F.a F.r = F.spec):Sd Tryz.prog E0 F:=Sd.mk zHC hl hf ho h
end Go.Proofs.YtokcjmkikhgkeaaGreatDoor
end
section
namespace Go.Proofs.YtokcjmkikhgkeaaGreatDoor
open Go.Ev
noncomputable section
abbrev Sq (F:Fun):Prop:=Sd Tryz.prog E0 F
def L0:List Fun:=[]
theorem h0:Sds Tryz.prog E0 L0:=trivial
theorem ms0 {d:Bool} {F:Fun} {f:Go.Func} {K:Nat} (hf:Tryz.prog.funcs[F.id]? = some f) (ho:jY f = true) (h:evF (En E0 d L0) K f F.md F.a F.r = F.spec):Sd Tryz.prog E0 F:=mkS h0 hf ho h
theorem ml0 {d:Bool} {F:Fun} {f:Go.Func} {S:Nat→F.a.I→Option F.r.I} (hf:Tryz.prog.funcs[F.id]? = some f) (ho:jY f = true) (h:∀ K,evF (En E0 d L0) K f F.md F.a F.r = S K) (e:S K0 = F.spec):Sd Tryz.prog E0 F:=mkS h0 hf ho ((h K0).trans e)
abbrev Es0:Env:=En E0 false L0
def zhj:(zw × Unit)→Option (Bool × Unit):=fun (x0,()) =>
  bif decide (x0.1 ≥ 0) then bif decide (x0.1 < 4) then some (true,()) else some (false,()) else some (false,())
abbrev zra:Fun:=⟨14,(ch [zl]),(ch [.bool]),0,zhj⟩
theorem zBf:Sq zra:=ms0 (d:=false) (K:=0) Tryz.func14 (by kernel_rfl) (funext fun (x0,())=>by kernel_rfl)
def qn:(Int × (Int × (Int × Unit)))→Option (Bool × Unit):=fun (x0,x1,x2,()) =>
  bif decide (x0 ≥ x1) then bif decide (x0 ≤ x2) then some (true,()) else some (false,()) else some (false,())
abbrev zpm:Fun:=⟨136,(ch [tI,tI,tI]),(ch [.bool]),0,qn⟩
theorem zzt:Sq zpm:=ms0 (d:=false) (K:=0) Tryz.func136 (by kernel_rfl) (funext fun (x0,x1,x2,())=>by kernel_rfl)
abbrev j9:Type:=(List zw) × (Option ((zw × Unit)→Option (Bool × Unit))) × Int × Int
abbrev zoJ:j9→St:=fun (v0,v1,v7,v8)=>St.mk [(0,.dat (.sl zl) v0),(1,.dat (.fn (.pair zl .unit) (.pair .bool .unit)) v1),(7,.dat tI v7),(8,.dat tI v8)] []
def zc3 (k0:j9→Option (Int × Unit)):j9→Option (Int × Unit):=fun (v0,v1,v7,v8) =>
  bif decide (v8 < v7) then inR v8 ((List.length v0):Int) (Option.bind v1 fun q0=>Option.bind (q0 (ix qN v0 v8,())) fun q1=>bif q1.1 then some (v8,()) else k0 (v0,v1,v7,wI (v8 + 1))) else some ((-1),())
abbrev zgS (K:Nat):j9→Option (Int × Unit):=zg zc3 K
theorem zoK (K:Nat):∀ n,evV Es0 K Tryz.f276 0 (ch [tI]) [1,0,1,0] [] zoJ n = zg zc3 n:=zo fun n0 (v0,v1,v7,v8)=>by kernel_rfl
def zee (L0:j9→Option (Int × Unit)):((List zw) × ((Option ((zw × Unit)→Option (Bool × Unit))) × Unit))→Option (Int × Unit):=fun (x0,x1,()) =>
  L0 (x0,x1,((List.length x0):Int),0)
def zap:((List zw) × ((Option ((zw × Unit)→Option (Bool × Unit))) × Unit))→Option (Int × Unit):=zee (zgS K0)
abbrev zit:Fun:=⟨276,(ch [(.sl zl),(.fn (ch [zl]) (ch [.bool]))]),(ch [tI]),0,zap⟩
theorem zqG:Sq zit:=ml0 (d:=false) (S:=fun K=>zee (zgS K)) Tryz.func276 (by kernel_rfl) (fun K=>tr1 (T:=zee) (zoK K K) fun (x0,x1,())=>by kernel_rfl) rfl
def yU:(Int × Unit)→Option (Bool × Unit):=fun (x0,()) =>
  bif x0 != x0 then some (true,()) else some (false,())
abbrev znF:Fun:=⟨288,(ch [tI]),(ch [.bool]),0,yU⟩
theorem zxw:Sq znF:=ms0 (d:=false) (K:=0) Tryz.func288 (by kernel_rfl) (funext fun (x0,())=>by kernel_rfl)
def vo:(Int × Unit)→Option (Bool × Unit):=fun (x0,()) =>
  bif x0 != x0 then some (true,()) else some (false,())
abbrev zkJ:Fun:=⟨287,(ch [tU]),(ch [.bool]),0,vo⟩
theorem zsT:Sq zkJ:=ms0 (d:=false) (K:=0) Tryz.func287 (by kernel_rfl) (funext fun (x0,())=>by kernel_rfl)
abbrev zdw:Type:=Int × (List Int) × Int × Int
abbrev zzu:zdw→St:=fun (v3,v6,v7,v8)=>St.mk [(3,.dat tI v3),(6,.dat (.sl tI) v6),(7,.dat tI v7),(8,.dat tI v8)] []
def jb (k0:zdw→Option (Int × Unit)):zdw→Option (Int × Unit):=fun (v3,v6,v7,v8) =>
  bif decide (v8 < v7) then inR v8 ((List.length v6):Int) (bif ix (0:Int) v6 v8 != v3 then some (ix (0:Int) v6 v8,()) else k0 (v3,v6,v7,wI (v8 + 1))) else some (v3,())
abbrev zpn (K:Nat):zdw→Option (Int × Unit):=zg jb K
theorem zzv (K:Nat):∀ n,evV Es0 K Tryz.f266 0 (ch [tI]) [1,1,0,1,0] [] zzu n = zg jb n:=zo fun n0 (v3,v6,v7,v8)=>by kernel_rfl
def zmp (L0:zdw→Option (Int × Unit)):((List Int) × Unit)→Option (Int × Unit):=fun (x0,()) =>
  L0 (0,x0,((List.length x0):Int),0)
def zdx:((List Int) × Unit)→Option (Int × Unit):=zmp (zpn K0)
abbrev zsU:Fun:=⟨266,(ch [(.sl tI)]),(ch [tI]),0,zdx⟩
theorem zDG:Sq zsU:=ml0 (d:=false) (S:=fun K=>zmp (zpn K)) Tryz.func266 (by kernel_rfl) (fun K=>tr1 (T:=zmp) (zzv K K) fun (x0,())=>by kernel_rfl) rfl
abbrev vG:Type:=(List Int) × (Option ((Int × Unit)→Option (Bool × Unit))) × Int × Int
abbrev zqH:vG→St:=fun (v0,v1,v7,v8)=>St.mk [(0,.dat (.sl tI) v0),(1,.dat (.fn (.pair tI .unit) (.pair .bool .unit)) v1),(7,.dat tI v7),(8,.dat tI v8)] []
def zef (k0:vG→Option (Int × Unit)):vG→Option (Int × Unit):=fun (v0,v1,v7,v8) =>
  bif decide (v8 < v7) then inR v8 ((List.length v0):Int) (Option.bind v1 fun q0=>Option.bind (q0 (ix (0:Int) v0 v8,())) fun q1=>bif q1.1 then some (v8,()) else k0 (v0,v1,v7,wI (v8 + 1))) else some ((-1),())
abbrev ziu (K:Nat):vG→Option (Int × Unit):=zg zef K
theorem zqI (K:Nat):∀ n,evV Es0 K Tryz.f262 0 (ch [tI]) [1,0,1,0] [] zqH n = zg zef n:=zo fun n0 (v0,v1,v7,v8)=>by kernel_rfl
def zfB (L0:vG→Option (Int × Unit)):((List Int) × ((Option ((Int × Unit)→Option (Bool × Unit))) × Unit))→Option (Int × Unit):=fun (x0,x1,()) =>
  L0 (x0,x1,((List.length x0):Int),0)
def zbI:((List Int) × ((Option ((Int × Unit)→Option (Bool × Unit))) × Unit))→Option (Int × Unit):=zfB (ziu K0)
abbrev zkK:Fun:=⟨262,(ch [(.sl tI),(.fn (ch [tI]) (ch [.bool]))]),(ch [tI]),0,zbI⟩
theorem zsV:Sq zkK:=ml0 (d:=false) (S:=fun K=>zfB (ziu K)) Tryz.func262 (by kernel_rfl) (fun K=>tr1 (T:=zfB) (zqI K K) fun (x0,x1,())=>by kernel_rfl) rfl
def zfC:(Int × Unit)→Option (Bool × Unit):=fun (x0,()) =>
  bif decide (x0 ≥ 97) then bif decide (x0 ≤ 122) then some (true,()) else some (false,()) else some (false,())
abbrev zsW:Fun:=⟨244,(ch [(.int .u8)]),(ch [.bool]),0,zfC⟩
theorem zDH:Sq zsW:=ms0 (d:=false) (K:=0) Tryz.func244 (by kernel_rfl) (funext fun (x0,())=>by kernel_rfl)
def ziv:(Int × ((Option (Option ((Int × Unit)→Option (Bool × Unit)))) × Unit))→Option (Bool × Unit):=fun (x0,x1,()) =>
  Option.bind x1 fun q0=>Option.bind q0 fun q1=>Option.bind (q1 (x0,())) fun q2=>bif q2.1 then some (false,()) else some (true,())
abbrev zsX:Fun:=⟨280,(ch [(.int .u8),(.ptr (.fn (ch [(.int .u8)]) (ch [.bool])))]),(ch [.bool]),0,ziv⟩
theorem zDI:Sq zsX:=ms0 (d:=false) (K:=0) Tryz.func280 (by kernel_rfl) (funext fun (x0,x1,())=>by kernel_rfl)
abbrev vp:Type:=(List Int) × (Option ((Int × Unit)→Option (Bool × Unit))) × Int × Int
abbrev zpo:vp→St:=fun (v0,v1,v7,v8)=>St.mk [(0,.dat (.sl (.int IntKind.u8)) v0),(1,.dat (.fn (.pair (.int IntKind.u8) .unit) (.pair .bool .unit)) v1),(7,.dat tI v7),(8,.dat tI v8)] []
def zdy (k0:vp→Option (Int × Unit)):vp→Option (Int × Unit):=fun (v0,v1,v7,v8) =>
  bif decide (v8 < v7) then inR v8 ((List.length v0):Int) (Option.bind v1 fun q0=>Option.bind (q0 (ix (zb (.int IntKind.u8)) v0 v8,())) fun q1=>bif q1.1 then some (v8,()) else k0 (v0,v1,v7,wI (v8 + 1))) else some ((-1),())
abbrev zh7 (K:Nat):vp→Option (Int × Unit):=zg zdy K
theorem zpp (K:Nat):∀ n,evV Es0 K Tryz.f289 0 (ch [tI]) [1,0,1,0] [] zpo n = zg zdy n:=zo fun n0 (v0,v1,v7,v8)=>by kernel_rfl
def ze8 (L0:vp→Option (Int × Unit)):((List Int) × ((Option ((Int × Unit)→Option (Bool × Unit))) × Unit))→Option (Int × Unit):=fun (x0,x1,()) =>
  L0 (x0,x1,((List.length x0):Int),0)
def zbb:((List Int) × ((Option ((Int × Unit)→Option (Bool × Unit))) × Unit))→Option (Int × Unit):=ze8 (zh7 K0)
abbrev zjz:Fun:=⟨289,(ch [(.sl (.int .u8)),(.fn (ch [(.int .u8)]) (ch [.bool]))]),(ch [tI]),0,zbb⟩
theorem zse:Sq zjz:=ml0 (d:=false) (S:=fun K=>ze8 (zh7 K)) Tryz.func289 (by kernel_rfl) (fun K=>tr1 (T:=ze8) (zpp K K) fun (x0,x1,())=>by kernel_rfl) rfl
def ziw:(Int × Unit)→Option (Bool × Unit):=fun (x0,()) =>
  bif decide (x0 ≥ 48) then bif decide (x0 ≤ 57) then some (true,()) else some (false,()) else some (false,())
abbrev zsY:Fun:=⟨247,(ch [(.int .u8)]),(ch [.bool]),0,ziw⟩
theorem zDJ:Sq zsY:=ms0 (d:=false) (K:=0) Tryz.func247 (by kernel_rfl) (funext fun (x0,())=>by kernel_rfl)
abbrev jJ:Type:=(List qs) × (Option ((qs × Unit)→Option (Bool × Unit))) × Int × Int
abbrev zmq:jJ→St:=fun (v0,v1,v7,v8)=>St.mk [(0,.dat (.sl qv) v0),(1,.dat (.fn (.pair qv .unit) (.pair .bool .unit)) v1),(7,.dat tI v7),(8,.dat tI v8)] []
def zaN (k0:jJ→Option (Int × Unit)):jJ→Option (Int × Unit):=fun (v0,v1,v7,v8) =>
  bif decide (v8 < v7) then inR v8 ((List.length v0):Int) (Option.bind v1 fun q0=>Option.bind (q0 (ix qG v0 v8,())) fun q1=>bif q1.1 then some (v8,()) else k0 (v0,v1,v7,wI (v8 + 1))) else some ((-1),())
abbrev zfD (K:Nat):jJ→Option (Int × Unit):=zg zaN K
theorem zmr (K:Nat):∀ n,evV Es0 K Tryz.f277 0 (ch [tI]) [1,0,1,0] [] zmq n = zg zaN n:=zo fun n0 (v0,v1,v7,v8)=>by kernel_rfl
def zc4 (L0:jJ→Option (Int × Unit)):((List qs) × ((Option ((qs × Unit)→Option (Bool × Unit))) × Unit))→Option (Int × Unit):=fun (x0,x1,()) =>
  L0 (x0,x1,((List.length x0):Int),0)
def yI:((List qs) × ((Option ((qs × Unit)→Option (Bool × Unit))) × Unit))→Option (Int × Unit):=zc4 (zfD K0)
abbrev zgT:Fun:=⟨277,(ch [(.sl qv),(.fn (ch [qv]) (ch [.bool]))]),(ch [tI]),0,yI⟩
theorem zoL:Sq zgT:=ml0 (d:=false) (S:=fun K=>zc4 (zfD K)) Tryz.func277 (by kernel_rfl) (fun K=>tr1 (T:=zc4) (zmr K K) fun (x0,x1,())=>by kernel_rfl) rfl
abbrev yl:Type:=(List qs) × Int × Int × List ByteArray
abbrev zsf:yl→St:=fun (v7,v8,v9,o0)=>St.mk [(3,.ow 0),(7,.dat (.sl qv) v7),(8,.dat tI v8),(9,.dat tI v9)] [.row .str o0 false]
def ym (k0:yl→Option ((List ByteArray) × Unit)):yl→Option ((List ByteArray) × Unit):=fun (v7,v8,v9,o0) =>
  bif decide (v9 < v8) then inR v9 ((List.length v7):Int) (bif decide (List.length o0 + List.length (zi (List.replicate 1 (zb .str)) 0 (ix qG v7 v9).1) ≤ lim) then k0 (v7,v8,wI (v9 + 1),o0 ++ zi (List.replicate 1 (zb .str)) 0 (ix qG v7 v9).1) else none) else some (o0,())
abbrev zjA (K:Nat):yl→Option ((List ByteArray) × Unit):=zg ym K
theorem zsg (K:Nat):∀ n,evV Es0 K Tryz.f231 0 (ch [(.sl .str)]) [1,1,0,1,0] [] zsf n = zg ym n:=zo fun n0 (v7,v8,v9,o0)=>by kernel_rfl
def zgG (L0:yl→Option ((List ByteArray) × Unit)):(zf × Unit)→Option ((List ByteArray) × Unit):=fun (x0,()) =>
  L0 (x0.2.2.1,((List.length x0.2.2.1):Int),0,[])
def zgH:(zf × Unit)→Option ((List ByteArray) × Unit):=zgG (zjA K0)
abbrev zlE:Fun:=⟨231,(ch [zu]),(ch [(.sl .str)]),0,zgH⟩
theorem zup:Sq zlE:=ml0 (d:=false) (S:=fun K=>zgG (zjA K)) Tryz.func231 (by kernel_rfl) (fun K=>tr1 (T:=zgG) (zsg K K) fun (x0,())=>by kernel_rfl) rfl
abbrev zdz:Type:=(List ByteArray) × (List ByteArray) × Int × Int × List (ByteArray × Int)
abbrev zzw:zdz→St:=fun (v0,v7,v8,v9,o0)=>St.mk [(0,.dat (.sl .str) v0),(3,.om 0),(7,.dat (.sl .str) v7),(8,.dat tI v8),(9,.dat tI v9)] [.mp .str tI o0]
def zdA (k0:zdz→Option (Bool × Unit)):zdz→Option (Bool × Unit):=fun (v0,v7,v8,v9,o0) =>
  bif decide (v9 < v8) then inR v9 ((List.length v7):Int) (k0 (v0,v7,v8,wI (v9 + 1),jG .str o0 (List.getD v7 (Int.toNat v9) (zb .str)) (wI (zan .str (0:Int) o0 (List.getD v7 (Int.toNat v9) (zb .str)) + 1)))) else bif ((List.length o0):Int) == ((List.length v0):Int) then some (true,()) else some (false,())
abbrev zpq (K:Nat):zdz→Option (Bool × Unit):=zg zdA K
theorem zzx (K:Nat):∀ n,evV Es0 K Tryz.f230 0 (ch [.bool]) [1,1,0,1,0] [] zzw n = zg zdA n:=zo fun n0 (v0,v7,v8,v9,o0)=>by kernel_rfl
def zms (L0:zdz→Option (Bool × Unit)):((List ByteArray) × Unit)→Option (Bool × Unit):=fun (x0,()) =>
  L0 (x0,x0,((List.length x0):Int),0,[])
def zmt:((List ByteArray) × Unit)→Option (Bool × Unit):=zms (zpq K0)
abbrev zsZ:Fun:=⟨230,(ch [(.sl .str)]),(ch [.bool]),0,zmt⟩
theorem zDK:Sq zsZ:=ml0 (d:=false) (S:=fun K=>zms (zpq K)) Tryz.func230 (by kernel_rfl) (fun K=>tr1 (T:=zms) (zzx K K) fun (x0,())=>by kernel_rfl) rfl
def zix:(Int × Unit)→Option (zw × (Int × Unit)):=fun (x0,()) =>
  bif decide (x0 < 0) then some ((0,0,()),1,()) else bif decide (x0 ≥ 64) then some ((0,0,()),1,()) else bif decide (x0 < 0) then none else some ((0,wU (1 * 2 ^ min (Int.toNat x0) (IntKind.bits IntKind.u64)),()),0,())
abbrev zs0:Fun:=⟨125,(ch [tI]),(ch [zl,tI]),0,zix⟩
theorem zDL:Sq zs0:=ms0 (d:=false) (K:=0) Tryz.func125 (by kernel_rfl) (funext fun (x0,())=>by kernel_rfl)
abbrev yM:Type:=(List zw) × Int × Int × zw
abbrev zs1:yM→St:=fun (v0,v7,v8,o0)=>St.mk [(0,.dat (.sl zl) v0),(3,.bp 0 []),(7,.dat tI v7),(8,.dat tI v8)] [.bx (.dat zl o0) false]
def yN (k0:yM→Option (Int × Unit)):yM→Option (Int × Unit):=fun (v0,v7,v8,o0) =>
  bif decide (v8 < v7) then inR v8 ((List.length v0):Int) (bif eqI zl o0 (ix qN v0 v8) then some (v8,()) else k0 (v0,v7,wI (v8 + 1),o0)) else some ((-1),())
abbrev zkL (K:Nat):yM→Option (Int × Unit):=zg yN K
theorem zs2 (K:Nat):∀ n,evV Es0 K Tryz.f278 0 (ch [tI]) [1,0,1,0] [] zs1 n = zg yN n:=zo fun n0 (v0,v7,v8,o0)=>by kernel_rfl
def zhK (L0:yM→Option (Int × Unit)):((List zw) × (zw × Unit))→Option (Int × Unit):=fun (x0,x1,()) =>
  L0 (x0,((List.length x0):Int),0,x1)
def zhL:((List zw) × zw × Unit)→Option (Int × Unit):=zhK (zkL K0)
abbrev zmu:Fun:=⟨278,(ch [(.sl zl),zl]),(ch [tI]),0,zhL⟩
theorem zvQ:Sq zmu:=ml0 (d:=false) (S:=fun K=>zhK (zkL K)) Tryz.func278 (by kernel_rfl) (fun K=>tr1 (T:=zhK) (zs2 K K) fun (x0,x1,())=>by kernel_rfl) rfl
def zhM:(zw × ((Option Int) × Unit))→Option (Bool × Unit):=fun (x0,x1,()) =>
  Option.bind x1 fun q0=>bif wU (↑(BitVec.toNat (BitVec.ofInt (IntKind.bits IntKind.u64) x0.2.1 &&& ~~~BitVec.ofInt (IntKind.bits IntKind.u64) q0)):Int) != 0 then some (true,()) else some (false,())
abbrev zmv:Fun:=⟨233,(ch [zl,(.ptr tU)]),(ch [.bool]),0,zhM⟩
theorem zvR:Sq zmv:=ms0 (d:=false) (K:=0) Tryz.func233 (by kernel_rfl) (funext fun (x0,x1,())=>by kernel_rfl)
def ziy:(zag × Unit)→Option ((List Int) × Unit):=fun (x0,()) =>
  some ([x0.1,x0.2.1,x0.2.2.1,x0.2.2.2.1,x0.2.2.2.2.1],())
abbrev znG:Fun:=⟨235,(ch [zbG]),(ch [(.sl tI)]),0,ziy⟩
theorem zxx:Sq znG:=ms0 (d:=false) (K:=0) Tryz.func235 (by kernel_rfl) (funext fun (x0,())=>by kernel_rfl)
def zbc:(zk × ((Option (Option ((zk × Unit)→Option (Bool × Unit)))) × Unit))→Option (Bool × Unit):=fun (x0,x1,()) =>
  Option.bind x1 fun q0=>Option.bind q0 fun q1=>Option.bind (q1 (x0,())) fun q2=>bif q2.1 then some (false,()) else some (true,())
abbrev zjB:Fun:=⟨177,(ch [zm,(.ptr (.fn (ch [zm]) (ch [.bool])))]),(ch [.bool]),0,zbc⟩
theorem zsh:Sq zjB:=ms0 (d:=false) (K:=0) Tryz.func177 (by kernel_rfl) (funext fun (x0,x1,())=>by kernel_rfl)
abbrev va:Type:=(List zk) × (Option ((zk × Unit)→Option (Bool × Unit))) × Int × Int
abbrev zoM:va→St:=fun (v0,v1,v7,v8)=>St.mk [(0,.dat (.sl zm) v0),(1,.dat (.fn (.pair zm .unit) (.pair .bool .unit)) v1),(7,.dat tI v7),(8,.dat tI v8)] []
def zc5 (k0:va→Option (Int × Unit)):va→Option (Int × Unit):=fun (v0,v1,v7,v8) =>
  bif decide (v8 < v7) then inR v8 ((List.length v0):Int) (Option.bind v1 fun q0=>Option.bind (q0 (ix za v0 v8,())) fun q1=>bif q1.1 then some (v8,()) else k0 (v0,v1,v7,wI (v8 + 1))) else some ((-1),())
abbrev zgU (K:Nat):va→Option (Int × Unit):=zg zc5 K
theorem zoN (K:Nat):∀ n,evV Es0 K Tryz.f242 0 (ch [tI]) [1,0,1,0] [] zoM n = zg zc5 n:=zo fun n0 (v0,v1,v7,v8)=>by kernel_rfl
def zeg (L0:va→Option (Int × Unit)):((List zk) × ((Option ((zk × Unit)→Option (Bool × Unit))) × Unit))→Option (Int × Unit):=fun (x0,x1,()) =>
  L0 (x0,x1,((List.length x0):Int),0)
def zaq:((List zk) × ((Option ((zk × Unit)→Option (Bool × Unit))) × Unit))→Option (Int × Unit):=zeg (zgU K0)
abbrev ziz:Fun:=⟨242,(ch [(.sl zm),(.fn (ch [zm]) (ch [.bool]))]),(ch [tI]),0,zaq⟩
theorem zqJ:Sq ziz:=ml0 (d:=false) (S:=fun K=>zeg (zgU K)) Tryz.func242 (by kernel_rfl) (fun K=>tr1 (T:=zeg) (zoN K K) fun (x0,x1,())=>by kernel_rfl) rfl
abbrev vq:Type:=(List jD) × (Option ((jD × Unit)→Option (Bool × Unit))) × Int × Int
abbrev zpr:vq→St:=fun (v0,v1,v7,v8)=>St.mk [(0,.dat (.sl qC) v0),(1,.dat (.fn (.pair qC .unit) (.pair .bool .unit)) v1),(7,.dat tI v7),(8,.dat tI v8)] []
def zdB (k0:vq→Option (Int × Unit)):vq→Option (Int × Unit):=fun (v0,v1,v7,v8) =>
  bif decide (v8 < v7) then inR v8 ((List.length v0):Int) (Option.bind v1 fun q0=>Option.bind (q0 (ix zkm v0 v8,())) fun q1=>bif q1.1 then some (v8,()) else k0 (v0,v1,v7,wI (v8 + 1))) else some ((-1),())
abbrev zh8 (K:Nat):vq→Option (Int × Unit):=zg zdB K
theorem zps (K:Nat):∀ n,evV Es0 K Tryz.f243 0 (ch [tI]) [1,0,1,0] [] zpr n = zg zdB n:=zo fun n0 (v0,v1,v7,v8)=>by kernel_rfl
def ze9 (L0:vq→Option (Int × Unit)):((List jD) × ((Option ((jD × Unit)→Option (Bool × Unit))) × Unit))→Option (Int × Unit):=fun (x0,x1,()) =>
  L0 (x0,x1,((List.length x0):Int),0)
def zbd:((List jD) × ((Option ((jD × Unit)→Option (Bool × Unit))) × Unit))→Option (Int × Unit):=ze9 (zh8 K0)
abbrev zjC:Fun:=⟨243,(ch [(.sl qC),(.fn (ch [qC]) (ch [.bool]))]),(ch [tI]),0,zbd⟩
theorem zsi:Sq zjC:=ml0 (d:=false) (S:=fun K=>ze9 (zh8 K)) Tryz.func243 (by kernel_rfl) (fun K=>tr1 (T:=ze9) (zps K K) fun (x0,x1,())=>by kernel_rfl) rfl
def zfE:(z7 × Unit)→Option (Bool × Unit):=fun (x0,()) =>
  bif decide (x0.1 ≥ 0) then bif decide (x0.1 ≤ 127) then bif decide (x0.2.1 ≥ 0) then bif decide (x0.2.1 ≤ 127) then some (true,()) else some (false,()) else some (false,()) else some (false,()) else some (false,())
abbrev zs3:Fun:=⟨248,(ch [zY]),(ch [.bool]),0,zfE⟩
theorem zDM:Sq zs3:=ms0 (d:=false) (K:=0) Tryz.func248 (by kernel_rfl) (funext fun (x0,())=>by kernel_rfl)
def ziA:(Int × Unit)→Option (Bool × Unit):=fun (x0,()) =>
  bif decide (x0 ≥ 0) then bif decide (x0 < 6) then some (true,()) else some (false,()) else some (false,())
abbrev zs4:Fun:=⟨249,(ch [tI]),(ch [.bool]),0,ziA⟩
theorem zDN:Sq zs4:=ms0 (d:=false) (K:=0) Tryz.func249 (by kernel_rfl) (funext fun (x0,())=>by kernel_rfl)
def zf7:(qi × ((Option z7) × ((Option Int) × Unit)))→Option (Bool × Unit):=fun (x0,x1,x2,()) =>
  bif x0.1 then Option.bind x1 fun q0=>bif eqI zY x0.2.1 q0 then Option.bind x2 fun q1=>bif x0.2.2.2.1 == q1 then some (true,()) else some (false,()) else some (false,()) else some (false,())
abbrev zpt:Fun:=⟨251,(ch [qb,(.ptr zY),(.ptr tI)]),(ch [.bool]),0,zf7⟩
theorem zzy:Sq zpt:=ms0 (d:=false) (K:=0) Tryz.func251 (by kernel_rfl) (funext fun (x0,x1,x2,())=>by kernel_rfl)
abbrev vt:Type:=(List qi) × (Option ((qi × Unit)→Option (Bool × Unit))) × Int × Int
abbrev zpu:vt→St:=fun (v0,v1,v7,v8)=>St.mk [(0,.dat (.sl qb) v0),(1,.dat (.fn (.pair qb .unit) (.pair .bool .unit)) v1),(7,.dat tI v7),(8,.dat tI v8)] []
def zdC (k0:vt→Option (Int × Unit)):vt→Option (Int × Unit):=fun (v0,v1,v7,v8) =>
  bif decide (v8 < v7) then inR v8 ((List.length v0):Int) (Option.bind v1 fun q0=>Option.bind (q0 (ix qg v0 v8,())) fun q1=>bif q1.1 then some (v8,()) else k0 (v0,v1,v7,wI (v8 + 1))) else some ((-1),())
abbrev zh9 (K:Nat):vt→Option (Int × Unit):=zg zdC K
theorem zpv (K:Nat):∀ n,evV Es0 K Tryz.f250 0 (ch [tI]) [1,0,1,0] [] zpu n = zg zdC n:=zo fun n0 (v0,v1,v7,v8)=>by kernel_rfl
def zfa (L0:vt→Option (Int × Unit)):((List qi) × ((Option ((qi × Unit)→Option (Bool × Unit))) × Unit))→Option (Int × Unit):=fun (x0,x1,()) =>
  L0 (x0,x1,((List.length x0):Int),0)
def yn:((List qi) × ((Option ((qi × Unit)→Option (Bool × Unit))) × Unit))→Option (Int × Unit):=zfa (zh9 K0)
abbrev zjD:Fun:=⟨250,(ch [(.sl qb),(.fn (ch [qb]) (ch [.bool]))]),(ch [tI]),0,yn⟩
theorem zsj:Sq zjD:=ml0 (d:=false) (S:=fun K=>zfa (zh9 K)) Tryz.func250 (by kernel_rfl) (fun K=>tr1 (T:=zfa) (zpv K K) fun (x0,x1,())=>by kernel_rfl) rfl
abbrev vu:Type:=(List qj) × (Option ((qj × Unit)→Option (Bool × Unit))) × Int × Int
abbrev zpw:vu→St:=fun (v0,v1,v7,v8)=>St.mk [(0,.dat (.sl zL) v0),(1,.dat (.fn (.pair zL .unit) (.pair .bool .unit)) v1),(7,.dat tI v7),(8,.dat tI v8)] []
def zdD (k0:vu→Option (Int × Unit)):vu→Option (Int × Unit):=fun (v0,v1,v7,v8) =>
  bif decide (v8 < v7) then inR v8 ((List.length v0):Int) (Option.bind v1 fun q0=>Option.bind (q0 (ix zB v0 v8,())) fun q1=>bif q1.1 then some (v8,()) else k0 (v0,v1,v7,wI (v8 + 1))) else some ((-1),())
abbrev zia (K:Nat):vu→Option (Int × Unit):=zg zdD K
theorem zpx (K:Nat):∀ n,evV Es0 K Tryz.f252 0 (ch [tI]) [1,0,1,0] [] zpw n = zg zdD n:=zo fun n0 (v0,v1,v7,v8)=>by kernel_rfl
def zfb (L0:vu→Option (Int × Unit)):((List qj) × ((Option ((qj × Unit)→Option (Bool × Unit))) × Unit))→Option (Int × Unit):=fun (x0,x1,()) =>
  L0 (x0,x1,((List.length x0):Int),0)
def zbe:((List qj) × ((Option ((qj × Unit)→Option (Bool × Unit))) × Unit))→Option (Int × Unit):=zfb (zia K0)
abbrev zjE:Fun:=⟨252,(ch [(.sl zL),(.fn (ch [zL]) (ch [.bool]))]),(ch [tI]),0,zbe⟩
theorem zsk:Sq zjE:=ml0 (d:=false) (S:=fun K=>zfb (zia K)) Tryz.func252 (by kernel_rfl) (fun K=>tr1 (T:=zfb) (zpx K K) fun (x0,x1,())=>by kernel_rfl) rfl
def zqK:(qj × Unit)→Option (zzs × Unit):=fun (x0,()) =>
  some (x0.2.2,())
abbrev zxy:Fun:=⟨253,(ch [zL]),(ch [zuf]),0,zqK⟩
theorem zHD:Sq zxy:=ms0 (d:=false) (K:=0) Tryz.func253 (by kernel_rfl) (funext fun (x0,())=>by kernel_rfl)
def zeh:(Int × Unit)→Option (Bool × Unit):=fun (x0,()) =>
  bif decide (x0 ≥ 0) then bif decide (x0 ≤ 127) then some (true,()) else some (false,()) else some (false,())
abbrev zxz:Fun:=⟨282,(ch [tI]),(ch [.bool]),0,zeh⟩
theorem zHE:Sq zxz:=ms0 (d:=false) (K:=0) Tryz.func282 (by kernel_rfl) (funext fun (x0,())=>by kernel_rfl)
abbrev vv:Type:=(List qw) × (Option ((qw × Unit)→Option (Bool × Unit))) × Int × Int
abbrev zpy:vv→St:=fun (v0,v1,v7,v8)=>St.mk [(0,.dat (.sl qh) v0),(1,.dat (.fn (.pair qh .unit) (.pair .bool .unit)) v1),(7,.dat tI v7),(8,.dat tI v8)] []
def zdE (k0:vv→Option (Int × Unit)):vv→Option (Int × Unit):=fun (v0,v1,v7,v8) =>
  bif decide (v8 < v7) then inR v8 ((List.length v0):Int) (Option.bind v1 fun q0=>Option.bind (q0 (ix zdk v0 v8,())) fun q1=>bif q1.1 then some (v8,()) else k0 (v0,v1,v7,wI (v8 + 1))) else some ((-1),())
abbrev zib (K:Nat):vv→Option (Int × Unit):=zg zdE K
theorem zpz (K:Nat):∀ n,evV Es0 K Tryz.f255 0 (ch [tI]) [1,0,1,0] [] zpy n = zg zdE n:=zo fun n0 (v0,v1,v7,v8)=>by kernel_rfl
def zfc (L0:vv→Option (Int × Unit)):((List qw) × ((Option ((qw × Unit)→Option (Bool × Unit))) × Unit))→Option (Int × Unit):=fun (x0,x1,()) =>
  L0 (x0,x1,((List.length x0):Int),0)
def zbf:((List qw) × ((Option ((qw × Unit)→Option (Bool × Unit))) × Unit))→Option (Int × Unit):=zfc (zib K0)
abbrev zjF:Fun:=⟨255,(ch [(.sl qh),(.fn (ch [qh]) (ch [.bool]))]),(ch [tI]),0,zbf⟩
theorem zsl:Sq zjF:=ml0 (d:=false) (S:=fun K=>zfc (zib K)) Tryz.func255 (by kernel_rfl) (fun K=>tr1 (T:=zfc) (zpz K K) fun (x0,x1,())=>by kernel_rfl) rfl
def zic:(Int × Unit)→Option (Bool × Unit):=fun (x0,()) =>
  bif decide (x0 ≥ 0) then bif decide (x0 ≤ 127) then some (true,()) else some (false,()) else some (false,())
abbrev zAS:Fun:=⟨283,(ch [tI]),(ch [.bool]),0,zic⟩
theorem zI7:Sq zAS:=ms0 (d:=false) (K:=0) Tryz.func283 (by kernel_rfl) (funext fun (x0,())=>by kernel_rfl)
def ziB:(Int × Unit)→Option (Bool × Unit):=fun (x0,()) =>
  bif decide (x0 ≥ 32) then bif decide (x0 ≤ 126) then some (true,()) else some (false,()) else some (false,())
abbrev zs5:Fun:=⟨284,(ch [(.int .u8)]),(ch [.bool]),0,ziB⟩
theorem zDO:Sq zs5:=ms0 (d:=false) (K:=0) Tryz.func284 (by kernel_rfl) (funext fun (x0,())=>by kernel_rfl)
abbrev jz:Type:=ByteArray × Int
abbrev zlV:jz→St:=fun (v0,v1)=>St.mk [(0,.dat .str v0),(1,.dat (.int IntKind.u8) v1)] []
def zM (k0:jz→Option (ByteArray × Unit)):jz→Option (ByteArray × Unit):=fun (v0,v1) =>
  bif decide ((↑(ByteArray.size v0):Int) > 0) then inR (wI ((↑(ByteArray.size v0):Int) - 1)) (↑(ByteArray.size v0):Int) (bif (↑(UInt8.toNat (List.getD (Array.toList (ByteArray.data v0)) (Int.toNat (wI ((↑(ByteArray.size v0):Int) - 1))) 0)):Int) == v1 then bif decide (0 ≤ wI ((↑(ByteArray.size v0):Int) - 1)) then bif decide (wI ((↑(ByteArray.size v0):Int) - 1) ≤ (↑(ByteArray.size v0):Int)) then k0 (ByteArray.extract v0 0 (Int.toNat (wI ((↑(ByteArray.size v0):Int) - 1))),v1) else none else none else some (v0,())) else some (v0,())
abbrev zfe (K:Nat):jz→Option (ByteArray × Unit):=zg zM K
theorem zlW (K:Nat):∀ n,evV Es0 K Tryz.f291 0 (ch [.str]) [1,0,0] [] zlV n = zg zM n:=zo fun n0 (v0,v1)=>by kernel_rfl
def zbl (L0:jz→Option (ByteArray × Unit)):(ByteArray × (Int × Unit))→Option (ByteArray × Unit):=fun (x0,x1,()) =>
  L0 (x0,x1)
def zbm:(ByteArray × Int × Unit)→Option (ByteArray × Unit):=zbl (zfe K0)
abbrev zgA:Fun:=⟨291,(ch [.str,(.int .u8)]),(ch [.str]),0,zbm⟩
theorem zng:Sq zgA:=ml0 (d:=false) (S:=fun K=>zbl (zfe K)) Tryz.func291 (by kernel_rfl) (fun K=>tr1 (T:=zbl) (zlW K K) fun (x0,x1,())=>by kernel_rfl) rfl
abbrev jK:Type:=ByteArray × Int
abbrev zmw:jK→St:=fun (v0,v1)=>St.mk [(0,.dat .str v0),(1,.dat (.int IntKind.u8) v1)] []
def zP (k0:jK→Option (ByteArray × Unit)):jK→Option (ByteArray × Unit):=fun (v0,v1) =>
  bif decide ((↑(ByteArray.size v0):Int) > 0) then bif decide (0 < (↑(ByteArray.size v0):Int)) then bif (↑(UInt8.toNat (List.getD (Array.toList (ByteArray.data v0)) (Int.toNat 0) 0)):Int) == v1 then bif decide (1 ≤ (↑(ByteArray.size v0):Int)) then k0 (ByteArray.extract v0 (Int.toNat 1) (ByteArray.size v0),v1) else none else some (v0,()) else none else some (v0,())
abbrev zfF (K:Nat):jK→Option (ByteArray × Unit):=zg zP K
theorem zmx (K:Nat):∀ n,evV Es0 K Tryz.f290 0 (ch [.str]) [1,0,0] [] zmw n = zg zP n:=zo fun n0 (v0,v1)=>by kernel_rfl
def zc6 (L0:jK→Option (ByteArray × Unit)):(ByteArray × (Int × Unit))→Option (ByteArray × Unit):=fun (x0,x1,()) =>
  L0 (x0,x1)
def zc7:(ByteArray × Int × Unit)→Option (ByteArray × Unit):=zc6 (zfF K0)
abbrev zgV:Fun:=⟨290,(ch [.str,(.int .u8)]),(ch [.str]),0,zc7⟩
theorem zoO:Sq zgV:=ml0 (d:=false) (S:=fun K=>zc6 (zfF K)) Tryz.func290 (by kernel_rfl) (fun K=>tr1 (T:=zc6) (zmx K K) fun (x0,x1,())=>by kernel_rfl) rfl
abbrev vb:Type:=(List zt) × (Option ((zt × Unit)→Option (Bool × Unit))) × Int × Int
abbrev zoP:vb→St:=fun (v0,v1,v7,v8)=>St.mk [(0,.dat (.sl zz) v0),(1,.dat (.fn (.pair zz .unit) (.pair .bool .unit)) v1),(7,.dat tI v7),(8,.dat tI v8)] []
def zc8 (k0:vb→Option (Int × Unit)):vb→Option (Int × Unit):=fun (v0,v1,v7,v8) =>
  bif decide (v8 < v7) then inR v8 ((List.length v0):Int) (Option.bind v1 fun q0=>Option.bind (q0 (ix zV v0 v8,())) fun q1=>bif q1.1 then some (v8,()) else k0 (v0,v1,v7,wI (v8 + 1))) else some ((-1),())
abbrev zgW (K:Nat):vb→Option (Int × Unit):=zg zc8 K
theorem zoQ (K:Nat):∀ n,evV Es0 K Tryz.f258 0 (ch [tI]) [1,0,1,0] [] zoP n = zg zc8 n:=zo fun n0 (v0,v1,v7,v8)=>by kernel_rfl
def zei (L0:vb→Option (Int × Unit)):((List zt) × ((Option ((zt × Unit)→Option (Bool × Unit))) × Unit))→Option (Int × Unit):=fun (x0,x1,()) =>
  L0 (x0,x1,((List.length x0):Int),0)
def zar:((List zt) × ((Option ((zt × Unit)→Option (Bool × Unit))) × Unit))→Option (Int × Unit):=zei (zgW K0)
abbrev ziC:Fun:=⟨258,(ch [(.sl zz),(.fn (ch [zz]) (ch [.bool]))]),(ch [tI]),0,zar⟩
theorem zqL:Sq ziC:=ml0 (d:=false) (S:=fun K=>zei (zgW K)) Tryz.func258 (by kernel_rfl) (fun K=>tr1 (T:=zei) (zoQ K K) fun (x0,x1,())=>by kernel_rfl) rfl
def zf8:(Int × Unit)→Option (Bool × Unit):=fun (x0,()) =>
  bif decide (x0 ≥ 0) then bif decide (x0 ≤ 127) then some (true,()) else some (false,()) else some (false,())
abbrev zxA:Fun:=⟨259,(ch [tI]),(ch [.bool]),0,zf8⟩
theorem zHF:Sq zxA:=ms0 (d:=false) (K:=0) Tryz.func259 (by kernel_rfl) (funext fun (x0,())=>by kernel_rfl)
def qU:(Int × Unit)→Option (Bool × Unit):=fun (x0,()) =>
  bif decide (x0 ≥ 0) then bif decide (x0 < 4) then some (true,()) else some (false,()) else some (false,())
abbrev zs6:Fun:=⟨41,(ch [tI]),(ch [.bool]),0,qU⟩
theorem zDP:Sq zs6:=ms0 (d:=false) (K:=0) Tryz.func41 (by kernel_rfl) (funext fun (x0,())=>by kernel_rfl)
def zfG:(zis × Unit)→Option (Bool × Unit):=fun (x0,()) =>
  bif eqI zdl x0 (x0.1,(zb zdl).2.1,-1,(zb zdl).2.2.2) then some (true,()) else some (false,())
abbrev zs7:Fun:=⟨261,(ch [zdl]),(ch [.bool]),0,zfG⟩
theorem zDQ:Sq zs7:=ms0 (d:=false) (K:=0) Tryz.func261 (by kernel_rfl) (funext fun (x0,())=>by kernel_rfl)
def zaC:(Int × Unit)→Option (Bool × Unit):=fun (x0,()) =>
  bif decide (x0 < 0) then some (true,()) else bif decide (x0 > 2) then some (true,()) else some (false,())
abbrev zpA:Fun:=⟨190,(ch [tI]),(ch [.bool]),0,zaC⟩
theorem zzz:Sq zpA:=ms0 (d:=false) (K:=0) Tryz.func190 (by kernel_rfl) (funext fun (x0,())=>by kernel_rfl)
def zdm:(Int × (Int × Unit))→Option (Int × (Int × Unit)):=fun (x0,x1,()) =>
  some (wU (wU (wU (Int.fdiv x0 (2 ^ min (Int.toNat 32) (IntKind.bits IntKind.u64)) * Int.fdiv x1 (2 ^ min (Int.toNat 32) (IntKind.bits IntKind.u64))) + Int.fdiv (wU (wU (Int.fdiv x0 (2 ^ min (Int.toNat 32) (IntKind.bits IntKind.u64)) * wU (↑(BitVec.toNat (BitVec.ofInt (IntKind.bits IntKind.u64) x1 &&& BitVec.ofInt (IntKind.bits IntKind.u64) 4294967295)):Int)) + Int.fdiv (wU (wU (↑(BitVec.toNat (BitVec.ofInt (IntKind.bits IntKind.u64) x0 &&& BitVec.ofInt (IntKind.bits IntKind.u64) 4294967295)):Int) * wU (↑(BitVec.toNat (BitVec.ofInt (IntKind.bits IntKind.u64) x1 &&& BitVec.ofInt (IntKind.bits IntKind.u64) 4294967295)):Int))) (2 ^ min (Int.toNat 32) (IntKind.bits IntKind.u64)))) (2 ^ min (Int.toNat 32) (IntKind.bits IntKind.u64))) + Int.fdiv (wU (wU (↑(BitVec.toNat (BitVec.ofInt (IntKind.bits IntKind.u64) (wU (wU (Int.fdiv x0 (2 ^ min (Int.toNat 32) (IntKind.bits IntKind.u64)) * wU (↑(BitVec.toNat (BitVec.ofInt (IntKind.bits IntKind.u64) x1 &&& BitVec.ofInt (IntKind.bits IntKind.u64) 4294967295)):Int)) + Int.fdiv (wU (wU (↑(BitVec.toNat (BitVec.ofInt (IntKind.bits IntKind.u64) x0 &&& BitVec.ofInt (IntKind.bits IntKind.u64) 4294967295)):Int) * wU (↑(BitVec.toNat (BitVec.ofInt (IntKind.bits IntKind.u64) x1 &&& BitVec.ofInt (IntKind.bits IntKind.u64) 4294967295)):Int))) (2 ^ min (Int.toNat 32) (IntKind.bits IntKind.u64)))) &&& BitVec.ofInt (IntKind.bits IntKind.u64) 4294967295)):Int) + wU (wU (↑(BitVec.toNat (BitVec.ofInt (IntKind.bits IntKind.u64) x0 &&& BitVec.ofInt (IntKind.bits IntKind.u64) 4294967295)):Int) * Int.fdiv x1 (2 ^ min (Int.toNat 32) (IntKind.bits IntKind.u64))))) (2 ^ min (Int.toNat 32) (IntKind.bits IntKind.u64))),wU (x0 * x1),())
abbrev zlF:Fun:=⟨297,(ch [tU,tU]),(ch [tU,tU]),0,zdm⟩
theorem zuq:Sq zlF:=ms0 (d:=false) (K:=0) Tryz.func297 (by kernel_rfl) (funext fun (x0,x1,())=>by kernel_rfl)
def zkM:(Int × Unit)→Option (Bool × Unit):=fun (x0,()) =>
  bif decide (x0 ≥ 0) then bif decide (x0 ≤ 127) then some (true,()) else some (false,()) else some (false,())
abbrev zAT:Fun:=⟨264,(ch [tI]),(ch [.bool]),0,zkM⟩
theorem zI8:Sq zAT:=ms0 (d:=false) (K:=0) Tryz.func264 (by kernel_rfl) (funext fun (x0,())=>by kernel_rfl)
def zej:(Int × Unit)→Option (Bool × Unit):=fun (x0,()) =>
  bif decide (x0 ≥ 0) then bif decide (x0 ≤ 127) then some (true,()) else some (false,()) else some (false,())
abbrev zxB:Fun:=⟨265,(ch [tI]),(ch [.bool]),0,zej⟩
theorem zHG:Sq zxB:=ms0 (d:=false) (K:=0) Tryz.func265 (by kernel_rfl) (funext fun (x0,())=>by kernel_rfl)
def zeD:(ze × (z7 × Unit))→Option (Bool × Unit):=fun (x0,x1,()) =>
  bif decide (x1.1 ≥ 0) then bif decide (x1.1 < ((List.length x0.2.1):Int)) then bif decide (x1.2.1 ≥ 0) then inR x1.1 ((List.length x0.2.1):Int) (bif decide (x1.2.1 < ((List.length (ix za x0.2.1 x1.1).1):Int)) then inR x1.1 ((List.length x0.2.1):Int) (inR x1.2.1 ((List.length (ix za x0.2.1 x1.1).1):Int) (bif (List.getD (ix za x0.2.1 x1.1).1 (Int.toNat x1.2.1) (zb qC)).1 then some (true,()) else some (false,()))) else some (false,())) else some (false,()) else some (false,()) else some (false,())
abbrev zrb:Fun:=⟨92,(ch [zq,zY]),(ch [.bool]),0,zeD⟩
theorem zBg:Sq zrb:=ms0 (d:=false) (K:=0) Tryz.func92 (by kernel_rfl) (funext fun (x0,x1,())=>by kernel_rfl)
def zbq:(qT × (Int × Unit))→Option (Bool × Unit):=fun (x0,x1,()) =>
  bif decide (x1 ≥ 0) then bif decide (x1 < ((List.length x0.1.1):Int)) then some (true,()) else some (false,()) else some (false,())
abbrev zrc:Fun:=⟨95,(ch [qk,tI]),(ch [.bool]),0,zbq⟩
theorem zBh:Sq zrc:=ms0 (d:=false) (K:=0) Tryz.func95 (by kernel_rfl) (funext fun (x0,x1,())=>by kernel_rfl)
def qV:(qT × (Int × Unit))→Option (Bool × Unit):=fun (x0,x1,()) =>
  bif decide (x1 ≥ 0) then bif decide (x1 < ((List.length x0.1.2.2.1):Int)) then some (true,()) else some (false,()) else some (false,())
abbrev znH:Fun:=⟨96,(ch [qk,tI]),(ch [.bool]),0,qV⟩
theorem zxC:Sq znH:=ms0 (d:=false) (K:=0) Tryz.func96 (by kernel_rfl) (funext fun (x0,x1,())=>by kernel_rfl)
def zbg:(zn × ((Option (Option ((zn × Unit)→Option (Bool × Unit)))) × Unit))→Option (Bool × Unit):=fun (x0,x1,()) =>
  Option.bind x1 fun q0=>Option.bind q0 fun q1=>Option.bind (q1 (x0,())) fun q2=>bif q2.1 then some (false,()) else some (true,())
abbrev zjG:Fun:=⟨196,(ch [zr,(.ptr (.fn (ch [zr]) (ch [.bool])))]),(ch [.bool]),0,zbg⟩
theorem zsm:Sq zjG:=ms0 (d:=false) (K:=0) Tryz.func196 (by kernel_rfl) (funext fun (x0,x1,())=>by kernel_rfl)
abbrev vc:Type:=(List zn) × (Option ((zn × Unit)→Option (Bool × Unit))) × Int × Int
abbrev zoR:vc→St:=fun (v0,v1,v7,v8)=>St.mk [(0,.dat (.sl zr) v0),(1,.dat (.fn (.pair zr .unit) (.pair .bool .unit)) v1),(7,.dat tI v7),(8,.dat tI v8)] []
def zc9 (k0:vc→Option (Int × Unit)):vc→Option (Int × Unit):=fun (v0,v1,v7,v8) =>
  bif decide (v8 < v7) then inR v8 ((List.length v0):Int) (Option.bind v1 fun q0=>Option.bind (q0 (ix zH v0 v8,())) fun q1=>bif q1.1 then some (v8,()) else k0 (v0,v1,v7,wI (v8 + 1))) else some ((-1),())
abbrev zgX (K:Nat):vc→Option (Int × Unit):=zg zc9 K
theorem zoS (K:Nat):∀ n,evV Es0 K Tryz.f269 0 (ch [tI]) [1,0,1,0] [] zoR n = zg zc9 n:=zo fun n0 (v0,v1,v7,v8)=>by kernel_rfl
def zek (L0:vc→Option (Int × Unit)):((List zn) × ((Option ((zn × Unit)→Option (Bool × Unit))) × Unit))→Option (Int × Unit):=fun (x0,x1,()) =>
  L0 (x0,x1,((List.length x0):Int),0)
def zas:((List zn) × ((Option ((zn × Unit)→Option (Bool × Unit))) × Unit))→Option (Int × Unit):=zek (zgX K0)
abbrev ziD:Fun:=⟨269,(ch [(.sl zr),(.fn (ch [zr]) (ch [.bool]))]),(ch [tI]),0,zas⟩
theorem zqM:Sq ziD:=ml0 (d:=false) (S:=fun K=>zek (zgX K)) Tryz.func269 (by kernel_rfl) (fun K=>tr1 (T:=zek) (zoS K K) fun (x0,x1,())=>by kernel_rfl) rfl
def zbh:(zI × ((Option (Option ((zI × Unit)→Option (Bool × Unit)))) × Unit))→Option (Bool × Unit):=fun (x0,x1,()) =>
  Option.bind x1 fun q0=>Option.bind q0 fun q1=>Option.bind (q1 (x0,())) fun q2=>bif q2.1 then some (false,()) else some (true,())
abbrev zjH:Fun:=⟨198,(ch [zy,(.ptr (.fn (ch [zy]) (ch [.bool])))]),(ch [.bool]),0,zbh⟩
theorem zsn:Sq zjH:=ms0 (d:=false) (K:=0) Tryz.func198 (by kernel_rfl) (funext fun (x0,x1,())=>by kernel_rfl)
abbrev vd:Type:=(List zI) × (Option ((zI × Unit)→Option (Bool × Unit))) × Int × Int
abbrev zoT:vd→St:=fun (v0,v1,v7,v8)=>St.mk [(0,.dat (.sl zy) v0),(1,.dat (.fn (.pair zy .unit) (.pair .bool .unit)) v1),(7,.dat tI v7),(8,.dat tI v8)] []
def zda (k0:vd→Option (Int × Unit)):vd→Option (Int × Unit):=fun (v0,v1,v7,v8) =>
  bif decide (v8 < v7) then inR v8 ((List.length v0):Int) (Option.bind v1 fun q0=>Option.bind (q0 (ix zah v0 v8,())) fun q1=>bif q1.1 then some (v8,()) else k0 (v0,v1,v7,wI (v8 + 1))) else some ((-1),())
abbrev zgY (K:Nat):vd→Option (Int × Unit):=zg zda K
theorem zoU (K:Nat):∀ n,evV Es0 K Tryz.f270 0 (ch [tI]) [1,0,1,0] [] zoT n = zg zda n:=zo fun n0 (v0,v1,v7,v8)=>by kernel_rfl
def zel (L0:vd→Option (Int × Unit)):((List zI) × ((Option ((zI × Unit)→Option (Bool × Unit))) × Unit))→Option (Int × Unit):=fun (x0,x1,()) =>
  L0 (x0,x1,((List.length x0):Int),0)
def zat:((List zI) × ((Option ((zI × Unit)→Option (Bool × Unit))) × Unit))→Option (Int × Unit):=zel (zgY K0)
abbrev ziE:Fun:=⟨270,(ch [(.sl zy),(.fn (ch [zy]) (ch [.bool]))]),(ch [tI]),0,zat⟩
theorem zqN:Sq ziE:=ml0 (d:=false) (S:=fun K=>zel (zgY K)) Tryz.func270 (by kernel_rfl) (fun K=>tr1 (T:=zel) (zoU K K) fun (x0,x1,())=>by kernel_rfl) rfl
def zdn:(Int × ((Option (Option ((Int × Unit)→Option (Bool × Unit)))) × Unit))→Option (Bool × Unit):=fun (x0,x1,()) =>
  Option.bind x1 fun q0=>Option.bind q0 fun q1=>Option.bind (q1 (x0,())) fun q2=>bif q2.1 then some (false,()) else some (true,())
abbrev zlG:Fun:=⟨199,(ch [tI,(.ptr (.fn (ch [tI]) (ch [.bool])))]),(ch [.bool]),0,zdn⟩
theorem zur:Sq zlG:=ms0 (d:=false) (K:=0) Tryz.func199 (by kernel_rfl) (funext fun (x0,x1,())=>by kernel_rfl)
def ze0:(zw × (zw × Unit))→Option (Bool × Unit):=fun (x0,x1,()) =>
  bif decide (x0.1 ≤ x1.1) then bif wU (↑(BitVec.toNat (BitVec.ofInt (IntKind.bits IntKind.u64) x0.2.1 &&& ~~~BitVec.ofInt (IntKind.bits IntKind.u64) x1.2.1)):Int) == 0 then some (true,()) else some (false,()) else some (false,())
abbrev zuR:Fun:=⟨9,(ch [zl,zl]),(ch [.bool]),0,ze0⟩
theorem zFv:Sq zuR:=ms0 (d:=false) (K:=0) Tryz.func9 (by kernel_rfl) (funext fun (x0,x1,())=>by kernel_rfl)
def zff:(qi × ((Option (Option ((z7 × Unit)→Option (Bool × Unit)))) × Unit))→Option (Bool × Unit):=fun (x0,x1,()) =>
  bif x0.1 then Option.bind x1 fun q0=>Option.bind q0 fun q1=>Option.bind (q1 (x0.2.1,())) fun q2=>bif q2.1 then Option.bind x1 fun q3=>Option.bind q3 fun q4=>Option.bind (q4 (x0.2.2.1,())) fun q5=>bif q5.1 then some (true,()) else some (false,()) else some (false,()) else some (true,())
abbrev znI:Fun:=⟨103,(ch [qb,(.ptr (.fn (ch [zY]) (ch [.bool])))]),(ch [.bool]),0,zff⟩
theorem zxD:Sq znI:=ms0 (d:=false) (K:=0) Tryz.func103 (by kernel_rfl) (funext fun (x0,x1,())=>by kernel_rfl)
def zbJ:(qi × ((Option (Option ((qi × Unit)→Option (Bool × Unit)))) × Unit))→Option (Bool × Unit):=fun (x0,x1,()) =>
  Option.bind x1 fun q0=>Option.bind q0 fun q1=>Option.bind (q1 (x0,())) fun q2=>bif q2.1 then some (false,()) else some (true,())
abbrev zkN:Fun:=⟨202,(ch [qb,(.ptr (.fn (ch [qb]) (ch [.bool])))]),(ch [.bool]),0,zbJ⟩
theorem zs8:Sq zkN:=ms0 (d:=false) (K:=0) Tryz.func202 (by kernel_rfl) (funext fun (x0,x1,())=>by kernel_rfl)
def zbK:(qj × ((Option (Option ((z7 × Unit)→Option (Bool × Unit)))) × Unit))→Option (Bool × Unit):=fun (x0,x1,()) =>
  bif x0.2.2.1 != 2 then some (true,()) else Option.bind x1 fun q0=>Option.bind q0 fun q1=>Option.bind (q1 (x0.2.2.2.2.1,())) fun q2=>bif q2.1 then some (true,()) else some (false,())
abbrev znJ:Fun:=⟨105,(ch [zL,(.ptr (.fn (ch [zY]) (ch [.bool])))]),(ch [.bool]),0,zbK⟩
theorem zxE:Sq znJ:=ms0 (d:=false) (K:=0) Tryz.func105 (by kernel_rfl) (funext fun (x0,x1,())=>by kernel_rfl)
def zbL:(qj × ((Option (Option ((qj × Unit)→Option (Bool × Unit)))) × Unit))→Option (Bool × Unit):=fun (x0,x1,()) =>
  Option.bind x1 fun q0=>Option.bind q0 fun q1=>Option.bind (q1 (x0,())) fun q2=>bif q2.1 then some (false,()) else some (true,())
abbrev zkO:Fun:=⟨203,(ch [zL,(.ptr (.fn (ch [zL]) (ch [.bool])))]),(ch [.bool]),0,zbL⟩
theorem zs9:Sq zkO:=ms0 (d:=false) (K:=0) Tryz.func203 (by kernel_rfl) (funext fun (x0,x1,())=>by kernel_rfl)
def zdo:(z7 × ((Option (Option ((z7 × Unit)→Option (Bool × Unit)))) × Unit))→Option (Bool × Unit):=fun (x0,x1,()) =>
  Option.bind x1 fun q0=>Option.bind q0 fun q1=>Option.bind (q1 (x0,())) fun q2=>bif q2.1 then some (false,()) else some (true,())
abbrev zlH:Fun:=⟨205,(ch [zY,(.ptr (.fn (ch [zY]) (ch [.bool])))]),(ch [.bool]),0,zdo⟩
theorem zus:Sq zlH:=ms0 (d:=false) (K:=0) Tryz.func205 (by kernel_rfl) (funext fun (x0,x1,())=>by kernel_rfl)
abbrev vH:Type:=(List z7) × (Option ((z7 × Unit)→Option (Bool × Unit))) × Int × Int
abbrev zqO:vH→St:=fun (v0,v1,v7,v8)=>St.mk [(0,.dat (.sl yk) v0),(1,.dat (.fn (.pair yk .unit) (.pair .bool .unit)) v1),(7,.dat tI v7),(8,.dat tI v8)] []
def zem (k0:vH→Option (Int × Unit)):vH→Option (Int × Unit):=fun (v0,v1,v7,v8) =>
  bif decide (v8 < v7) then inR v8 ((List.length v0):Int) (Option.bind v1 fun q0=>Option.bind (q0 (ix qz v0 v8,())) fun q1=>bif q1.1 then some (v8,()) else k0 (v0,v1,v7,wI (v8 + 1))) else some ((-1),())
abbrev ziF (K:Nat):vH→Option (Int × Unit):=zg zem K
theorem zqP (K:Nat):∀ n,evV Es0 K Tryz.f271 0 (ch [tI]) [1,0,1,0] [] zqO n = zg zem n:=zo fun n0 (v0,v1,v7,v8)=>by kernel_rfl
def zfH (L0:vH→Option (Int × Unit)):((List z7) × ((Option ((z7 × Unit)→Option (Bool × Unit))) × Unit))→Option (Int × Unit):=fun (x0,x1,()) =>
  L0 (x0,x1,((List.length x0):Int),0)
def zbM:((List vA) × ((Option ((vA × Unit)→Option (Bool × Unit))) × Unit))→Option (Int × Unit):=zfH (ziF K0)
abbrev zkP:Fun:=⟨271,(ch [(.sl zY),(.fn (ch [zY]) (ch [.bool]))]),(ch [tI]),0,zbM⟩
theorem zta:Sq zkP:=ml0 (d:=false) (S:=fun K=>zfH (ziF K)) Tryz.func271 (by kernel_rfl) (fun K=>tr1 (T:=zfH) (zqP K K) fun (x0,x1,())=>by kernel_rfl) rfl
def zbN:(qw × ((Option (Option ((qw × Unit)→Option (Bool × Unit)))) × Unit))→Option (Bool × Unit):=fun (x0,x1,()) =>
  Option.bind x1 fun q0=>Option.bind q0 fun q1=>Option.bind (q1 (x0,())) fun q2=>bif q2.1 then some (false,()) else some (true,())
abbrev zkQ:Fun:=⟨206,(ch [qh,(.ptr (.fn (ch [qh]) (ch [.bool])))]),(ch [.bool]),0,zbN⟩
theorem ztb:Sq zkQ:=ms0 (d:=false) (K:=0) Tryz.func206 (by kernel_rfl) (funext fun (x0,x1,())=>by kernel_rfl)
def zbi:(zt × ((Option (Option ((zt × Unit)→Option (Bool × Unit)))) × Unit))→Option (Bool × Unit):=fun (x0,x1,()) =>
  Option.bind x1 fun q0=>Option.bind q0 fun q1=>Option.bind (q1 (x0,())) fun q2=>bif q2.1 then some (false,()) else some (true,())
abbrev zjI:Fun:=⟨207,(ch [zz,(.ptr (.fn (ch [zz]) (ch [.bool])))]),(ch [.bool]),0,zbi⟩
theorem zso:Sq zjI:=ms0 (d:=false) (K:=0) Tryz.func207 (by kernel_rfl) (funext fun (x0,x1,())=>by kernel_rfl)
def zen:((List zt) × Unit)→Option ((List zt) × Unit):=fun (x0,()) =>
  bif List.isEmpty x0 then ze7 (some ([],())) (bif decide (List.length (List.replicate 0 (zb zz)) + List.length x0 ≤ lim) then some (List.replicate 0 (zb zz) ++ x0,()) else none) else bif decide (List.length (List.replicate 0 (zb zz)) + List.length x0 ≤ lim) then some (List.replicate 0 (zb zz) ++ x0,()) else none
abbrev zmy:Fun:=⟨146,(ch [(.sl zz)]),(ch [(.sl zz)]),1,zen⟩
theorem zvS:Sq zmy:=ms0 (d:=false) (K:=0) Tryz.func146 (by kernel_rfl) (funext fun (x0,())=>by kernel_rfl)
def vI:(zt × Unit)→Option (Bool × Unit):=fun (x0,()) =>
  bif x0.1 then some (true,()) else some (false,())
abbrev znK:Fun:=⟨114,(ch [zz]),(ch [.bool]),0,vI⟩
theorem zxF:Sq znK:=ms0 (d:=false) (K:=0) Tryz.func114 (by kernel_rfl) (funext fun (x0,())=>by kernel_rfl)
def zeo:((Option zbH) × Unit)→Option (Bool × Unit):=fun (x0,()) =>
  bif Option.isSome x0 then Option.bind x0 fun q0=>bif Option.isSome q0.2.1 then some (true,()) else some (false,()) else some (false,())
abbrev zmz:Fun:=⟨208,(ch [(.ptr vF)]),(ch [.bool]),0,zeo⟩
theorem zvT:Sq zmz:=ms0 (d:=false) (K:=0) Tryz.func208 (by kernel_rfl) (funext fun (x0,())=>by kernel_rfl)
def zep:((List zn) × Unit)→Option ((List zn) × Unit):=fun (x0,()) =>
  bif List.isEmpty x0 then ze7 (some ([],())) (bif decide (List.length (List.replicate 0 (zb zr)) + List.length x0 ≤ lim) then some (List.replicate 0 (zb zr) ++ x0,()) else none) else bif decide (List.length (List.replicate 0 (zb zr)) + List.length x0 ≤ lim) then some (List.replicate 0 (zb zr) ++ x0,()) else none
abbrev zmA:Fun:=⟨137,(ch [(.sl zr)]),(ch [(.sl zr)]),1,zep⟩
theorem zvU:Sq zmA:=ms0 (d:=false) (K:=0) Tryz.func137 (by kernel_rfl) (funext fun (x0,())=>by kernel_rfl)
def ziG:(zn × Unit)→Option (Bool × Unit):=fun (x0,()) =>
  bif x0.1 then some (true,()) else some (false,())
abbrev ztc:Fun:=⟨273,(ch [zr]),(ch [.bool]),0,ziG⟩
theorem zDR:Sq ztc:=ms0 (d:=false) (K:=0) Tryz.func273 (by kernel_rfl) (funext fun (x0,())=>by kernel_rfl)
def zeq:((Option zed) × Unit)→Option (Bool × Unit):=fun (x0,()) =>
  bif Option.isSome x0 then Option.bind x0 fun q0=>bif Option.isSome q0.2.1 then some (true,()) else some (false,()) else some (false,())
abbrev zmB:Fun:=⟨274,(ch [(.ptr yH)]),(ch [.bool]),0,zeq⟩
theorem zvV:Sq zmB:=ms0 (d:=false) (K:=0) Tryz.func274 (by kernel_rfl) (funext fun (x0,())=>by kernel_rfl)
def zhk:(zn × Unit)→Option (Int × Unit):=fun (x0,()) =>
  bif x0.2.2.2.1 == 2 then some (x0.2.2.2.2.1,()) else some (x0.2.2.2.2.2.1,())
abbrev zrd:Fun:=⟨119,(ch [zr]),(ch [tI]),0,zhk⟩
theorem zBi:Sq zrd:=ms0 (d:=false) (K:=0) Tryz.func119 (by kernel_rfl) (funext fun (x0,())=>by kernel_rfl)
end
end Go.Proofs.YtokcjmkikhgkeaaGreatDoor
end
section
namespace Go.Proofs.YtokcjmkikhgkeaaGreatDoor
open Go.Ev
noncomputable section
def ze1:(Int × (Int × Unit))→Option (Int × (Int × Unit)):=fun (x0,x1,()) =>
  bif decide (0 ≤ x0) then bif decide (0 ≤ x1) then bif decide (x1 < 18446744073709551616) then bif extB true x0 x1 != 0 then some (0,7,()) else bif decide (extA true x0 x1 > 4611686018427387904) then some (0,7,()) else some (extA true x0 x1,0,()) else none else none else none
abbrev zuS:Fun:=⟨121,(ch [tU,tU]),(ch [tU,tI]),0,ze1⟩
theorem zFw:Sq zuS:=ms0 (d:=false) (K:=0) Tryz.func121 (by kernel_rfl) (funext fun (x0,x1,())=>by kernel_rfl)
def zhl:(zt × Unit)→Option (Bool × Unit):=fun (x0,()) =>
  bif x0.1 then some (true,()) else some (false,())
abbrev zre:Fun:=⟨214,(ch [zz]),(ch [.bool]),0,zhl⟩
theorem zBj:Sq zre:=ms0 (d:=false) (K:=0) Tryz.func214 (by kernel_rfl) (funext fun (x0,())=>by kernel_rfl)
def zjV:(zk × Unit)→Option ((List Int) × Unit):=fun (x0,()) =>
  some (x0.2.2.2.2.2.2.2.1,())
abbrev zpB:Fun:=⟨210,(ch [zm]),(ch [(.arr 4 tU)]),0,zjV⟩
theorem zzA:Sq zpB:=ms0 (d:=false) (K:=0) Tryz.func210 (by kernel_rfl) (funext fun (x0,())=>by kernel_rfl)
def zjW:(zk × Unit)→Option ((List Int) × Unit):=fun (x0,()) =>
  some (x0.2.2.2.2.2.2.2.2.1,())
abbrev zpC:Fun:=⟨211,(ch [zm]),(ch [(.arr 4 tU)]),0,zjW⟩
theorem zzB:Sq zpC:=ms0 (d:=false) (K:=0) Tryz.func211 (by kernel_rfl) (funext fun (x0,())=>by kernel_rfl)
def zaO:(Int × (Int × Unit))→Option (Int × (Int × Unit)):=fun (x0,x1,()) =>
  bif decide (0 ≤ x0) then bif decide (0 ≤ x1) then bif decide (x1 < 18446744073709551616) then bif extB false x0 x1 != 0 then some (0,6,()) else some (extA false x0 x1,0,()) else none else none else none
abbrev ztd:Fun:=⟨150,(ch [tU,tU]),(ch [tU,tI]),0,zaO⟩
theorem zDS:Sq ztd:=ms0 (d:=false) (K:=0) Tryz.func150 (by kernel_rfl) (funext fun (x0,x1,())=>by kernel_rfl)
def zhN:((List zI) × Unit)→Option ((List zI) × Unit):=fun (x0,()) =>
  bif List.isEmpty x0 then ze7 (some ([],())) (bif decide (List.length (List.replicate 0 (zb zy)) + List.length x0 ≤ lim) then some (List.replicate 0 (zb zy) ++ x0,()) else none) else bif decide (List.length (List.replicate 0 (zb zy)) + List.length x0 ≤ lim) then some (List.replicate 0 (zb zy) ++ x0,()) else none
abbrev zmC:Fun:=⟨138,(ch [(.sl zy)]),(ch [(.sl zy)]),1,zhN⟩
theorem zvW:Sq zmC:=ms0 (d:=false) (K:=0) Tryz.func138 (by kernel_rfl) (funext fun (x0,())=>by kernel_rfl)
def zf9:((List Int) × Unit)→Option ((List Int) × Unit):=fun (x0,()) =>
  bif List.isEmpty x0 then ze7 (some ([],())) (bif decide (List.length (List.replicate 0 (0:Int)) + List.length x0 ≤ lim) then some (List.replicate 0 (0:Int) ++ x0,()) else none) else bif decide (List.length (List.replicate 0 (0:Int)) + List.length x0 ≤ lim) then some (List.replicate 0 (0:Int) ++ x0,()) else none
abbrev zpD:Fun:=⟨139,(ch [(.sl tI)]),(ch [(.sl tI)]),1,zf9⟩
theorem zzC:Sq zpD:=ms0 (d:=false) (K:=0) Tryz.func139 (by kernel_rfl) (funext fun (x0,())=>by kernel_rfl)
def ziH:((List (List Int)) × Unit)→Option ((List (List Int)) × Unit):=fun (x0,()) =>
  bif List.isEmpty x0 then ze7 (some ([],())) (bif decide (List.length (List.replicate 0 ([]:List Int)) + List.length x0 ≤ lim) then some (List.replicate 0 ([]:List Int) ++ x0,()) else none) else bif decide (List.length (List.replicate 0 ([]:List Int)) + List.length x0 ≤ lim) then some (List.replicate 0 ([]:List Int) ++ x0,()) else none
abbrev znL:Fun:=⟨140,(ch [(.sl (.sl tI))]),(ch [(.sl (.sl tI))]),1,ziH⟩
theorem zxG:Sq znL:=ms0 (d:=false) (K:=0) Tryz.func140 (by kernel_rfl) (funext fun (x0,())=>by kernel_rfl)
def zhO:((List zk) × Unit)→Option ((List zk) × Unit):=fun (x0,()) =>
  bif List.isEmpty x0 then ze7 (some ([],())) (bif decide (List.length (List.replicate 0 (zb zm)) + List.length x0 ≤ lim) then some (List.replicate 0 (zb zm) ++ x0,()) else none) else bif decide (List.length (List.replicate 0 (zb zm)) + List.length x0 ≤ lim) then some (List.replicate 0 (zb zm) ++ x0,()) else none
abbrev zmD:Fun:=⟨141,(ch [(.sl zm)]),(ch [(.sl zm)]),1,zhO⟩
theorem zvX:Sq zmD:=ms0 (d:=false) (K:=0) Tryz.func141 (by kernel_rfl) (funext fun (x0,())=>by kernel_rfl)
def ziI:((List jD) × Unit)→Option ((List jD) × Unit):=fun (x0,()) =>
  bif List.isEmpty x0 then ze7 (some ([],())) (bif decide (List.length (List.replicate 0 (zb qC)) + List.length x0 ≤ lim) then some (List.replicate 0 (zb qC) ++ x0,()) else none) else bif decide (List.length (List.replicate 0 (zb qC)) + List.length x0 ≤ lim) then some (List.replicate 0 (zb qC) ++ x0,()) else none
abbrev znM:Fun:=⟨142,(ch [(.sl qC)]),(ch [(.sl qC)]),1,ziI⟩
theorem zxH:Sq znM:=ms0 (d:=false) (K:=0) Tryz.func142 (by kernel_rfl) (funext fun (x0,())=>by kernel_rfl)
def ziJ:((List qi) × Unit)→Option ((List qi) × Unit):=fun (x0,()) =>
  bif List.isEmpty x0 then ze7 (some ([],())) (bif decide (List.length (List.replicate 0 (zb qb)) + List.length x0 ≤ lim) then some (List.replicate 0 (zb qb) ++ x0,()) else none) else bif decide (List.length (List.replicate 0 (zb qb)) + List.length x0 ≤ lim) then some (List.replicate 0 (zb qb) ++ x0,()) else none
abbrev znN:Fun:=⟨143,(ch [(.sl qb)]),(ch [(.sl qb)]),1,ziJ⟩
theorem zxI:Sq znN:=ms0 (d:=false) (K:=0) Tryz.func143 (by kernel_rfl) (funext fun (x0,())=>by kernel_rfl)
def ziK:((List qj) × Unit)→Option ((List qj) × Unit):=fun (x0,()) =>
  bif List.isEmpty x0 then ze7 (some ([],())) (bif decide (List.length (List.replicate 0 (zb zL)) + List.length x0 ≤ lim) then some (List.replicate 0 (zb zL) ++ x0,()) else none) else bif decide (List.length (List.replicate 0 (zb zL)) + List.length x0 ≤ lim) then some (List.replicate 0 (zb zL) ++ x0,()) else none
abbrev znO:Fun:=⟨144,(ch [(.sl zL)]),(ch [(.sl zL)]),1,ziK⟩
theorem zxJ:Sq znO:=ms0 (d:=false) (K:=0) Tryz.func144 (by kernel_rfl) (funext fun (x0,())=>by kernel_rfl)
def ziL:((List qw) × Unit)→Option ((List qw) × Unit):=fun (x0,()) =>
  bif List.isEmpty x0 then ze7 (some ([],())) (bif decide (List.length (List.replicate 0 (zb qh)) + List.length x0 ≤ lim) then some (List.replicate 0 (zb qh) ++ x0,()) else none) else bif decide (List.length (List.replicate 0 (zb qh)) + List.length x0 ≤ lim) then some (List.replicate 0 (zb qh) ++ x0,()) else none
abbrev znP:Fun:=⟨145,(ch [(.sl qh)]),(ch [(.sl qh)]),1,ziL⟩
theorem zxK:Sq znP:=ms0 (d:=false) (K:=0) Tryz.func145 (by kernel_rfl) (funext fun (x0,())=>by kernel_rfl)
def zk5:((List (List Int)) × Unit)→Option ((List (List Int)) × Unit):=fun (x0,()) =>
  bif List.isEmpty x0 then ze7 (some ([],())) (bif decide (List.length (List.replicate 0 (zb (.arr 4 tU))) + List.length x0 ≤ lim) then some (List.replicate 0 (zb (.arr 4 tU)) ++ x0,()) else none) else bif decide (List.length (List.replicate 0 (zb (.arr 4 tU))) + List.length x0 ≤ lim) then some (List.replicate 0 (zb (.arr 4 tU)) ++ x0,()) else none
abbrev zrf:Fun:=⟨147,(ch [(.sl (.arr 4 tU))]),(ch [(.sl (.arr 4 tU))]),1,zk5⟩
theorem zBk:Sq zrf:=ms0 (d:=false) (K:=0) Tryz.func147 (by kernel_rfl) (funext fun (x0,())=>by kernel_rfl)
def zjX:((List z7) × Unit)→Option ((List z7) × Unit):=fun (x0,()) =>
  bif List.isEmpty x0 then ze7 (some ([],())) (bif decide (List.length (List.replicate 0 (zb zY)) + List.length x0 ≤ lim) then some (List.replicate 0 (zb zY) ++ x0,()) else none) else bif decide (List.length (List.replicate 0 (zb zY)) + List.length x0 ≤ lim) then some (List.replicate 0 (zb zY) ++ x0,()) else none
abbrev zpE:Fun:=⟨148,(ch [(.sl zY)]),(ch [(.sl zY)]),1,zjX⟩
theorem zzD:Sq zpE:=ms0 (d:=false) (K:=0) Tryz.func148 (by kernel_rfl) (funext fun (x0,())=>by kernel_rfl)
def zrg:Unit→Option (zf × Unit):=fun () =>
  some (([(0,0,()),(0,1,()),(1,1,())],[0,1,2],[(ByteArray.mk #[97,110,110],ByteArray.mk #[97],1,true,()),(ByteArray.mk #[98,111,98],ByteArray.mk #[98],0,false,())],[(0,0,())],[(2,2,2,2,2,1000,()),(2,2,2,2,2,1000,()),(2,2,2,2,2,1000,())],4,6,2,3,()),())
abbrev zrh:Fun:=⟨23,.unit,(ch [zu]),0,zrg⟩
theorem zBl:Sq zrh:=ms0 (d:=false) (K:=0) Tryz.func23 (by kernel_rfl) (funext fun ()=>by kernel_rfl)
def zri:(zf × (zag × Unit))→Option (zk × Unit):=fun (x0,x1,()) =>
  bif decide (0 ≤ x1.1) then bif decide (x1.1 ≤ x1.1) then bif decide (x1.1 ≤ (↑lim:Int)) then bif decide (0 ≤ x1.2.1) then bif decide (x1.2.1 ≤ x1.2.1) then bif decide (x1.2.1 ≤ (↑lim:Int)) then bif decide (0 ≤ x1.2.2.1) then bif decide (x1.2.2.1 ≤ x1.2.2.1) then bif decide (x1.2.2.1 ≤ (↑lim:Int)) then bif decide (0 ≤ x1.2.2.2.1) then bif decide (x1.2.2.2.1 ≤ x1.2.2.2.1) then bif decide (x1.2.2.2.1 ≤ (↑lim:Int)) then bif decide (0 ≤ x1.2.2.2.2.1) then bif decide (x1.2.2.2.2.1 ≤ x1.2.2.2.2.1) then bif decide (x1.2.2.2.2.1 ≤ (↑lim:Int)) then bif decide (((List.length x0.2.2.1):Int) ≤ ((List.length x0.2.2.1):Int)) then bif decide (((List.length x0.2.2.1):Int) ≤ (↑lim:Int)) then bif decide (((List.length x0.2.2.1):Int) ≤ ((List.length x0.2.2.1):Int)) then bif decide (((List.length x0.2.2.1):Int) ≤ (↑lim:Int)) then some ((List.replicate (Int.toNat x1.1) (zb qC),List.replicate (Int.toNat x1.2.1) (zb qb),List.replicate (Int.toNat x1.2.2.1) (zb zL),List.replicate (Int.toNat x1.2.2.2.1) (zb qh),List.replicate (Int.toNat x1.2.2.2.2.1) (zb zz),List.replicate (Int.toNat ((List.length x0.2.2.1):Int)) (zb (.arr 4 tU)),List.replicate (Int.toNat ((List.length x0.2.2.1):Int)) (zb zY),[0,0,0,0],[0,0,0,0],()),()) else none else none else none else none else none else none else none else none else none else none else none else none else none else none else none else none else none else none else none
abbrev zrj:Fun:=⟨57,(ch [zu,zbG]),(ch [zm]),3,zri⟩
theorem zBm:Sq zrj:=ms0 (d:=true) (K:=0) Tryz.func57 (by kernel_rfl) (funext fun (x0,x1,())=>by kernel_rfl)
def zhm:(zw × Unit)→Option (Bool × Unit):=fun (x0,()) =>
  bif x0.1 == 0 then some (true,()) else bif x0.1 == 1 then some (true,()) else bif x0.1 == 2 then some (true,()) else bif x0.1 == 3 then some (true,()) else some (false,())
abbrev zrk:Fun:=⟨157,(ch [zl]),(ch [.bool]),0,zhm⟩
theorem zBn:Sq zrk:=ms0 (d:=false) (K:=0) Tryz.func157 (by kernel_rfl) (funext fun (x0,())=>by kernel_rfl)
def zkn:(zw × (zw × Unit))→Option (Int × Unit):=fun (x0,x1,()) =>
  bif decide (x0.1 < x1.1) then some ((-1),()) else bif x0.1 == x1.1 then bif decide (x0.2.1 < x1.2.1) then some ((-1),()) else bif eqI zl x0 x1 then some (0,()) else some (1,()) else bif eqI zl x0 x1 then some (0,()) else some (1,())
abbrev zuT:Fun:=⟨158,(ch [zl,zl]),(ch [tI]),0,zkn⟩
theorem zFx:Sq zuT:=ms0 (d:=false) (K:=0) Tryz.func158 (by kernel_rfl) (funext fun (x0,x1,())=>by kernel_rfl)
abbrev zbO:Type:=ByteArray × Int
abbrev zxL:zbO→St:=fun (v0,v3)=>St.mk [(0,.dat .str v0),(3,.dat tI v3)] []
def zfg (k0:zbO→Option (Bool × Unit)):zbO→Option (Bool × Unit):=fun (v0,v3) =>
  bif decide (v3 < (↑(ByteArray.size v0):Int)) then inR v3 (↑(ByteArray.size v0):Int) (bif decide ((↑(UInt8.toNat (List.getD (Array.toList (ByteArray.data v0)) (Int.toNat v3) 0)):Int) ≥ 97) then inR v3 (↑(ByteArray.size v0):Int) (bif decide ((↑(UInt8.toNat (List.getD (Array.toList (ByteArray.data v0)) (Int.toNat v3) 0)):Int) ≤ 122) then k0 (v0,wI (v3 + 1)) else bif v3 == 0 then some (false,()) else inR v3 (↑(ByteArray.size v0):Int) (bif decide ((↑(UInt8.toNat (List.getD (Array.toList (ByteArray.data v0)) (Int.toNat v3) 0)):Int) < 48) then some (false,()) else inR v3 (↑(ByteArray.size v0):Int) (bif decide ((↑(UInt8.toNat (List.getD (Array.toList (ByteArray.data v0)) (Int.toNat v3) 0)):Int) > 57) then some (false,()) else k0 (v0,wI (v3 + 1))))) else bif v3 == 0 then some (false,()) else inR v3 (↑(ByteArray.size v0):Int) (bif decide ((↑(UInt8.toNat (List.getD (Array.toList (ByteArray.data v0)) (Int.toNat v3) 0)):Int) < 48) then some (false,()) else inR v3 (↑(ByteArray.size v0):Int) (bif decide ((↑(UInt8.toNat (List.getD (Array.toList (ByteArray.data v0)) (Int.toNat v3) 0)):Int) > 57) then some (false,()) else k0 (v0,wI (v3 + 1))))) else some (true,())
abbrev ziM (K:Nat):zbO→Option (Bool × Unit):=zg zfg K
theorem zxM (K:Nat):∀ n,evV Es0 K Tryz.f159 0 (ch [.bool]) [1,1,0,1,0] [] zxL n = zg zfg n:=zo fun n0 (v0,v3)=>by kernel_rfl
def zhn (L0:zbO→Option (Bool × Unit)):(ByteArray × Unit)→Option (Bool × Unit):=fun (x0,()) =>
  bif (↑(ByteArray.size x0):Int) == 0 then some (false,()) else bif decide ((↑(ByteArray.size x0):Int) > 12) then some (false,()) else L0 (x0,0)
def zA:(ByteArray × Unit)→Option (Bool × Unit):=zhn (ziM K0)
abbrev zrl:Fun:=⟨159,(ch [.str]),(ch [.bool]),0,zA⟩
theorem zBo:Sq zrl:=ml0 (d:=false) (S:=fun K=>zhn (ziM K)) Tryz.func159 (by kernel_rfl) (fun K=>tr1 (T:=zhn) (zxM K K) fun (x0,())=>by kernel_rfl) rfl
def zfI:(Int × Unit)→Option (zw × Unit):=fun (x0,()) =>
  bif decide (wU x0 < 0) then none else some ((0,wU (1 * 2 ^ min (Int.toNat (wU x0)) (IntKind.bits IntKind.u64)),()),())
abbrev zte:Fun:=⟨161,(ch [tI]),(ch [zl]),0,zfI⟩
theorem zDT:Sq zte:=ms0 (d:=false) (K:=0) Tryz.func161 (by kernel_rfl) (funext fun (x0,())=>by kernel_rfl)
abbrev zbP:Type:=(List zw) × Int × zw
abbrev zxN:zbP→St:=fun (v0,v5,o0)=>St.mk [(0,.dat (.sl zl) v0),(3,.bp 0 []),(5,.dat tI v5)] [.bx (.dat zl o0) false]
def zbQ (k0:zbP→Option (Int × Unit)):zbP→Option (Int × Unit):=fun (v0,v5,o0) =>
  bif decide (v5 < ((List.length v0):Int)) then inR v5 ((List.length v0):Int) (bif eqI zl (ix qN v0 v5) o0 then some (v5,()) else k0 (v0,wI (v5 + 1),o0)) else some ((-1),())
abbrev znQ (K:Nat):zbP→Option (Int × Unit):=zg zbQ K
theorem zxO (K:Nat):∀ n,evV Es0 K Tryz.f160 0 (ch [tI]) [1,0,1,0] [] zxN n = zg zbQ n:=zo fun n0 (v0,v5,o0)=>by kernel_rfl
def zk6 (L0:zbP→Option (Int × Unit)):((List zw) × (zw × Unit))→Option (Int × Unit):=fun (x0,x1,()) =>
  L0 (x0,0,x1)
def zho:((List zw) × zw × Unit)→Option (Int × Unit):=zk6 (znQ K0)
abbrev zrm:Fun:=⟨160,(ch [(.sl zl),zl]),(ch [tI]),0,zho⟩
theorem zBp:Sq zrm:=ml0 (d:=false) (S:=fun K=>zk6 (znQ K)) Tryz.func160 (by kernel_rfl) (fun K=>tr1 (T:=zk6) (zxO K K) fun (x0,x1,())=>by kernel_rfl) rfl
def ze2:(zw × (Int × Unit))→Option (Bool × Unit):=fun (x0,x1,()) =>
  bif decide (wU x1 < 0) then none else bif Int.tmod (Int.fdiv x0.2.1 (2 ^ min (Int.toNat (wU x1)) (IntKind.bits IntKind.u64))) 2 == 1 then some (true,()) else some (false,())
abbrev zuU:Fun:=⟨162,(ch [zl,tI]),(ch [.bool]),0,ze2⟩
theorem zFy:Sq zuU:=ms0 (d:=false) (K:=0) Tryz.func162 (by kernel_rfl) (funext fun (x0,x1,())=>by kernel_rfl)
abbrev zeE:Type:=(List z7) × Int × Int
abbrev zBq:zeE→St:=fun (v0,v1,v5)=>St.mk [(0,.dat (.sl yk) v0),(1,.dat tI v1),(5,.dat tI v5)] []
def zeF (k0:zeE→Option (Bool × Unit)):zeE→Option (Bool × Unit):=fun (v0,v1,v5) =>
  bif decide (v5 < ((List.length v0):Int)) then inR v5 ((List.length v0):Int) (bif (ix qz v0 v5).1 == v1 then some (true,()) else k0 (v0,v1,wI (v5 + 1))) else some (false,())
abbrev zrn (K:Nat):zeE→Option (Bool × Unit):=zg zeF K
theorem zBr (K:Nat):∀ n,evV Es0 K Tryz.f163 0 (ch [.bool]) [1,0,1,0] [] zBq n = zg zeF n:=zo fun n0 (v0,v1,v5)=>by kernel_rfl
def zoV (L0:zeE→Option (Bool × Unit)):((List z7) × (Int × Unit))→Option (Bool × Unit):=fun (x0,x1,()) =>
  L0 (x0,x1,0)
def zoW:((List z7) × Int × Unit)→Option (Bool × Unit):=zoV (zrn K0)
abbrev zuV:Fun:=⟨163,(ch [(.sl yk),tI]),(ch [.bool]),0,zoW⟩
theorem zFz:Sq zuV:=ml0 (d:=false) (S:=fun K=>zoV (zrn K)) Tryz.func163 (by kernel_rfl) (fun K=>tr1 (T:=zoV) (zBr K K) fun (x0,x1,())=>by kernel_rfl) rfl
def yd:(Int × Unit)→Option (Bool × Unit):=fun (x0,()) =>
  bif decide (x0 ≥ 0) then bif decide (x0 ≤ 12) then some (true,()) else some (false,()) else some (false,())
abbrev zro:Fun:=⟨164,(ch [tI]),(ch [.bool]),0,yd⟩
theorem zBs:Sq zro:=ms0 (d:=false) (K:=0) Tryz.func164 (by kernel_rfl) (funext fun (x0,())=>by kernel_rfl)
abbrev zbR:Type:=Int × zf × ze
abbrev zxP:zbR→St:=fun (v5,o0,o1)=>St.mk [(2,.bp 0 []),(3,.bp 1 []),(5,.dat tI v5)] [.bx (.dat zu o0) false,.bx (.dat zq o1) false]
def zfh (k0:zbR→Option (Bool × Unit)):zbR→Option (Bool × Unit):=fun (v5,o0,o1) =>
  bif decide (v5 < ((List.length o1.2.1):Int)) then inR v5 ((List.length o1.2.1):Int) (inR v5 ((List.length o0.2.2.2.2.1):Int) (bif ((List.length (ix za o1.2.1 v5).1):Int) != (ix qf o0.2.2.2.2.1 v5).1 then some (false,()) else bif ((List.length (ix za o1.2.1 v5).2.1):Int) != (ix qf o0.2.2.2.2.1 v5).2.1 then some (false,()) else bif ((List.length (ix za o1.2.1 v5).2.2.1):Int) != (ix qf o0.2.2.2.2.1 v5).2.2.1 then some (false,()) else bif ((List.length (ix za o1.2.1 v5).2.2.2.1):Int) != (ix qf o0.2.2.2.2.1 v5).2.2.2.1 then some (false,()) else bif ((List.length (ix za o1.2.1 v5).2.2.2.2.1):Int) != (ix qf o0.2.2.2.2.1 v5).2.2.2.2.1 then some (false,()) else bif ((List.length (ix za o1.2.1 v5).2.2.2.2.2.1):Int) != ((List.length o0.2.2.1):Int) then some (false,()) else bif ((List.length (ix za o1.2.1 v5).2.2.2.2.2.2.1):Int) != ((List.length o0.2.2.1):Int) then some (false,()) else k0 (wI (v5 + 1),o0,o1))) else some (true,())
abbrev ziN (K:Nat):zbR→Option (Bool × Unit):=zg zfh K
theorem zxQ (K:Nat):∀ n,evV Es0 K Tryz.f29 0 (ch [.bool]) [1,1,0,1,0] [] zxP n = zg zfh n:=zo fun n0 (v5,o0,o1)=>by kernel_rfl
def zhp (L0:zbR→Option (Bool × Unit)):(zf × (ze × Unit))→Option (Bool × Unit):=fun (x0,x1,()) =>
  bif ((List.length x1.2.1):Int) != ((List.length x0.1):Int) then some (false,()) else bif ((List.length x1.2.2.2.1):Int) != x0.2.2.2.2.2.1 then some (false,()) else bif decide (((List.length x1.2.2.2.2.1):Int) > x0.2.2.2.2.2.2.1) then some (false,()) else bif ((List.length x1.2.2.2.2.2.1):Int) != ((List.length x0.2.1):Int) then some (false,()) else bif decide (x1.1 > 4611686018427387904) then some (false,()) else L0 (0,x0,x1)
def zhq:(zf × ze × Unit)→Option (Bool × Unit):=zhp (ziN K0)
abbrev zrp:Fun:=⟨29,(ch [zu,zq]),(ch [.bool]),0,zhq⟩
theorem zBt:Sq zrp:=ml0 (d:=false) (S:=fun K=>zhp (ziN K)) Tryz.func29 (by kernel_rfl) (fun K=>tr1 (T:=zhp) (zxQ K K) fun (x0,x1,())=>by kernel_rfl) rfl
def zhr:(Int × (Int × Unit))→Option (Int × (Int × Unit)):=fun (x0,x1,()) =>
  bif x0 != 0 then bif x0 == 0 then none else bif decide (x1 > wU (Int.tdiv 4611686018427387904 x0)) then some (0,7,()) else some (wU (x0 * x1),0,()) else some (wU (x0 * x1),0,())
abbrev zrq:Fun:=⟨279,(ch [tU,tU]),(ch [tU,tI]),0,zhr⟩
theorem zBu:Sq zrq:=ms0 (d:=false) (K:=0) Tryz.func279 (by kernel_rfl) (funext fun (x0,x1,())=>by kernel_rfl)
def zgZ:(Int × Unit)→Option (Bool × Unit):=fun (x0,()) =>
  bif decide (x0 ≥ 0) then bif decide (x0 < 128) then some (true,()) else some (false,()) else some (false,())
abbrev zuW:Fun:=⟨237,(ch [tI]),(ch [.bool]),0,zgZ⟩
theorem zFA:Sq zuW:=ms0 (d:=false) (K:=0) Tryz.func237 (by kernel_rfl) (funext fun (x0,())=>by kernel_rfl)
abbrev zeG:Type:=(List zn) × Int × Int × Int
abbrev zBv:zeG→St:=fun (v0,v1,v2,v7)=>St.mk [(0,.dat (.sl zr) v0),(1,.dat tI v1),(2,.dat tI v2),(7,.dat tI v7)] []
def zeH (k0:zeG→Option (Bool × Unit)):zeG→Option (Bool × Unit):=fun (v0,v1,v2,v7) =>
  bif decide (v7 < v1) then inR v7 ((List.length v0):Int) (bif (ix zH v0 v7).1 then inR v7 ((List.length v0):Int) (bif (ix zH v0 v7).2.2.2.2.2.2.2.2.2.1 == v2 then some (true,()) else k0 (v0,v1,v2,wI (v7 + 1))) else k0 (v0,v1,v2,wI (v7 + 1))) else some (false,())
abbrev zrr (K:Nat):zeG→Option (Bool × Unit):=zg zeH K
theorem zBw (K:Nat):∀ n,evV Es0 K Tryz.f166 0 (ch [.bool]) [1,0,1,0] [] zBv n = zg zeH n:=zo fun n0 (v0,v1,v2,v7)=>by kernel_rfl
def zoX (L0:zeG→Option (Bool × Unit)):((List zn) × (Int × (Int × Unit)))→Option (Bool × Unit):=fun (x0,x1,x2,()) =>
  L0 (x0,x1,x2,0)
def zko:((List zn) × Int × Int × Unit)→Option (Bool × Unit):=zoX (zrr K0)
abbrev zuX:Fun:=⟨166,(ch [(.sl zr),tI,tI]),(ch [.bool]),0,zko⟩
theorem zFB:Sq zuX:=ml0 (d:=false) (S:=fun K=>zoX (zrr K)) Tryz.func166 (by kernel_rfl) (fun K=>tr1 (T:=zoX) (zBw K K) fun (x0,x1,x2,())=>by kernel_rfl) rfl
def zdb:(Int × Unit)→Option (Bool × Unit):=fun (x0,()) =>
  bif decide (x0 ≥ 0) then bif decide (x0 < 128) then some (true,()) else some (false,()) else some (false,())
abbrev zuY:Fun:=⟨238,(ch [tI]),(ch [.bool]),0,zdb⟩
theorem zFC:Sq zuY:=ms0 (d:=false) (K:=0) Tryz.func238 (by kernel_rfl) (funext fun (x0,())=>by kernel_rfl)
def zga:(zI × (zI × Unit))→Option (Bool × Unit):=fun (x0,x1,()) =>
  bif decide (x0.1 > x1.1) then some (true,()) else bif x0.1 == x1.1 then bif decide (x0.2.1 > x1.2.1) then some (true,()) else some (false,()) else some (false,())
abbrev zpF:Fun:=⟨168,(ch [zy,zy]),(ch [.bool]),0,zga⟩
theorem zzE:Sq zpF:=ms0 (d:=false) (K:=0) Tryz.func168 (by kernel_rfl) (funext fun (x0,x1,())=>by kernel_rfl)
def zeI:(ze × (z7 × Unit))→Option (Bool × Unit):=fun (x0,x1,()) =>
  bif decide (x1.1 < 0) then some (false,()) else bif decide (x1.1 ≥ ((List.length x0.2.1):Int)) then some (false,()) else bif decide (x1.2.1 < 0) then some (false,()) else inR x1.1 ((List.length x0.2.1):Int) (bif decide (x1.2.1 ≥ ((List.length (ix za x0.2.1 x1.1).1):Int)) then some (false,()) else inR x1.1 ((List.length x0.2.1):Int) (inR x1.2.1 ((List.length (ix za x0.2.1 x1.1).1):Int) (bif (List.getD (ix za x0.2.1 x1.1).1 (Int.toNat x1.2.1) (zb qC)).1 then some (true,()) else some (false,()))))
abbrev zrs:Fun:=⟨67,(ch [zq,zY]),(ch [.bool]),0,zeI⟩
theorem zBx:Sq zrs:=ms0 (d:=false) (K:=0) Tryz.func67 (by kernel_rfl) (funext fun (x0,x1,())=>by kernel_rfl)
def ve:(zf × (Int × Unit))→Option (Bool × Unit):=fun (x0,x1,()) =>
  bif decide (x1 ≥ 0) then bif decide (x1 < ((List.length x0.2.2.1):Int)) then some (true,()) else some (false,()) else some (false,())
abbrev zuZ:Fun:=⟨68,(ch [zu,tI]),(ch [.bool]),0,ve⟩
theorem zFD:Sq zuZ:=ms0 (d:=false) (K:=0) Tryz.func68 (by kernel_rfl) (funext fun (x0,x1,())=>by kernel_rfl)
def qD:(z7 × Unit)→Option (Bool × Unit):=fun (x0,()) =>
  bif decide (x0.1 ≥ 0) then bif decide (x0.1 < 128) then bif decide (x0.2.1 ≥ 0) then bif decide (x0.2.1 < 128) then some (true,()) else some (false,()) else some (false,()) else some (false,()) else some (false,())
abbrev zrt:Fun:=⟨169,(ch [zY]),(ch [.bool]),0,qD⟩
theorem zBy:Sq zrt:=ms0 (d:=false) (K:=0) Tryz.func169 (by kernel_rfl) (funext fun (x0,())=>by kernel_rfl)
def zg0:(Int × Unit)→Option (Bool × Unit):=fun (x0,()) =>
  bif decide (x0 ≥ 0) then bif decide (x0 < 128) then some (true,()) else some (false,()) else some (false,())
abbrev zu0:Fun:=⟨170,(ch [tI]),(ch [.bool]),0,zg0⟩
theorem zFE:Sq zu0:=ms0 (d:=false) (K:=0) Tryz.func170 (by kernel_rfl) (funext fun (x0,())=>by kernel_rfl)
def ze3:(Int × Unit)→Option (Bool × Unit):=fun (x0,()) =>
  bif decide (x0 ≥ 0) then bif decide (x0 < 128) then some (true,()) else some (false,()) else some (false,())
abbrev zu1:Fun:=⟨171,(ch [tI]),(ch [.bool]),0,ze3⟩
theorem zFF:Sq zu1:=ms0 (d:=false) (K:=0) Tryz.func171 (by kernel_rfl) (funext fun (x0,())=>by kernel_rfl)
def zkp:(Int × Unit)→Option (Bool × Unit):=fun (x0,()) =>
  bif decide (x0 ≥ 32) then bif decide (x0 ≤ 126) then some (true,()) else some (false,()) else some (false,())
abbrev zu2:Fun:=⟨239,(ch [(.int .u8)]),(ch [.bool]),0,zkp⟩
theorem zFG:Sq zu2:=ms0 (d:=false) (K:=0) Tryz.func239 (by kernel_rfl) (funext fun (x0,())=>by kernel_rfl)
def jl:(Int × Unit)→Option (Bool × Unit):=fun (x0,()) =>
  bif decide (x0 ≥ 0) then bif decide (x0 < 128) then some (true,()) else some (false,()) else some (false,())
abbrev zu3:Fun:=⟨240,(ch [tI]),(ch [.bool]),0,jl⟩
theorem zFH:Sq zu3:=ms0 (d:=false) (K:=0) Tryz.func240 (by kernel_rfl) (funext fun (x0,())=>by kernel_rfl)
def jm:(zis × Unit)→Option (Bool × Unit):=fun (x0,()) =>
  bif decide (x0.1 ≥ 0) then bif decide (x0.1 < 4) then bif decide (x0.2.1 ≤ 4611686018427387904) then bif decide (x0.2.2.1 ≥ -1) then bif decide (x0.2.2.1 < 128) then some (true,()) else some (false,()) else some (false,()) else some (false,()) else some (false,()) else some (false,())
abbrev zu4:Fun:=⟨241,(ch [zdl]),(ch [.bool]),0,jm⟩
theorem zFI:Sq zu4:=ms0 (d:=false) (K:=0) Tryz.func241 (by kernel_rfl) (funext fun (x0,())=>by kernel_rfl)
def zhs:(zn × (Int × Unit))→Option (Int × Unit):=fun (x0,x1,()) =>
  bif x0.1 then bif x0.2.2.2.1 == 2 then bif x0.2.2.2.2.1 == x1 then some (x0.2.2.2.2.2.2.2.2.1,()) else bif x0.2.2.2.1 != 2 then bif x0.2.2.2.2.2.1 == x1 then some (x0.2.2.2.2.2.2.2.2.1,()) else some (0,()) else some (0,()) else bif x0.2.2.2.1 != 2 then bif x0.2.2.2.2.2.1 == x1 then some (x0.2.2.2.2.2.2.2.2.1,()) else some (0,()) else some (0,()) else some (0,())
abbrev zru:Fun:=⟨175,(ch [zr,tI]),(ch [tU]),0,zhs⟩
theorem zBz:Sq zru:=ms0 (d:=false) (K:=0) Tryz.func175 (by kernel_rfl) (funext fun (x0,x1,())=>by kernel_rfl)
def vJ:(Int × (Int × Unit))→Option (Int × (Int × Unit)):=fun (x0,x1,()) =>
  bif decide (x0 > 4611686018427387904) then some (0,7,()) else bif decide (x1 > wU (4611686018427387904 - x0)) then some (0,7,()) else some (wU (x0 + x1),0,())
abbrev ztf:Fun:=⟨80,(ch [tU,tU]),(ch [tU,tI]),0,vJ⟩
theorem zDU:Sq ztf:=ms0 (d:=false) (K:=0) Tryz.func80 (by kernel_rfl) (funext fun (x0,x1,())=>by kernel_rfl)
def zeJ:(Int × (Int × Unit))→Option (Int × (Int × Unit)):=fun (x0,x1,()) =>
  bif decide (x1 > x0) then some (0,6,()) else some (wU (x0 - x1),0,())
abbrev zrv:Fun:=⟨81,(ch [tU,tU]),(ch [tU,tI]),0,zeJ⟩
theorem zBA:Sq zrv:=ms0 (d:=false) (K:=0) Tryz.func81 (by kernel_rfl) (funext fun (x0,x1,())=>by kernel_rfl)
abbrev L1:List Fun:=zra :: zpm :: zit :: znF :: zkJ :: zsU :: zkK :: zsW :: zsX :: zjz :: zsY :: zgT :: zlE :: zsZ :: zs0 :: zmu :: zmv :: znG :: zjB :: ziz :: zjC :: zs3 :: zs4 :: zpt :: zjD :: zjE :: zxy :: zxz :: zjF :: zAS :: zs5 :: zgA :: zgV :: ziC :: zxA :: zs6 :: zs7 :: zpA :: zlF :: zAT :: zxB :: zrb :: zrc :: znH :: zjG :: ziD :: zjH :: ziE :: zlG :: zuR :: znI :: zkN :: znJ :: zkO :: zlH :: zkP :: zkQ :: zjI :: zmy :: znK :: zmz :: zmA :: ztc :: zmB :: zrd :: zuS :: zre :: zpB :: zpC :: ztd :: zmC :: zpD :: znL :: zmD :: znM :: znN :: znO :: znP :: zrf :: zpE :: zrh :: zrj :: zrk :: zuT :: zrl :: zte :: zrm :: zuU :: zuV :: zro :: zrp :: zrq :: zuW :: zuX :: zuY :: zpF :: zrs :: zuZ :: zrt :: zu0 :: zu1 :: zu2 :: zu3 :: zu4 :: zru :: ztf :: zrv :: L0
theorem h1:Sds Tryz.prog E0 L1:=⟨zBf,zzt,zqG,zxw,zsT,zDG,zsV,zDH,zDI,zse,zDJ,zoL,zup,zDK,zDL,zvQ,zvR,zxx,zsh,zqJ,zsi,zDM,zDN,zzy,zsj,zsk,zHD,zHE,zsl,zI7,zDO,zng,zoO,zqL,zHF,zDP,zDQ,zzz,zuq,zI8,zHG,zBg,zBh,zxC,zsm,zqM,zsn,zqN,zur,zFv,zxD,zs8,zxE,zs9,zus,zta,ztb,zso,zvS,zxF,zvT,zvU,zDR,zvV,zBi,zFw,zBj,zzA,zzB,zDS,zvW,zzC,zxG,zvX,zxH,zxI,zxJ,zxK,zBk,zzD,zBl,zBm,zBn,zFx,zBo,zDT,zBp,zFy,zFz,zBs,zBt,zBu,zFA,zFB,zFC,zzE,zBx,zFD,zBy,zFE,zFF,zFG,zFH,zFI,zBz,zDU,zBA,h0⟩
theorem ms1 {d:Bool} {F:Fun} {f:Go.Func} {K:Nat} (hf:Tryz.prog.funcs[F.id]? = some f) (ho:jY f = true) (h:evF (En E0 d L1) K f F.md F.a F.r = F.spec):Sd Tryz.prog E0 F:=mkS h1 hf ho h
theorem ml1 {d:Bool} {F:Fun} {f:Go.Func} {S:Nat→F.a.I→Option F.r.I} (hf:Tryz.prog.funcs[F.id]? = some f) (ho:jY f = true) (h:∀ K,evF (En E0 d L1) K f F.md F.a F.r = S K) (e:S K0 = F.spec):Sd Tryz.prog E0 F:=mkS h1 hf ho ((h K0).trans e)
abbrev Es1:Env:=En E0 false L1
abbrev Ed1:Env:=En E0 true L1
def zer:(zw × Unit)→Option (Bool × Unit):=fun (x0,()) =>
  Option.bind (zhj (x0,())) fun q0=>bif q0.1 then some (false,()) else some (true,())
abbrev zmE:Fun:=⟨224,(ch [zl]),(ch [.bool]),0,zer⟩
theorem zvY:Sq zmE:=ms1 (d:=false) (K:=0) Tryz.func224 (by kernel_rfl) (funext fun (x0,())=>by kernel_rfl)
def yh:((List zw) × ((Option ((zw × Unit)→Option (Bool × Unit))) × Unit))→Option (Bool × Unit):=fun (x0,x1,()) =>
  Option.bind (zap (x0,x1,())) fun q0=>bif decide (q0.1 ≥ 0) then some (true,()) else some (false,())
abbrev zgB:Fun:=⟨225,(ch [(.sl zl),(.fn (ch [zl]) (ch [.bool]))]),(ch [.bool]),0,yh⟩
theorem znh:Sq zgB:=ms1 (d:=false) (K:=0) Tryz.func225 (by kernel_rfl) (funext fun (x0,x1,())=>by kernel_rfl)
def zai:(Int × (Int × Unit))→Option (Int × Unit):=fun (x0,x1,()) =>
  Option.bind (yU (x0,())) fun q0=>bif q0.1 then Option.bind (yU (x1,())) fun q1=>bif q1.1 then some (0,()) else some ((-1),()) else Option.bind (yU (x1,())) fun q2=>bif q2.1 then some (1,()) else bif decide (x0 < x1) then some ((-1),()) else bif decide (x0 > x1) then some (1,()) else some (0,())
abbrev zlI:Fun:=⟨268,(ch [tI,tI]),(ch [tI]),0,zai⟩
theorem zut:Sq zlI:=ms1 (d:=false) (K:=0) Tryz.func268 (by kernel_rfl) (funext fun (x0,x1,())=>by kernel_rfl)
def vK:(Int × (Int × Unit))→Option (Int × Unit):=fun (x0,x1,()) =>
  Option.bind (vo (x0,())) fun q0=>bif q0.1 then Option.bind (vo (x1,())) fun q1=>bif q1.1 then some (0,()) else some ((-1),()) else Option.bind (vo (x1,())) fun q2=>bif q2.1 then some (1,()) else bif decide (x0 < x1) then some ((-1),()) else bif decide (x0 > x1) then some (1,()) else some (0,())
abbrev ziO:Fun:=⟨267,(ch [tU,tU]),(ch [tI]),0,vK⟩
theorem zqQ:Sq ziO:=ms1 (d:=false) (K:=0) Tryz.func267 (by kernel_rfl) (funext fun (x0,x1,())=>by kernel_rfl)
def zbS:(Int × ((Option zf) × Unit))→Option (Bool × Unit):=fun (x0,x1,()) =>
  Option.bind x1 fun q0=>Option.bind (qn (x0,0,wI (((List.length q0.1):Int) - 1),())) fun q1=>bif q1.1 then some (false,()) else some (true,())
abbrev znR:Fun:=⟨227,(ch [tI,(.ptr zu)]),(ch [.bool]),0,zbS⟩
theorem zxR:Sq znR:=ms1 (d:=false) (K:=0) Tryz.func227 (by kernel_rfl) (funext fun (x0,x1,())=>by kernel_rfl)
def qK:((List Int) × ((Option ((Int × Unit)→Option (Bool × Unit))) × Unit))→Option (Bool × Unit):=fun (x0,x1,()) =>
  Option.bind (zbI (x0,x1,())) fun q0=>bif decide (q0.1 ≥ 0) then some (true,()) else some (false,())
abbrev zid:Fun:=⟨191,(ch [(.sl tI),(.fn (ch [tI]) (ch [.bool]))]),(ch [.bool]),0,qK⟩
theorem zpG:Sq zid:=ms1 (d:=false) (K:=0) Tryz.func191 (by kernel_rfl) (funext fun (x0,x1,())=>by kernel_rfl)
def vf:((List Int) × ((Option ((Int × Unit)→Option (Bool × Unit))) × Unit))→Option (Bool × Unit):=fun (x0,x1,()) =>
  Option.bind (zbb (x0,x1,())) fun q0=>bif decide (q0.1 ≥ 0) then some (true,()) else some (false,())
abbrev zg1:Fun:=⟨281,(ch [(.sl (.int .u8)),(.fn (ch [(.int .u8)]) (ch [.bool]))]),(ch [.bool]),0,vf⟩
theorem zoY:Sq zg1:=ms1 (d:=false) (K:=0) Tryz.func281 (by kernel_rfl) (funext fun (x0,x1,())=>by kernel_rfl)
def zgb:(Int × Unit)→Option (Bool × Unit):=fun (x0,()) =>
  Option.bind (zfC (x0,())) fun q0=>bif q0.1 then some (true,()) else Option.bind (ziw (x0,())) fun q1=>bif q1.1 then some (true,()) else some (false,())
abbrev zpH:Fun:=⟨246,(ch [(.int .u8)]),(ch [.bool]),0,zgb⟩
theorem zzF:Sq zpH:=ms1 (d:=false) (K:=0) Tryz.func246 (by kernel_rfl) (funext fun (x0,())=>by kernel_rfl)
def zau:((List qs) × ((Option ((qs × Unit)→Option (Bool × Unit))) × Unit))→Option (Bool × Unit):=fun (x0,x1,()) =>
  Option.bind (yI (x0,x1,())) fun q0=>bif decide (q0.1 ≥ 0) then some (true,()) else some (false,())
abbrev zfi:Fun:=⟨229,(ch [(.sl qv),(.fn (ch [qv]) (ch [.bool]))]),(ch [.bool]),0,zau⟩
theorem zlX:Sq zfi:=ms1 (d:=false) (K:=0) Tryz.func229 (by kernel_rfl) (funext fun (x0,x1,())=>by kernel_rfl)
def zbj:((List zw) × (zw × Unit))→Option (Bool × Unit):=fun (x0,x1,()) =>
  Option.bind (zhL (x0,x1,())) fun q0=>bif decide (q0.1 ≥ 0) then some (true,()) else some (false,())
abbrev zjJ:Fun:=⟨232,(ch [(.sl zl),zl]),(ch [.bool]),0,zbj⟩
theorem zsp:Sq zjJ:=ms1 (d:=false) (K:=0) Tryz.func232 (by kernel_rfl) (funext fun (x0,x1,())=>by kernel_rfl)
def zes:(Int × Unit)→Option (Bool × Unit):=fun (x0,()) =>
  Option.bind (qn (x0,0,12,())) fun q0=>bif q0.1 then some (false,()) else some (true,())
abbrev zmF:Fun:=⟨234,(ch [tI]),(ch [.bool]),0,zes⟩
theorem zvZ:Sq zmF:=ms1 (d:=false) (K:=0) Tryz.func234 (by kernel_rfl) (funext fun (x0,())=>by kernel_rfl)
def yO:(zf × Unit)→Option (Bool × Unit):=fun (x0,()) =>
  Option.bind (qn (x0.2.2.2.2.2.1,0,24,())) fun q0=>bif q0.1 then Option.bind (qn (x0.2.2.2.2.2.2.1,0,48,())) fun q1=>bif q1.1 then Option.bind (qn (x0.2.2.2.2.2.2.2.1,1,4,())) fun q2=>bif q2.1 then Option.bind (qn (x0.2.2.2.2.2.2.2.2.1,1,16,())) fun q3=>bif q3.1 then some (true,()) else some (false,()) else some (false,()) else some (false,()) else some (false,())
abbrev ztg:Fun:=⟨156,(ch [zu]),(ch [.bool]),0,yO⟩
theorem zDV:Sq ztg:=ms1 (d:=false) (K:=0) Tryz.func156 (by kernel_rfl) (funext fun (x0,())=>by kernel_rfl)
def jT:((List zk) × ((Option ((zk × Unit)→Option (Bool × Unit))) × Unit))→Option (Bool × Unit):=fun (x0,x1,()) =>
  Option.bind (zaq (x0,x1,())) fun q0=>bif decide (q0.1 ≥ 0) then some (true,()) else some (false,())
abbrev zgC:Fun:=⟨176,(ch [(.sl zm),(.fn (ch [zm]) (ch [.bool]))]),(ch [.bool]),0,jT⟩
theorem zni:Sq zgC:=ms1 (d:=false) (K:=0) Tryz.func176 (by kernel_rfl) (funext fun (x0,x1,())=>by kernel_rfl)
def zdc:((List jD) × ((Option ((jD × Unit)→Option (Bool × Unit))) × Unit))→Option (Bool × Unit):=fun (x0,x1,()) =>
  Option.bind (zbd (x0,x1,())) fun q0=>bif decide (q0.1 ≥ 0) then some (true,()) else some (false,())
abbrev zg2:Fun:=⟨178,(ch [(.sl qC),(.fn (ch [qC]) (ch [.bool]))]),(ch [.bool]),0,zdc⟩
theorem zoZ:Sq zg2:=ms1 (d:=false) (K:=0) Tryz.func178 (by kernel_rfl) (funext fun (x0,x1,())=>by kernel_rfl)
def ziP:(qi × Unit)→Option (Bool × Unit):=fun (x0,()) =>
  bif x0.1 then Option.bind (zfE (x0.2.1,())) fun q0=>bif q0.1 then Option.bind (zfE (x0.2.2.1,())) fun q1=>bif q1.1 then Option.bind (ziA (x0.2.2.2.1,())) fun q2=>bif q2.1 then some (false,()) else some (true,()) else some (true,()) else some (true,()) else bif !eqI qb x0 (zb qb) then some (true,()) else some (false,())
abbrev zth:Fun:=⟨181,(ch [qb]),(ch [.bool]),0,ziP⟩
theorem zDW:Sq zth:=ms1 (d:=false) (K:=0) Tryz.func181 (by kernel_rfl) (funext fun (x0,())=>by kernel_rfl)
def ziQ:((List qi) × (z7 × (Int × Unit)))→Option (Int × Unit):=fun (x0,x1,x2,()) =>
  Option.bind (yn (x0,some fun z=>zf7 (z.1,some x1,some x2,()),())) fun q0=>some (q0.1,())
abbrev zti:Fun:=⟨182,(ch [(.sl qb),zY,tI]),(ch [tI]),0,ziQ⟩
theorem zDX:Sq zti:=ms1 (d:=false) (K:=0) Tryz.func182 (by kernel_rfl) (funext fun (x0,x1,x2,())=>by kernel_rfl)
def jo:((List qj) × ((Option ((qj × Unit)→Option (Bool × Unit))) × Unit))→Option (Bool × Unit):=fun (x0,x1,()) =>
  Option.bind (zbe (x0,x1,())) fun q0=>bif decide (q0.1 ≥ 0) then some (true,()) else some (false,())
abbrev zg3:Fun:=⟨183,(ch [(.sl zL),(.fn (ch [zL]) (ch [.bool]))]),(ch [.bool]),0,jo⟩
theorem zo0:Sq zg3:=ms1 (d:=false) (K:=0) Tryz.func183 (by kernel_rfl) (funext fun (x0,x1,())=>by kernel_rfl)
def zbT:(zzs × Unit)→Option (Bool × Unit):=fun (x0,()) =>
  bif x0.1 == 1 then Option.bind (zeh (x0.2.1,())) fun q0=>bif q0.1 then bif eqI zY x0.2.2.1 (zb zY) then some (true,()) else some (false,()) else some (false,()) else bif x0.1 == 3 then Option.bind (zeh (x0.2.1,())) fun q1=>bif q1.1 then bif eqI zY x0.2.2.1 (zb zY) then some (true,()) else some (false,()) else some (false,()) else bif x0.1 == 2 then bif x0.2.1 == 0 then Option.bind (zeh (x0.2.2.1.1,())) fun q2=>bif q2.1 then Option.bind (zeh (x0.2.2.1.2.1,())) fun q3=>bif q3.1 then some (true,()) else some (false,()) else some (false,()) else some (false,()) else some (false,())
abbrev zkR:Fun:=⟨254,(ch [zuf]),(ch [.bool]),0,zbT⟩
theorem ztj:Sq zkR:=ms1 (d:=false) (K:=0) Tryz.func254 (by kernel_rfl) (funext fun (x0,())=>by kernel_rfl)
def jp:((List qw) × ((Option ((qw × Unit)→Option (Bool × Unit))) × Unit))→Option (Bool × Unit):=fun (x0,x1,()) =>
  Option.bind (zbf (x0,x1,())) fun q0=>bif decide (q0.1 ≥ 0) then some (true,()) else some (false,())
abbrev zg4:Fun:=⟨185,(ch [(.sl qh),(.fn (ch [qh]) (ch [.bool]))]),(ch [.bool]),0,jp⟩
theorem zo1:Sq zg4:=ms1 (d:=false) (K:=0) Tryz.func185 (by kernel_rfl) (funext fun (x0,x1,())=>by kernel_rfl)
def zjY:(qw × Unit)→Option (Bool × Unit):=fun (x0,()) =>
  Option.bind (zic (x0.2.1,())) fun q0=>bif q0.1 then Option.bind (zic (x0.2.2.1,())) fun q1=>bif q1.1 then Option.bind (zic (x0.2.2.2.1,())) fun q2=>bif q2.1 then some (true,()) else some (false,()) else some (false,()) else some (false,())
abbrev zpI:Fun:=⟨256,(ch [qh]),(ch [.bool]),0,zjY⟩
theorem zzG:Sq zpI:=ms1 (d:=false) (K:=0) Tryz.func256 (by kernel_rfl) (funext fun (x0,())=>by kernel_rfl)
def zgc:(ByteArray × (ByteArray × Unit))→Option (ByteArray × Unit):=fun (x0,x1,()) =>
  bif ByteArray.toList x0 == ByteArray.toList (ByteArray.mk #[]) then some (x0,()) else bif ByteArray.toList x1 == ByteArray.toList (ByteArray.mk #[]) then some (x0,()) else bif (↑(ByteArray.size x1):Int) == 1 then bif decide (0 < (↑(ByteArray.size x1):Int)) then bif decide ((↑(UInt8.toNat (List.getD (Array.toList (ByteArray.data x1)) (Int.toNat 0) 0)):Int) < 128) then bif decide (0 < (↑(ByteArray.size x1):Int)) then Option.bind (zbm (x0,(↑(UInt8.toNat (List.getD (Array.toList (ByteArray.data x1)) (Int.toNat 0) 0)):Int),())) fun q0=>bif decide (0 < (↑(ByteArray.size x1):Int)) then Option.bind (zc7 (q0.1,(↑(UInt8.toNat (List.getD (Array.toList (ByteArray.data x1)) (Int.toNat 0) 0)):Int),())) fun q1=>some (q1.1,()) else none else none else none else none else none
abbrev zpJ:Fun:=⟨285,(ch [.str,.str]),(ch [.str]),0,zgc⟩
theorem zzH:Sq zpJ:=ms1 (d:=false) (K:=0) Tryz.func285 (by kernel_rfl) (funext fun (x0,x1,())=>by kernel_rfl)
def jc:((List zt) × ((Option ((zt × Unit)→Option (Bool × Unit))) × Unit))→Option (Bool × Unit):=fun (x0,x1,()) =>
  Option.bind (zar (x0,x1,())) fun q0=>bif decide (q0.1 ≥ 0) then some (true,()) else some (false,())
abbrev zgD:Fun:=⟨187,(ch [(.sl zz),(.fn (ch [zz]) (ch [.bool]))]),(ch [.bool]),0,jc⟩
theorem znj:Sq zgD:=ms1 (d:=false) (K:=0) Tryz.func187 (by kernel_rfl) (funext fun (x0,x1,())=>by kernel_rfl)
def zg5:(zis × Unit)→Option (Bool × Unit):=fun (x0,()) =>
  Option.bind (qU (x0.1,())) fun q0=>bif q0.1 then bif decide (x0.2.1 ≤ 4611686018427387904) then bif x0.2.2.1 == -1 then some (true,()) else Option.bind (zf8 (x0.2.2.1,())) fun q1=>bif q1.1 then some (true,()) else some (false,()) else some (false,()) else some (false,())
abbrev zu5:Fun:=⟨260,(ch [zdl]),(ch [.bool]),0,zg5⟩
theorem zFJ:Sq zu5:=ms1 (d:=false) (K:=0) Tryz.func260 (by kernel_rfl) (funext fun (x0,())=>by kernel_rfl)
def zfJ:(Int × (Int × Unit))→Option (Int × (Int × Unit)):=fun (x0,x1,()) =>
  Option.bind (zdm (x0,x1,())) fun q0=>bif q0.1 != 0 then some (0,7,()) else bif decide (q0.2.1 > 4611686018427387904) then some (0,7,()) else some (q0.2.1,0,())
abbrev ztk:Fun:=⟨286,(ch [tU,tU]),(ch [tU,tI]),0,zfJ⟩
theorem zDY:Sq ztk:=ms1 (d:=false) (K:=0) Tryz.func286 (by kernel_rfl) (funext fun (x0,x1,())=>by kernel_rfl)
def zet:(zn × ((Option qT) × Unit))→Option (Bool × Unit):=fun (x0,x1,()) =>
  bif x0.1 then Option.bind x1 fun q0=>Option.bind (zbq (q0,x0.2.1,())) fun q1=>bif q1.1 then Option.bind x1 fun q2=>Option.bind (qV (q2,x0.2.2.1,())) fun q3=>bif q3.1 then Option.bind x1 fun q4=>bif decide (x0.2.2.2.2.2.2.2.2.2.1 < ((List.length q4.2.1.2.2.2.2.1):Int)) then some (true,()) else some (false,()) else some (false,()) else some (false,()) else some (true,())
abbrev zmG:Fun:=⟨94,(ch [zr,(.ptr qk)]),(ch [.bool]),0,zet⟩
theorem zv0:Sq zmG:=ms1 (d:=false) (K:=0) Tryz.func94 (by kernel_rfl) (funext fun (x0,x1,())=>by kernel_rfl)
def jU:((List zn) × ((Option ((zn × Unit)→Option (Bool × Unit))) × Unit))→Option (Bool × Unit):=fun (x0,x1,()) =>
  Option.bind (zas (x0,x1,())) fun q0=>bif decide (q0.1 ≥ 0) then some (true,()) else some (false,())
abbrev zgE:Fun:=⟨195,(ch [(.sl zr),(.fn (ch [zr]) (ch [.bool]))]),(ch [.bool]),0,jU⟩
theorem znk:Sq zgE:=ms1 (d:=false) (K:=0) Tryz.func195 (by kernel_rfl) (funext fun (x0,x1,())=>by kernel_rfl)
def zaP:(zI × ((Option qT) × Unit))→Option (Bool × Unit):=fun (x0,x1,()) =>
  Option.bind x1 fun q0=>bif decide (x0.2.1 < ((List.length q0.1.2.1):Int)) then Option.bind x1 fun q1=>inR x0.2.1 ((List.length q1.1.2.1):Int) (bif x0.2.2.1 == ix (0:Int) q1.1.2.1 x0.2.1 then Option.bind x1 fun q2=>Option.bind (qV (q2,x0.2.2.2.1,())) fun q3=>bif q3.1 then Option.bind x1 fun q4=>bif decide (x0.1 ≤ q4.2.1.1) then some (true,()) else some (false,()) else some (false,()) else some (false,())) else some (false,())
abbrev zmH:Fun:=⟨98,(ch [zy,(.ptr qk)]),(ch [.bool]),0,zaP⟩
theorem zv1:Sq zmH:=ms1 (d:=false) (K:=0) Tryz.func98 (by kernel_rfl) (funext fun (x0,x1,())=>by kernel_rfl)
def jV:((List zI) × ((Option ((zI × Unit)→Option (Bool × Unit))) × Unit))→Option (Bool × Unit):=fun (x0,x1,()) =>
  Option.bind (zat (x0,x1,())) fun q0=>bif decide (q0.1 ≥ 0) then some (true,()) else some (false,())
abbrev zgF:Fun:=⟨197,(ch [(.sl zy),(.fn (ch [zy]) (ch [.bool]))]),(ch [.bool]),0,jV⟩
theorem znl:Sq zgF:=ms1 (d:=false) (K:=0) Tryz.func197 (by kernel_rfl) (funext fun (x0,x1,())=>by kernel_rfl)
def vi:(Int × ((Option qT) × Unit))→Option (Bool × Unit):=fun (x0,x1,()) =>
  bif x0 == -1 then some (true,()) else Option.bind x1 fun q0=>Option.bind (qV (q0,x0,())) fun q1=>bif q1.1 then some (true,()) else some (false,())
abbrev zmI:Fun:=⟨100,(ch [tI,(.ptr qk)]),(ch [.bool]),0,vi⟩
theorem zv2:Sq zmI:=ms1 (d:=false) (K:=0) Tryz.func100 (by kernel_rfl) (funext fun (x0,x1,())=>by kernel_rfl)
def zg6:(qT × (Int × (Int × Unit)))→Option (Bool × Unit):=fun (x0,x1,x2,()) =>
  Option.bind (zbq (x0,x1,())) fun q0=>bif q0.1 then Option.bind (zbq (x0,x2,())) fun q1=>bif q1.1 then inR x1 ((List.length x0.1.1):Int) (inR x2 ((List.length x0.1.1):Int) (Option.bind (ze0 (ix qN x0.1.1 x1,ix qN x0.1.1 x2,())) fun q2=>bif q2.1 then some (true,()) else some (false,()))) else some (false,()) else some (false,())
abbrev zu6:Fun:=⟨110,(ch [qk,tI,tI]),(ch [.bool]),0,zg6⟩
theorem zFK:Sq zu6:=ms1 (d:=false) (K:=0) Tryz.func110 (by kernel_rfl) (funext fun (x0,x1,x2,())=>by kernel_rfl)
def vg:((List qi) × ((Option ((qi × Unit)→Option (Bool × Unit))) × Unit))→Option (Bool × Unit):=fun (x0,x1,()) =>
  Option.bind (yn (x0,x1,())) fun q0=>bif decide (q0.1 ≥ 0) then some (true,()) else some (false,())
abbrev zg7:Fun:=⟨201,(ch [(.sl qb),(.fn (ch [qb]) (ch [.bool]))]),(ch [.bool]),0,vg⟩
theorem zo2:Sq zg7:=ms1 (d:=false) (K:=0) Tryz.func201 (by kernel_rfl) (funext fun (x0,x1,())=>by kernel_rfl)
def vw:((List z7) × ((Option ((z7 × Unit)→Option (Bool × Unit))) × Unit))→Option (Bool × Unit):=fun (x0,x1,()) =>
  Option.bind (zbM (x0,x1,())) fun q0=>bif decide (q0.1 ≥ 0) then some (true,()) else some (false,())
abbrev zie:Fun:=⟨204,(ch [(.sl zY),(.fn (ch [zY]) (ch [.bool]))]),(ch [.bool]),0,vw⟩
theorem zpK:Sq zie:=ms1 (d:=false) (K:=0) Tryz.func204 (by kernel_rfl) (funext fun (x0,x1,())=>by kernel_rfl)
def zaQ:(qj × ((Option qT) × Unit))→Option (Bool × Unit):=fun (x0,x1,()) =>
  bif x0.2.2.1 != 1 then some (true,()) else Option.bind x1 fun q0=>Option.bind (qV (q0,x0.2.2.2.1,())) fun q1=>bif q1.1 then some (true,()) else some (false,())
abbrev zmJ:Fun:=⟨107,(ch [zL,(.ptr qk)]),(ch [.bool]),0,zaQ⟩
theorem zv3:Sq zmJ:=ms1 (d:=false) (K:=0) Tryz.func107 (by kernel_rfl) (funext fun (x0,x1,())=>by kernel_rfl)
def qH:(zt × ((Option qT) × Unit))→Option (Bool × Unit):=fun (x0,x1,()) =>
  bif x0.1 then Option.bind x1 fun q0=>Option.bind (qV (q0,x0.2.1,())) fun q1=>bif q1.1 then Option.bind x1 fun q2=>Option.bind (qV (q2,x0.2.2.1,())) fun q3=>bif q3.1 then some (true,()) else some (false,()) else some (false,()) else some (true,())
abbrev zmK:Fun:=⟨112,(ch [zz,(.ptr qk)]),(ch [.bool]),0,qH⟩
theorem zv4:Sq zmK:=ms1 (d:=false) (K:=0) Tryz.func112 (by kernel_rfl) (funext fun (x0,x1,())=>by kernel_rfl)
def yx:((List zt) × ((Option ((zt × Unit)→Option (Bool × Unit))) × Unit))→Option ((Option zbH) × Unit):=fun (x0,x1,()) =>
  bif Option.isNone x1 then some (none,()) else Option.bind (zen (x0,())) fun q0=>some (some (q0.1,x1,()),())
abbrev zmL:Fun:=⟨113,(ch [(.sl zz),(.fn (ch [zz]) (ch [.bool]))]),(ch [(.ptr vF)]),0,yx⟩
theorem zv5:Sq zmL:=ms1 (d:=false) (K:=0) Tryz.func113 (by kernel_rfl) (funext fun (x0,x1,())=>by kernel_rfl)
def vL:((Option zbH) × (Int × Unit))→Option (Bool × Unit):=fun (x0,x1,()) =>
  Option.bind (zeo (x0,())) fun q0=>bif q0.1 then bif decide (x1 ≥ 0) then Option.bind x0 fun q1=>bif decide (x1 < ((List.length q1.1):Int)) then Option.bind x0 fun q2=>Option.bind x0 fun q3=>inR x1 ((List.length q3.1):Int) (Option.bind q2.2.1 fun q4=>Option.bind (q4 (ix zV q3.1 x1,())) fun q5=>bif q5.1 then some (true,()) else some (false,())) else some (false,()) else some (false,()) else some (false,())
abbrev znS:Fun:=⟨115,(ch [(.ptr vF),tI]),(ch [.bool]),0,vL⟩
theorem zxS:Sq znS:=ms1 (d:=false) (K:=0) Tryz.func115 (by kernel_rfl) (funext fun (x0,x1,())=>by kernel_rfl)
def zhP:((List zn) × ((Option ((zn × Unit)→Option (Bool × Unit))) × Unit))→Option ((Option zed) × Unit):=fun (x0,x1,()) =>
  bif Option.isNone x1 then some (none,()) else Option.bind (zep (x0,())) fun q0=>some (some (q0.1,x1,()),())
abbrev zmM:Fun:=⟨272,(ch [(.sl zr),(.fn (ch [zr]) (ch [.bool]))]),(ch [(.ptr yH)]),0,zhP⟩
theorem zv6:Sq zmM:=ms1 (d:=false) (K:=0) Tryz.func272 (by kernel_rfl) (funext fun (x0,x1,())=>by kernel_rfl)
def zfj:((Option zed) × (Int × Unit))→Option (Bool × Unit):=fun (x0,x1,()) =>
  Option.bind (zeq (x0,())) fun q0=>bif q0.1 then bif decide (x1 ≥ 0) then Option.bind x0 fun q1=>bif decide (x1 < ((List.length q1.1):Int)) then Option.bind x0 fun q2=>Option.bind x0 fun q3=>inR x1 ((List.length q3.1):Int) (Option.bind q2.2.1 fun q4=>Option.bind (q4 (ix zH q3.1 x1,())) fun q5=>bif q5.1 then some (true,()) else some (false,())) else some (false,()) else some (false,()) else some (false,())
abbrev znT:Fun:=⟨275,(ch [(.ptr yH),tI]),(ch [.bool]),0,zfj⟩
theorem zxT:Sq znT:=ms1 (d:=false) (K:=0) Tryz.func275 (by kernel_rfl) (funext fun (x0,x1,())=>by kernel_rfl)
end
end Go.Proofs.YtokcjmkikhgkeaaGreatDoor
end
section
namespace Go.Proofs.YtokcjmkikhgkeaaGreatDoor
open Go.Ev
noncomputable section
abbrev zfK:Type:=Int × (List Int) × Int × Int
abbrev zDZ:zfK→St:=fun (v4,v9,v10,v11)=>St.mk [(4,.dat tU v4),(9,.dat (.sl tU) v9),(10,.dat tI v10),(11,.dat tI v11)] []
def zfL (k0:zfK→Option (Int × (Int × Unit))):zfK→Option (Int × (Int × Unit)):=fun (v4,v9,v10,v11) =>
  bif decide (v11 < v10) then inR v11 ((List.length v9):Int) (Option.bind (ze1 (v4,ix (0:Int) v9 v11,())) fun q0=>bif q0.2.1 != 0 then some (0,q0.2.1,()) else k0 (q0.1,v9,v10,wI (v11 + 1))) else some (v4,0,())
abbrev ztl (K:Nat):zfK→Option (Int × (Int × Unit)):=zg zfL K
theorem zD0 (K:Nat):∀ n,evV Es1 K Tryz.f44 0 (ch [tU,tI]) [1,1,0,1,0] [] zDZ n = zg zfL n:=zo fun n0 (v4,v9,v10,v11)=>by kernel_rfl
def zqR (L0:zfK→Option (Int × (Int × Unit))):((List Int) × Unit)→Option (Int × (Int × Unit)):=fun (x0,()) =>
  L0 (0,x0,((List.length x0):Int),0)
def zgd:((List Int) × Unit)→Option (Int × Int × Unit):=zqR (ztl K0)
abbrev zxU:Fun:=⟨44,(ch [(.sl tU)]),(ch [tU,tI]),0,zgd⟩
theorem zHH:Sq zxU:=ml1 (d:=false) (S:=fun K=>zqR (ztl K)) Tryz.func44 (by kernel_rfl) (fun K=>tr1 (T:=zqR) (zD0 K K) fun (x0,())=>by kernel_rfl) rfl
abbrev zbU:Type:=Int × Int × Int × Int × List zk × Nat × List (List Int) × Nat × List zn × List zI × List Int × List zk × Nat × List (List Int) × Nat × List zn × List zI × List Int
abbrev znU:zbU→St:=fun (v44,v45,o0_0,o1_0,o2,c2,o3,c3,o4,o5,o6,o7,c7,o8,c8,o9,o10,o11)=>St.mk [(1,.bp 0 []),(2,.bp 1 []),(43,.ow 2),(44,.dat tI v44),(45,.dat tI v45)] [.bx (.fld (.pair tU (.pair (.sl zm) (.pair (.sl (.sl tI)) (.pair (.sl zr) (.pair (.sl zy) (.pair (.sl tI) .unit)))))) [.dat tU o0_0,.ow 2,.ow 3,.ow 4,.ow 5,.ow 6]) false,.bx (.fld (.pair tU (.pair (.sl zm) (.pair (.sl (.sl tI)) (.pair (.sl zr) (.pair (.sl zy) (.pair (.sl tI) .unit)))))) [.dat tU o1_0,.ow 7,.ow 8,.ow 9,.ow 10,.ow 11]) false,.drow zm o2 c2,.drow (.sl tI) o3 c3,.row zr o4 false,.row zy o5 false,.row tI o6 false,.drow zm o7 c7,.drow (.sl tI) o8 c8,.row zr o9 false,.row zy o10 false,.row tI o11 false]
abbrev zbV:Type:=Int × Int × Int × (List zk) × Int × List (List Int) × Nat × List zn × List zI × List Int × List zk × Nat × List (List Int) × Nat × List zn × List zI × List Int
abbrev zxV:zbV→St:=fun (v25,v26,o0_0,o0_1,o1_0,o2,c2,o3,o4,o5,o6,c6,o7,c7,o8,o9,o10)=>St.mk [(1,.bp 0 []),(2,.bp 1 []),(24,.ow 2),(25,.dat tI v25),(26,.dat tI v26)] [.bx (.fld (.pair tU (.pair (.sl zm) (.pair (.sl (.sl tI)) (.pair (.sl zr) (.pair (.sl zy) (.pair (.sl tI) .unit)))))) [.dat tU o0_0,.dat (.sl zm) o0_1,.ow 2,.ow 3,.ow 4,.ow 5]) false,.bx (.fld (.pair tU (.pair (.sl zm) (.pair (.sl (.sl tI)) (.pair (.sl zr) (.pair (.sl zy) (.pair (.sl tI) .unit)))))) [.dat tU o1_0,.ow 6,.ow 7,.ow 8,.ow 9,.ow 10]) false,.drow (.sl tI) o2 c2,.row zr o3 false,.row zy o4 false,.row tI o5 false,.drow zm o6 c6,.drow (.sl tI) o7 c7,.row zr o8 false,.row zy o9 false,.row tI o10 false]
def zbW (k1:zbU→Option (ze × Unit)):zbU→Option (ze × Unit):=fun (v44,v45,o0_0,o1_0,o2,c2,o3,c3,o4,o5,o6,o7,c7,o8,c8,o9,o10,o11) =>
  bif decide (v45 < v44) then inR v45 ((List.length o2):Int) (bif decide (c2 ≤ Int.toNat v45) then Option.bind (ziI ((ix za o2 v45).1,())) fun q6=>Option.bind (ziJ ((ix za o2 v45).2.1,())) fun q7=>Option.bind (ziK ((ix za o2 v45).2.2.1,())) fun q8=>Option.bind (ziL ((ix za o2 v45).2.2.2.1,())) fun q9=>Option.bind (zen ((ix za o2 v45).2.2.2.2.1,())) fun q10=>Option.bind (zk5 ((ix za o2 v45).2.2.2.2.2.1,())) fun q11=>Option.bind (zjX ((ix za o2 v45).2.2.2.2.2.2.1,())) fun q12=>inR v45 ((List.length o2):Int) (bif decide (Int.toNat v45 = c2) then k1 (v44,wI (v45 + 1),o0_0,o1_0,List.set o2 (Int.toNat v45) (q6.1,q7.1,q8.1,q9.1,q10.1,q11.1,q12.1,(ix za o2 v45).2.2.2.2.2.2.2.1,(ix za o2 v45).2.2.2.2.2.2.2.2.1,()),c2 + 1,o3,c3,o4,o5,o6,o7,c7,o8,c8,o9,o10,o11) else none) else none) else bif decide (c2 = List.length o2) then bif decide (c3 = List.length o3) then some ((o0_0,o2,o3,o4,o5,o6,()),()) else none else none
abbrev zbX (K:Nat):zbU→Option (ze × Unit):=zg zbW K
theorem zxW (K:Nat):∀ n,evV Ed1 K Tryz.f49 3 (ch [zq]) [1,1,1,1,1,0,1,0] [] znU n = zg zbW n:=zo fun n1 (v44,v45,o0_0,o1_0,o2,c2,o3,c3,o4,o5,o6,o7,c7,o8,c8,o9,o10,o11)=>by kernel_rfl
def yV (L1:zbU→Option (ze × Unit)) (k0:zbV→Option (ze × Unit)):zbV→Option (ze × Unit):=fun (v25,v26,o0_0,o0_1,o1_0,o2,c2,o3,o4,o5,o6,c6,o7,c7,o8,o9,o10) =>
  bif decide (v26 < v25) then inR v26 ((List.length o2):Int) (bif decide (c2 ≤ Int.toNat v26) then Option.bind (zf9 (List.getD o2 (Int.toNat v26) ([]:List Int),())) fun q4=>inR v26 ((List.length o2):Int) (bif decide (Int.toNat v26 = c2) then k0 (v25,wI (v26 + 1),o0_0,o0_1,o1_0,List.set o2 (Int.toNat v26) q4.1,c2 + 1,o3,o4,o5,o6,c6,o7,c7,o8,o9,o10) else none) else none) else Option.bind (zhO (o0_1,())) fun q5=>L1 (((List.length q5.1):Int),0,o0_0,o1_0,q5.1,0,o2,c2,o3,o4,o5,o6,c6,o7,c7,o8,o9,o10)
abbrev ziR (K:Nat):zbV→Option (ze × Unit):=zg (fun k0=>yV (zbX K) k0) K
theorem zxX (K:Nat):∀ n,evV Ed1 K Tryz.f49 3 (ch [zq]) [1,1,1,0,1,0] [] zxV n = zg (fun k0=>yV (zbX K) k0) n:=qJ (B:=fun L1 k0=>yV L1 k0) (V1:=fun n0=>evV Ed1 K Tryz.f49 3 (ch [zq]) [1,1,1,1,1,0,1,0] [] znU K) (W1:=fun k0=>(zbX K)) (fun n0=>zxW K K) fun n0 (v25,v26,o0_0,o0_1,o1_0,o2,c2,o3,o4,o5,o6,c6,o7,c7,o8,o9,o10)=>by kernel_rfl
def zht (L0:zbV→Option (ze × Unit)):(ze × Unit)→Option (ze × Unit):=fun (x0,()) =>
  Option.bind (zep (x0.2.2.2.1,())) fun q0=>Option.bind (zhN (x0.2.2.2.2.1,())) fun q1=>Option.bind (zf9 (x0.2.2.2.2.2.1,())) fun q2=>Option.bind (ziH (x0.2.2.1,())) fun q3=>L0 (((List.length q3.1):Int),0,x0.1,x0.2.1,0,q3.1,0,q0.1,q1.1,q2.1,[],0,[],0,[],[],[])
def qE:(ze × Unit)→Option (ze × Unit):=zht (ziR K0)
abbrev zrw:Fun:=⟨49,(ch [zq]),(ch [zq]),3,qE⟩
theorem zBB:Sq zrw:=ml1 (d:=true) (S:=fun K=>zht (ziR K)) Tryz.func49 (by kernel_rfl) (fun K=>tr1 (T:=zht) (zxX K K) fun (x0,())=>by kernel_rfl) rfl
def zeK:((List Int) × (Int × (Int × ((Option ((Int × (Int × Unit))→Option (Int × (Int × Unit)))) × Unit))))→Option ((List Int) × (Int × Unit)):=fun (x0,x1,x2,x3,()) =>
  Option.bind (qU (x1,())) fun q0=>bif q0.1 then inR x1 (↑4:Int) (Option.bind x3 fun q1=>Option.bind (q1 (ix (0:Int) x0 x1,x2,())) fun q2=>bif q2.2.1 != 0 then some ([0,0,0,0],q2.2.1,()) else inR x1 (↑4:Int) (some (List.set x0 (Int.toNat x1) q2.1,0,()))) else some ([0,0,0,0],1,())
abbrev zrx:Fun:=⟨149,(ch [(.arr 4 tU),tI,tU,(.fn (ch [tU,tU]) (ch [tU,tI]))]),(ch [(.arr 4 tU),tI]),0,zeK⟩
theorem zBC:Sq zrx:=ms1 (d:=false) (K:=0) Tryz.func149 (by kernel_rfl) (funext fun (x0,x1,x2,x3,())=>by kernel_rfl)
abbrev zaR:Type:=(List zw) × Int
abbrev zv7:zaR→St:=fun (v0,v3)=>St.mk [(0,.dat (.sl zl) v0),(3,.dat tI v3)] []
def zeu (k0:zaR→Option (Bool × Unit)):zaR→Option (Bool × Unit):=fun (v0,v3) =>
  bif decide (v3 < ((List.length v0):Int)) then inR v3 ((List.length v0):Int) (Option.bind (zhm (ix qN v0 v3,())) fun q0=>bif q0.1 then inR (wI (v3 - 1)) ((List.length v0):Int) (inR v3 ((List.length v0):Int) (Option.bind (zkn (List.getD v0 (Int.toNat (wI (v3 - 1))) (zb zl),ix qN v0 v3,())) fun q1=>bif decide (q1.1 ≥ 0) then some (false,()) else k0 (v0,wI (v3 + 1)))) else some (false,())) else some (true,())
abbrev zhQ (K:Nat):zaR→Option (Bool × Unit):=zg zeu K
theorem zv8 (K:Nat):∀ n,evV Es1 K Tryz.f60 0 (ch [.bool]) [1,1,0,1,0] [] zv7 n = zg zeu n:=zo fun n0 (v0,v3)=>by kernel_rfl
def zge (L0:zaR→Option (Bool × Unit)):((List zw) × Unit)→Option (Bool × Unit):=fun (x0,()) =>
  bif decide (((List.length x0):Int) < 1) then some (false,()) else bif decide (((List.length x0):Int) > 8) then some (false,()) else bif decide (0 < ((List.length x0):Int)) then bif !eqI zl (ix qN x0 0) (zb zl) then some (false,()) else L0 (x0,1) else none
def zgf:((List zw) × Unit)→Option (Bool × Unit):=zge (zhQ K0)
abbrev zpL:Fun:=⟨60,(ch [(.sl zl)]),(ch [.bool]),0,zgf⟩
theorem zzI:Sq zpL:=ml1 (d:=false) (S:=fun K=>zge (zhQ K)) Tryz.func60 (by kernel_rfl) (fun K=>tr1 (T:=zge) (zv8 K K) fun (x0,())=>by kernel_rfl) rfl
abbrev yP:Type:=(List qs) × Int × Int
abbrev zkS:yP→St:=fun (v0,v3,v4)=>St.mk [(0,.dat (.sl qv) v0),(3,.dat tI v3),(4,.dat tI v4)] []
abbrev jL:Type:=(List qs) × Int
abbrev zkT:jL→St:=fun (v0,v3)=>St.mk [(0,.dat (.sl qv) v0),(3,.dat tI v3)] []
def zbY (k0:jL→Option (Bool × Unit)) (k1:yP→Option (Bool × Unit)):yP→Option (Bool × Unit):=fun (v0,v3,v4) =>
  bif decide (v4 < v3) then inR v4 ((List.length v0):Int) (inR v3 ((List.length v0):Int) (bif ByteArray.toList (ix qG v0 v4).1 == ByteArray.toList (ix qG v0 v3).1 then some (false,()) else k1 (v0,v3,wI (v4 + 1)))) else k0 (v0,wI (v3 + 1))
abbrev zbZ (K:Nat) (k0:jL→Option (Bool × Unit)):yP→Option (Bool × Unit):=zg (fun k1=>zbY k0 k1) K
theorem ztm (K:Nat) (n0:Nat):∀ n,evV Es1 K Tryz.f61 0 (ch [.bool]) [1,1,0,1,0,0,1,0,0,1,1,0] [n0] zkS n = zg (fun k1=>zbY (evV Es1 K Tryz.f61 0 (ch [.bool]) [1,1,0,1,0] [] zkT n0) k1) n:=zo fun n1 (v0,v3,v4)=>by kernel_rfl
def yQ (L1:yP→Option (Bool × Unit)) (k0:jL→Option (Bool × Unit)):jL→Option (Bool × Unit):=fun (v0,v3) =>
  bif decide (v3 < ((List.length v0):Int)) then inR v3 ((List.length v0):Int) (Option.bind (zA ((ix qG v0 v3).1,())) fun q0=>bif q0.1 then inR v3 ((List.length v0):Int) (Option.bind (zA ((ix qG v0 v3).2.1,())) fun q1=>bif q1.1 then inR v3 ((List.length v0):Int) (bif decide ((ix qG v0 v3).2.2.1 < 0) then some (false,()) else inR v3 ((List.length v0):Int) (bif decide ((ix qG v0 v3).2.2.1 > 3) then some (false,()) else L1 (v0,v3,0))) else some (false,())) else some (false,())) else some (true,())
abbrev zfM (K:Nat):jL→Option (Bool × Unit):=zg (fun k0=>yQ (zbZ K k0) k0) K
theorem ztn (K:Nat):∀ n,evV Es1 K Tryz.f61 0 (ch [.bool]) [1,1,0,1,0] [] zkT n = zg (fun k0=>yQ (zbZ K k0) k0) n:=qJ (B:=fun L1 k0=>yQ L1 k0) (V1:=fun n0=>evV Es1 K Tryz.f61 0 (ch [.bool]) [1,1,0,1,0,0,1,0,0,1,1,0] [n0] zkS K) (W1:=fun k0=>(zbZ K k0)) (fun n0=>ztm K n0 K) fun n0 (v0,v3)=>by kernel_rfl
def zev (L0:jL→Option (Bool × Unit)):((List qs) × Unit)→Option (Bool × Unit):=fun (x0,()) =>
  bif decide (((List.length x0):Int) < 1) then some (false,()) else bif decide (((List.length x0):Int) > 8) then some (false,()) else L0 (x0,0)
def zew:((List qs) × Unit)→Option (Bool × Unit):=zev (zfM K0)
abbrev zmN:Fun:=⟨61,(ch [(.sl qv)]),(ch [.bool]),0,zew⟩
theorem zv9:Sq zmN:=ml1 (d:=false) (S:=fun K=>zev (zfM K)) Tryz.func61 (by kernel_rfl) (fun K=>tr1 (T:=zev) (ztn K K) fun (x0,())=>by kernel_rfl) rfl
abbrev zaS:Type:=(List z7) × (List zw) × Int × Int
abbrev zmO:zaS→St:=fun (v0,v1,v8,v9)=>St.mk [(0,.dat (.sl yk) v0),(1,.dat (.sl zl) v1),(8,.dat tI v8),(9,.dat tI v9)] []
abbrev vj:Type:=(List z7) × (List zw) × Int
abbrev zhR:vj→St:=fun (v0,v1,v8)=>St.mk [(0,.dat (.sl yk) v0),(1,.dat (.sl zl) v1),(8,.dat tI v8)] []
abbrev zaT:Type:=(List z7) × (List zw) × Int × Int
abbrev zwa:zaT→St:=fun (v0,v1,v2,v7)=>St.mk [(0,.dat (.sl yk) v0),(1,.dat (.sl zl) v1),(2,.dat tI v2),(7,.dat tI v7)] []
def yz (k1:vj→Option (Bool × Unit)) (k2:zaS→Option (Bool × Unit)):zaS→Option (Bool × Unit):=fun (v0,v1,v8,v9) =>
  bif decide (v9 < 64) then inR v8 ((List.length v1):Int) (Option.bind (ze2 (ix qN v1 v8,v9,())) fun q4=>bif q4.1 then Option.bind (zoW (v0,v9,())) fun q5=>bif q5.1 then k2 (v0,v1,v8,wI (v9 + 1)) else some (false,()) else k2 (v0,v1,v8,wI (v9 + 1))) else k1 (v0,v1,wI (v8 + 1))
abbrev zhS (K:Nat) (k1:vj→Option (Bool × Unit)):zaS→Option (Bool × Unit):=zg (fun k2=>yz k1 k2) K
theorem zwb (K:Nat) (n1:Nat):∀ n,evV Es1 K Tryz.f62 0 (ch [.bool]) [1,1,1,0,1,0,0,1,0,0,1,0] [n1] zmO n = zg (fun k2=>yz (evV Es1 K Tryz.f62 0 (ch [.bool]) [1,1,1,0,1,0] [] zhR n1) k2) n:=zo fun n2 (v0,v1,v8,v9)=>by kernel_rfl
def zaU (L2:zaS→Option (Bool × Unit)) (k1:vj→Option (Bool × Unit)):vj→Option (Bool × Unit):=fun (v0,v1,v8) =>
  bif decide (v8 < ((List.length v1):Int)) then L2 (v0,v1,v8,0) else some (true,())
abbrev zex (K:Nat):vj→Option (Bool × Unit):=zg (fun k1=>zaU (zhS K k1) k1) K
theorem zwc (K:Nat):∀ n,evV Es1 K Tryz.f62 0 (ch [.bool]) [1,1,1,0,1,0] [] zhR n = zg (fun k1=>zaU (zhS K k1) k1) n:=qJ (B:=fun L2 k1=>zaU L2 k1) (V1:=fun n1=>evV Es1 K Tryz.f62 0 (ch [.bool]) [1,1,1,0,1,0,0,1,0,0,1,0] [n1] zmO K) (W1:=fun k1=>(zhS K k1)) (fun n1=>zwb K n1 K) fun n1 (v0,v1,v8)=>by kernel_rfl
def zaV (L1:vj→Option (Bool × Unit)) (k0:zaT→Option (Bool × Unit)):zaT→Option (Bool × Unit):=fun (v0,v1,v2,v7) =>
  bif decide (v7 < ((List.length v0):Int)) then inR v7 ((List.length v0):Int) (bif decide ((ix qz v0 v7).1 < 0) then some (false,()) else inR v7 ((List.length v0):Int) (bif decide ((ix qz v0 v7).1 > 63) then some (false,()) else inR v7 ((List.length v0):Int) (bif decide ((ix qz v0 v7).2.1 < 0) then some (false,()) else inR v7 ((List.length v0):Int) (bif decide ((ix qz v0 v7).2.1 ≥ v2) then some (false,()) else bif decide (v7 > 0) then inR (wI (v7 - 1)) ((List.length v0):Int) (inR v7 ((List.length v0):Int) (bif decide ((List.getD v0 (Int.toNat (wI (v7 - 1))) (zb yk)).1 ≥ (ix qz v0 v7).1) then some (false,()) else inR v7 ((List.length v0):Int) (Option.bind (zfI ((ix qz v0 v7).1,())) fun q0=>Option.bind (zho (v1,q0.1,())) fun q1=>bif decide (q1.1 < 0) then some (false,()) else k0 (v0,v1,v2,wI (v7 + 1))))) else inR v7 ((List.length v0):Int) (Option.bind (zfI ((ix qz v0 v7).1,())) fun q2=>Option.bind (zho (v1,q2.1,())) fun q3=>bif decide (q3.1 < 0) then some (false,()) else k0 (v0,v1,v2,wI (v7 + 1))))))) else L1 (v0,v1,0)
abbrev zhT (K:Nat):zaT→Option (Bool × Unit):=zg (fun k0=>zaV (zex K) k0) K
theorem zwd (K:Nat):∀ n,evV Es1 K Tryz.f62 0 (ch [.bool]) [1,1,0,1,0] [] zwa n = zg (fun k0=>zaV (zex K) k0) n:=qJ (B:=fun L1 k0=>zaV L1 k0) (V1:=fun n0=>evV Es1 K Tryz.f62 0 (ch [.bool]) [1,1,1,0,1,0] [] zhR K) (W1:=fun k0=>(zex K)) (fun n0=>zwc K K) fun n0 (v0,v1,v2,v7)=>by kernel_rfl
def zgg (L0:zaT→Option (Bool × Unit)):((List z7) × ((List zw) × (Int × Unit)))→Option (Bool × Unit):=fun (x0,x1,x2,()) =>
  bif decide (((List.length x0):Int) > 8) then some (false,()) else L0 (x0,x1,x2,0)
def zgh:((List z7) × (List zw) × Int × Unit)→Option (Bool × Unit):=zgg (zhT K0)
abbrev zpM:Fun:=⟨62,(ch [(.sl yk),(.sl zl),tI]),(ch [.bool]),0,zgh⟩
theorem zzJ:Sq zpM:=ml1 (d:=false) (S:=fun K=>zgg (zhT K)) Tryz.func62 (by kernel_rfl) (fun K=>tr1 (T:=zgg) (zwd K K) fun (x0,x1,x2,())=>by kernel_rfl) rfl
abbrev zaW:Type:=(List zag) × Int × Int
abbrev zwe:zaW→St:=fun (v0,v3,v4)=>St.mk [(0,.dat (.sl zbG) v0),(3,.dat tU v3),(4,.dat tI v4)] []
def yA (k0:zaW→Option (Bool × Unit)):zaW→Option (Bool × Unit):=fun (v0,v3,v4) =>
  bif decide (v4 < ((List.length v0):Int)) then inR v4 ((List.length v0):Int) (Option.bind (yd ((ix qf v0 v4).1,())) fun q0=>bif q0.1 then Option.bind (yd ((ix qf v0 v4).2.1,())) fun q1=>bif q1.1 then Option.bind (yd ((ix qf v0 v4).2.2.1,())) fun q2=>bif q2.1 then Option.bind (yd ((ix qf v0 v4).2.2.2.1,())) fun q3=>bif q3.1 then Option.bind (yd ((ix qf v0 v4).2.2.2.2.1,())) fun q4=>bif q4.1 then bif decide ((ix qf v0 v4).2.2.2.2.2.1 > v3) then some (false,()) else k0 (v0,wU (v3 - (ix qf v0 v4).2.2.2.2.2.1),wI (v4 + 1)) else some (false,()) else some (false,()) else some (false,()) else some (false,()) else some (false,())) else bif decide (((List.length v0):Int) > 0) then bif decide (0 < ((List.length v0):Int)) then bif decide ((ix qf v0 0).1 > 0) then some (true,()) else some (false,()) else none else some (false,())
abbrev zmP (K:Nat):zaW→Option (Bool × Unit):=zg yA K
theorem zwf (K:Nat):∀ n,evV Es1 K Tryz.f63 0 (ch [.bool]) [1,1,0,1,0] [] zwe n = zg yA n:=zo fun n0 (v0,v3,v4)=>by kernel_rfl
def zjZ (L0:zaW→Option (Bool × Unit)):((List zag) × Unit)→Option (Bool × Unit):=fun (x0,()) =>
  L0 (x0,4611686018427387904,0)
def zj0:((List zag) × Unit)→Option (Bool × Unit):=zjZ (zmP K0)
abbrev zpN:Fun:=⟨63,(ch [(.sl zbG)]),(ch [.bool]),0,zj0⟩
theorem zzK:Sq zpN:=ml1 (d:=false) (S:=fun K=>zjZ (zmP K)) Tryz.func63 (by kernel_rfl) (fun K=>tr1 (T:=zjZ) (zwf K K) fun (x0,())=>by kernel_rfl) rfl
def zfN:(Int × (Int × (Int × Unit)))→Option (Int × (Int × Unit)):=fun (x0,x1,x2,()) =>
  bif decide (x0 < 1) then some (0,1,()) else bif decide (x0 > 2) then some (0,1,()) else bif x1 == 0 then some (0,1,()) else bif x2 == 0 then some (0,1,()) else Option.bind (zhr (x1,x2,())) fun q0=>bif q0.2.1 == 0 then bif x0 == 2 then some (x1,q0.2.1,()) else some (q0.1,q0.2.1,()) else some (q0.1,q0.2.1,())
abbrev zto:Fun:=⟨236,(ch [tI,tU,tU]),(ch [tU,tI]),0,zfN⟩
theorem zD1:Sq zto:=ms1 (d:=false) (K:=0) Tryz.func236 (by kernel_rfl) (funext fun (x0,x1,x2,())=>by kernel_rfl)
abbrev zb0:Type:=(List jD) × Int
abbrev zxY:zb0→St:=fun (v0,v3)=>St.mk [(0,.dat (.sl qC) v0),(3,.dat tI v3)] []
def zb1 (k0:zb0→Option (Bool × Unit)):zb0→Option (Bool × Unit):=fun (v0,v3) =>
  bif decide (v3 < ((List.length v0):Int)) then inR v3 ((List.length v0):Int) (bif (ix zkm v0 v3).1 then inR v3 ((List.length v0):Int) (Option.bind (zA ((ix zkm v0 v3).2.1,())) fun q0=>bif q0.1 then inR v3 ((List.length v0):Int) (bif (ix zkm v0 v3).1 then k0 (v0,wI (v3 + 1)) else inR v3 ((List.length v0):Int) (bif !ByteArray.toList (ix zkm v0 v3).2.1 == ByteArray.toList (ByteArray.mk #[]) then some (false,()) else k0 (v0,wI (v3 + 1)))) else some (false,())) else inR v3 ((List.length v0):Int) (Option.bind (zA ((ix zkm v0 v3).2.1,())) fun q1=>bif q1.1 then some (false,()) else inR v3 ((List.length v0):Int) (bif (ix zkm v0 v3).1 then k0 (v0,wI (v3 + 1)) else inR v3 ((List.length v0):Int) (bif !ByteArray.toList (ix zkm v0 v3).2.1 == ByteArray.toList (ByteArray.mk #[]) then some (false,()) else k0 (v0,wI (v3 + 1)))))) else some (true,())
abbrev znV (K:Nat):zb0→Option (Bool × Unit):=zg zb1 K
theorem zxZ (K:Nat):∀ n,evV Es1 K Tryz.f69 0 (ch [.bool]) [1,0,1,0] [] zxY n = zg zb1 n:=zo fun n0 (v0,v3)=>by kernel_rfl
def zk7 (L0:zb0→Option (Bool × Unit)):((List jD) × Unit)→Option (Bool × Unit):=fun (x0,()) =>
  L0 (x0,0)
def zk8:((List jD) × Unit)→Option (Bool × Unit):=zk7 (znV K0)
abbrev zry:Fun:=⟨69,(ch [(.sl qC)]),(ch [.bool]),0,zk8⟩
theorem zBD:Sq zry:=ml1 (d:=false) (S:=fun K=>zk7 (znV K)) Tryz.func69 (by kernel_rfl) (fun K=>tr1 (T:=zk7) (zxZ K K) fun (x0,())=>by kernel_rfl) rfl
abbrev zb2:Type:=(List qi) × Int × Int × qi
abbrev znW:zb2→St:=fun (v0,v3,v5,o0)=>St.mk [(0,.dat (.sl qb) v0),(3,.dat tI v3),(4,.bp 0 []),(5,.dat tI v5)] [.bx (.dat qb o0) false]
abbrev vM:Type:=(List qi) × Int
abbrev znX:vM→St:=fun (v0,v3)=>St.mk [(0,.dat (.sl qb) v0),(3,.dat tI v3)] []
def zb3 (k0:vM→Option (Bool × Unit)) (k1:zb2→Option (Bool × Unit)):zb2→Option (Bool × Unit):=fun (v0,v3,v5,o0) =>
  bif decide (v5 < v3) then bif o0.1 then inR v5 ((List.length v0):Int) (bif (ix qg v0 v5).1 then inR v5 ((List.length v0):Int) (bif eqI zY (ix qg v0 v5).2.1 o0.2.1 then inR v5 ((List.length v0):Int) (bif (ix qg v0 v5).2.2.2.1 == o0.2.2.2.1 then some (false,()) else k1 (v0,v3,wI (v5 + 1),o0)) else k1 (v0,v3,wI (v5 + 1),o0)) else k1 (v0,v3,wI (v5 + 1),o0)) else k1 (v0,v3,wI (v5 + 1),o0) else k0 (v0,wI (v3 + 1))
abbrev zb4 (K:Nat) (k0:vM→Option (Bool × Unit)):zb2→Option (Bool × Unit):=zg (fun k1=>zb3 k0 k1) K
theorem zx0 (K:Nat) (n0:Nat):∀ n,evV Es1 K Tryz.f70 0 (ch [.bool]) [1,0,1,0,0,1,0,0,1,1,1,0] [n0] znW n = zg (fun k1=>zb3 (evV Es1 K Tryz.f70 0 (ch [.bool]) [1,0,1,0] [] znX n0) k1) n:=zo fun n1 (v0,v3,v5,o0)=>by kernel_rfl
def yW (L1:zb2→Option (Bool × Unit)) (k0:vM→Option (Bool × Unit)):vM→Option (Bool × Unit):=fun (v0,v3) =>
  bif decide (v3 < ((List.length v0):Int)) then inR v3 ((List.length v0):Int) (bif (ix qg v0 v3).1 then bif (ix qg v0 v3).1 then Option.bind (qD ((ix qg v0 v3).2.1,())) fun q0=>bif q0.1 then Option.bind (qD ((ix qg v0 v3).2.2.1,())) fun q1=>bif q1.1 then bif decide ((ix qg v0 v3).2.2.2.1 < 0) then some (false,()) else bif decide ((ix qg v0 v3).2.2.2.1 > 5) then some (false,()) else L1 (v0,v3,0,ix qg v0 v3) else some (false,()) else some (false,()) else L1 (v0,v3,0,ix qg v0 v3) else bif !eqI qb (ix qg v0 v3) (zb qb) then some (false,()) else bif (ix qg v0 v3).1 then Option.bind (qD ((ix qg v0 v3).2.1,())) fun q2=>bif q2.1 then Option.bind (qD ((ix qg v0 v3).2.2.1,())) fun q3=>bif q3.1 then bif decide ((ix qg v0 v3).2.2.2.1 < 0) then some (false,()) else bif decide ((ix qg v0 v3).2.2.2.1 > 5) then some (false,()) else L1 (v0,v3,0,ix qg v0 v3) else some (false,()) else some (false,()) else L1 (v0,v3,0,ix qg v0 v3)) else some (true,())
abbrev znY (K:Nat):vM→Option (Bool × Unit):=zg (fun k0=>yW (zb4 K k0) k0) K
theorem zx1 (K:Nat):∀ n,evV Es1 K Tryz.f70 0 (ch [.bool]) [1,0,1,0] [] znX n = zg (fun k0=>yW (zb4 K k0) k0) n:=qJ (B:=fun L1 k0=>yW L1 k0) (V1:=fun n0=>evV Es1 K Tryz.f70 0 (ch [.bool]) [1,0,1,0,0,1,0,0,1,1,1,0] [n0] znW K) (W1:=fun k0=>(zb4 K k0)) (fun n0=>zx0 K n0 K) fun n0 (v0,v3)=>by kernel_rfl
def zk9 (L0:vM→Option (Bool × Unit)):((List qi) × Unit)→Option (Bool × Unit):=fun (x0,()) =>
  L0 (x0,0)
def zla:((List qi) × Unit)→Option (Bool × Unit):=zk9 (znY K0)
abbrev zrz:Fun:=⟨70,(ch [(.sl qb)]),(ch [.bool]),0,zla⟩
theorem zBE:Sq zrz:=ml1 (d:=false) (S:=fun K=>zk9 (znY K)) Tryz.func70 (by kernel_rfl) (fun K=>tr1 (T:=zk9) (zx1 K K) fun (x0,())=>by kernel_rfl) rfl
abbrev zb5:Type:=(List qj) × Int
abbrev zx2:zb5→St:=fun (v0,v3)=>St.mk [(0,.dat (.sl zL) v0),(3,.dat tI v3)] []
def zb6 (k0:zb5→Option (Bool × Unit)):zb5→Option (Bool × Unit):=fun (v0,v3) =>
  bif decide (v3 < ((List.length v0):Int)) then inR v3 ((List.length v0):Int) (bif (ix zB v0 v3).1 then bif (ix zB v0 v3).2.2.1 == 1 then Option.bind (zg0 ((ix zB v0 v3).2.2.2.1,())) fun q0=>bif q0.1 then bif eqI zY (ix zB v0 v3).2.2.2.2.1 (zb zY) then bif (ix zB v0 v3).2.2.1 == 2 then bif (ix zB v0 v3).2.2.2.1 == 0 then Option.bind (qD ((ix zB v0 v3).2.2.2.2.1,())) fun q1=>bif q1.1 then Option.bind (zA ((ix zB v0 v3).2.1,())) fun q2=>bif q2.1 then k0 (v0,wI (v3 + 1)) else some (false,()) else Option.bind (zA ((ix zB v0 v3).2.1,())) fun q3=>bif q3.1 then k0 (v0,wI (v3 + 1)) else some (false,()) else Option.bind (zA ((ix zB v0 v3).2.1,())) fun q4=>bif q4.1 then k0 (v0,wI (v3 + 1)) else some (false,()) else Option.bind (zA ((ix zB v0 v3).2.1,())) fun q5=>bif q5.1 then k0 (v0,wI (v3 + 1)) else some (false,()) else bif (ix zB v0 v3).2.2.1 == 2 then bif (ix zB v0 v3).2.2.2.1 == 0 then Option.bind (qD ((ix zB v0 v3).2.2.2.2.1,())) fun q6=>bif q6.1 then Option.bind (zA ((ix zB v0 v3).2.1,())) fun q7=>bif q7.1 then k0 (v0,wI (v3 + 1)) else some (false,()) else Option.bind (zA ((ix zB v0 v3).2.1,())) fun q8=>bif q8.1 then some (false,()) else some (false,()) else Option.bind (zA ((ix zB v0 v3).2.1,())) fun q9=>bif q9.1 then some (false,()) else some (false,()) else Option.bind (zA ((ix zB v0 v3).2.1,())) fun q10=>bif q10.1 then some (false,()) else some (false,()) else bif (ix zB v0 v3).2.2.1 == 2 then bif (ix zB v0 v3).2.2.2.1 == 0 then Option.bind (qD ((ix zB v0 v3).2.2.2.2.1,())) fun q11=>bif q11.1 then Option.bind (zA ((ix zB v0 v3).2.1,())) fun q12=>bif q12.1 then k0 (v0,wI (v3 + 1)) else some (false,()) else Option.bind (zA ((ix zB v0 v3).2.1,())) fun q13=>bif q13.1 then some (false,()) else some (false,()) else Option.bind (zA ((ix zB v0 v3).2.1,())) fun q14=>bif q14.1 then some (false,()) else some (false,()) else Option.bind (zA ((ix zB v0 v3).2.1,())) fun q15=>bif q15.1 then some (false,()) else some (false,()) else bif (ix zB v0 v3).2.2.1 == 3 then Option.bind (zg0 ((ix zB v0 v3).2.2.2.1,())) fun q16=>bif q16.1 then bif eqI zY (ix zB v0 v3).2.2.2.2.1 (zb zY) then bif (ix zB v0 v3).2.2.1 == 2 then bif (ix zB v0 v3).2.2.2.1 == 0 then Option.bind (qD ((ix zB v0 v3).2.2.2.2.1,())) fun q17=>bif q17.1 then Option.bind (zA ((ix zB v0 v3).2.1,())) fun q18=>bif q18.1 then k0 (v0,wI (v3 + 1)) else some (false,()) else Option.bind (zA ((ix zB v0 v3).2.1,())) fun q19=>bif q19.1 then k0 (v0,wI (v3 + 1)) else some (false,()) else Option.bind (zA ((ix zB v0 v3).2.1,())) fun q20=>bif q20.1 then k0 (v0,wI (v3 + 1)) else some (false,()) else Option.bind (zA ((ix zB v0 v3).2.1,())) fun q21=>bif q21.1 then k0 (v0,wI (v3 + 1)) else some (false,()) else bif (ix zB v0 v3).2.2.1 == 2 then bif (ix zB v0 v3).2.2.2.1 == 0 then Option.bind (qD ((ix zB v0 v3).2.2.2.2.1,())) fun q22=>bif q22.1 then Option.bind (zA ((ix zB v0 v3).2.1,())) fun q23=>bif q23.1 then k0 (v0,wI (v3 + 1)) else some (false,()) else Option.bind (zA ((ix zB v0 v3).2.1,())) fun q24=>bif q24.1 then some (false,()) else some (false,()) else Option.bind (zA ((ix zB v0 v3).2.1,())) fun q25=>bif q25.1 then some (false,()) else some (false,()) else Option.bind (zA ((ix zB v0 v3).2.1,())) fun q26=>bif q26.1 then some (false,()) else some (false,()) else bif (ix zB v0 v3).2.2.1 == 2 then bif (ix zB v0 v3).2.2.2.1 == 0 then Option.bind (qD ((ix zB v0 v3).2.2.2.2.1,())) fun q27=>bif q27.1 then Option.bind (zA ((ix zB v0 v3).2.1,())) fun q28=>bif q28.1 then k0 (v0,wI (v3 + 1)) else some (false,()) else Option.bind (zA ((ix zB v0 v3).2.1,())) fun q29=>bif q29.1 then some (false,()) else some (false,()) else Option.bind (zA ((ix zB v0 v3).2.1,())) fun q30=>bif q30.1 then some (false,()) else some (false,()) else Option.bind (zA ((ix zB v0 v3).2.1,())) fun q31=>bif q31.1 then some (false,()) else some (false,()) else bif (ix zB v0 v3).2.2.1 == 2 then bif (ix zB v0 v3).2.2.2.1 == 0 then Option.bind (qD ((ix zB v0 v3).2.2.2.2.1,())) fun q32=>bif q32.1 then Option.bind (zA ((ix zB v0 v3).2.1,())) fun q33=>bif q33.1 then k0 (v0,wI (v3 + 1)) else some (false,()) else Option.bind (zA ((ix zB v0 v3).2.1,())) fun q34=>bif q34.1 then some (false,()) else some (false,()) else Option.bind (zA ((ix zB v0 v3).2.1,())) fun q35=>bif q35.1 then some (false,()) else some (false,()) else Option.bind (zA ((ix zB v0 v3).2.1,())) fun q36=>bif q36.1 then some (false,()) else some (false,()) else bif !eqI zL (ix zB v0 v3) (zb zL) then some (false,()) else k0 (v0,wI (v3 + 1))) else some (true,())
abbrev znZ (K:Nat):zb5→Option (Bool × Unit):=zg zb6 K
theorem zx3 (K:Nat):∀ n,evV Es1 K Tryz.f71 0 (ch [.bool]) [1,0,1,0] [] zx2 n = zg zb6 n:=zo fun n0 (v0,v3)=>by kernel_rfl
def zlb (L0:zb5→Option (Bool × Unit)):((List qj) × Unit)→Option (Bool × Unit):=fun (x0,()) =>
  L0 (x0,0)
def zlc:((List qj) × Unit)→Option (Bool × Unit):=zlb (znZ K0)
abbrev zrA:Fun:=⟨71,(ch [(.sl zL)]),(ch [.bool]),0,zlc⟩
theorem zBF:Sq zrA:=ml1 (d:=false) (S:=fun K=>zlb (znZ K)) Tryz.func71 (by kernel_rfl) (fun K=>tr1 (T:=zlb) (zx3 K K) fun (x0,())=>by kernel_rfl) rfl
abbrev zdF:Type:=ByteArray × Int
abbrev zzL:zdF→St:=fun (v0,v3)=>St.mk [(0,.dat .str v0),(3,.dat tI v3)] []
def zgi (k0:zdF→Option (Bool × Unit)):zdF→Option (Bool × Unit):=fun (v0,v3) =>
  bif decide (v3 < (↑(ByteArray.size v0):Int)) then inR v3 (↑(ByteArray.size v0):Int) (Option.bind (zkp ((↑(UInt8.toNat (List.getD (Array.toList (ByteArray.data v0)) (Int.toNat v3) 0)):Int),())) fun q0=>bif q0.1 then k0 (v0,wI (v3 + 1)) else some (false,())) else some (true,())
abbrev zj1 (K:Nat):zdF→Option (Bool × Unit):=zg zgi K
theorem zzM (K:Nat):∀ n,evV Es1 K Tryz.f172 0 (ch [.bool]) [1,1,0,1,0] [] zzL n = zg zgi n:=zo fun n0 (v0,v3)=>by kernel_rfl
def ziS (L0:zdF→Option (Bool × Unit)):(ByteArray × Unit)→Option (Bool × Unit):=fun (x0,()) =>
  bif (↑(ByteArray.size x0):Int) == 0 then some (false,()) else bif decide ((↑(ByteArray.size x0):Int) > 40) then some (false,()) else bif decide (0 < (↑(ByteArray.size x0):Int)) then bif (↑(UInt8.toNat (List.getD (Array.toList (ByteArray.data x0)) (Int.toNat 0) 0)):Int) == 32 then some (false,()) else inR (wI ((↑(ByteArray.size x0):Int) - 1)) (↑(ByteArray.size x0):Int) (bif (↑(UInt8.toNat (List.getD (Array.toList (ByteArray.data x0)) (Int.toNat (wI ((↑(ByteArray.size x0):Int) - 1))) 0)):Int) == 32 then some (false,()) else L0 (x0,0)) else none
def ziT:(ByteArray × Unit)→Option (Bool × Unit):=ziS (zj1 K0)
abbrev ztp:Fun:=⟨172,(ch [.str]),(ch [.bool]),0,ziT⟩
theorem zD2:Sq ztp:=ml1 (d:=false) (S:=fun K=>ziS (zj1 K)) Tryz.func172 (by kernel_rfl) (fun K=>tr1 (T:=ziS) (zzM K K) fun (x0,())=>by kernel_rfl) rfl
def ziU:(zt × Unit)→Option (Bool × Unit):=fun (x0,()) =>
  bif decide (x0.2.2.2.1.2.1 > 0) then Option.bind (jl (x0.2.1,())) fun q0=>bif q0.1 then Option.bind (jl (x0.2.2.1,())) fun q1=>bif q1.1 then bif x0.2.1 != x0.2.2.1 then Option.bind (jm (x0.2.2.2.1,())) fun q2=>bif q2.1 then Option.bind (jm (x0.2.2.2.2.1,())) fun q3=>bif q3.1 then some (true,()) else some (false,()) else some (false,()) else some (false,()) else some (false,()) else some (false,()) else bif decide (x0.2.2.2.1.2.2.1 ≥ 0) then Option.bind (jl (x0.2.1,())) fun q4=>bif q4.1 then Option.bind (jl (x0.2.2.1,())) fun q5=>bif q5.1 then bif x0.2.1 != x0.2.2.1 then Option.bind (jm (x0.2.2.2.1,())) fun q6=>bif q6.1 then Option.bind (jm (x0.2.2.2.2.1,())) fun q7=>bif q7.1 then some (true,()) else some (false,()) else some (false,()) else some (false,()) else some (false,()) else some (false,()) else bif decide (x0.2.2.2.2.1.2.1 > 0) then Option.bind (jl (x0.2.1,())) fun q8=>bif q8.1 then Option.bind (jl (x0.2.2.1,())) fun q9=>bif q9.1 then bif x0.2.1 != x0.2.2.1 then Option.bind (jm (x0.2.2.2.1,())) fun q10=>bif q10.1 then Option.bind (jm (x0.2.2.2.2.1,())) fun q11=>bif q11.1 then some (true,()) else some (false,()) else some (false,()) else some (false,()) else some (false,()) else some (false,()) else bif decide (x0.2.2.2.2.1.2.2.1 ≥ 0) then Option.bind (jl (x0.2.1,())) fun q12=>bif q12.1 then Option.bind (jl (x0.2.2.1,())) fun q13=>bif q13.1 then bif x0.2.1 != x0.2.2.1 then Option.bind (jm (x0.2.2.2.1,())) fun q14=>bif q14.1 then Option.bind (jm (x0.2.2.2.2.1,())) fun q15=>bif q15.1 then some (true,()) else some (false,()) else some (false,()) else some (false,()) else some (false,()) else some (false,()) else Option.bind (jl (x0.2.1,())) fun q16=>bif q16.1 then Option.bind (jl (x0.2.2.1,())) fun q17=>bif q17.1 then bif x0.2.1 != x0.2.2.1 then Option.bind (jm (x0.2.2.2.1,())) fun q18=>bif q18.1 then Option.bind (jm (x0.2.2.2.2.1,())) fun q19=>bif q19.1 then some (false,()) else some (false,()) else some (false,()) else some (false,()) else some (false,()) else some (false,())
abbrev ztq:Fun:=⟨173,(ch [zz]),(ch [.bool]),0,ziU⟩
theorem zD3:Sq ztq:=ms1 (d:=false) (K:=0) Tryz.func173 (by kernel_rfl) (funext fun (x0,())=>by kernel_rfl)
abbrev zeL:Type:=Int × zw × zw
abbrev zBG:zeL→St:=fun (v5,o0,o1)=>St.mk [(2,.bp 0 []),(3,.bp 1 []),(5,.dat tI v5)] [.bx (.dat zl o0) false,.bx (.dat zl o1) false]
def zeM (k0:zeL→Option (Bool × Unit)):zeL→Option (Bool × Unit):=fun (v5,o0,o1) =>
  bif decide (v5 < 64) then Option.bind (ze2 (o0,v5,())) fun q0=>bif q0.1 then Option.bind (ze2 (o1,v5,())) fun q1=>bif q1.1 then k0 (wI (v5 + 1),o0,o1) else some (false,()) else k0 (wI (v5 + 1),o0,o1) else bif decide (o0.1 ≤ o1.1) then some (true,()) else some (false,())
abbrev zrB (K:Nat):zeL→Option (Bool × Unit):=zg zeM K
theorem zBH (K:Nat):∀ n,evV Es1 K Tryz.f174 0 (ch [.bool]) [1,0,1,0] [] zBG n = zg zeM n:=zo fun n0 (v5,o0,o1)=>by kernel_rfl
def zo3 (L0:zeL→Option (Bool × Unit)):(zw × (zw × Unit))→Option (Bool × Unit):=fun (x0,x1,()) =>
  L0 (0,x0,x1)
def zo4:(zw × zw × Unit)→Option (Bool × Unit):=zo3 (zrB K0)
abbrev zu7:Fun:=⟨174,(ch [zl,zl]),(ch [.bool]),0,zo4⟩
theorem zFL:Sq zu7:=ml1 (d:=false) (S:=fun K=>zo3 (zrB K)) Tryz.func174 (by kernel_rfl) (fun K=>tr1 (T:=zo3) (zBH K K) fun (x0,x1,())=>by kernel_rfl) rfl
def ziV:(zf × (zk × (Int × Unit)))→Option (Bool × Unit):=fun (x0,x1,x2,()) =>
  inR x2 ((List.length x1.2.2.2.2.1):Int) (bif (ix zV x1.2.2.2.2.1 x2).1 then Option.bind (ve (x0,(ix zV x1.2.2.2.2.1 x2).2.1,())) fun q0=>bif q0.1 then Option.bind (ve (x0,(ix zV x1.2.2.2.2.1 x2).2.2.1,())) fun q1=>bif q1.1 then bif decide ((ix zV x1.2.2.2.2.1 x2).2.2.2.1.2.2.1 ≥ ((List.length x1.2.2.1):Int)) then some (false,()) else bif decide ((ix zV x1.2.2.2.2.1 x2).2.2.2.2.1.2.2.1 ≥ ((List.length x1.2.2.1):Int)) then some (false,()) else bif decide ((ix zV x1.2.2.2.2.1 x2).2.2.2.1.2.2.1 < 0) then some (true,()) else inR (ix zV x1.2.2.2.2.1 x2).2.2.2.1.2.2.1 ((List.length x1.2.2.1):Int) (bif (List.getD x1.2.2.1 (Int.toNat (ix zV x1.2.2.2.2.1 x2).2.2.2.1.2.2.1) (zb zL)).1 then bif (List.getD x1.2.2.1 (Int.toNat (ix zV x1.2.2.2.2.1 x2).2.2.2.1.2.2.1) (zb zL)).2.2.1 == 3 then bif (List.getD x1.2.2.1 (Int.toNat (ix zV x1.2.2.2.2.1 x2).2.2.2.1.2.2.1) (zb zL)).2.2.2.1 == x2 then some (true,()) else some (false,()) else some (false,()) else some (false,())) else some (false,()) else some (false,()) else some (true,()))
abbrev ztr:Fun:=⟨76,(ch [zu,zm,tI]),(ch [.bool]),0,ziV⟩
theorem zD4:Sq ztr:=ms1 (d:=false) (K:=0) Tryz.func76 (by kernel_rfl) (funext fun (x0,x1,x2,())=>by kernel_rfl)
abbrev zdG:Type:=(List zn) × Int × Int × Int
abbrev zzN:zdG→St:=fun (v0,v1,v6,v7)=>St.mk [(0,.dat (.sl zr) v0),(1,.dat tI v1),(6,.dat tU v6),(7,.dat tI v7)] []
def zdH (k0:zdG→Option (Int × (Int × Unit))):zdG→Option (Int × (Int × Unit)):=fun (v0,v1,v6,v7) =>
  bif decide (v7 < ((List.length v0):Int)) then inR v7 ((List.length v0):Int) (Option.bind (zhs (ix zH v0 v7,v1,())) fun q0=>Option.bind (vJ (v6,q0.1,())) fun q1=>bif q1.2.1 != 0 then some (0,q1.2.1,()) else k0 (v0,v1,q1.1,wI (v7 + 1))) else some (v6,0,())
abbrev zpO (K:Nat):zdG→Option (Int × (Int × Unit)):=zg zdH K
theorem zzO (K:Nat):∀ n,evV Es1 K Tryz.f78 0 (ch [tU,tI]) [1,1,1,0,1,0] [] zzN n = zg zdH n:=zo fun n0 (v0,v1,v6,v7)=>by kernel_rfl
def ziW (L0:zdG→Option (Int × (Int × Unit))):((List zn) × (Int × Unit))→Option (Int × (Int × Unit)):=fun (x0,x1,()) =>
  bif decide (x1 < 0) then some (0,1,()) else bif decide (x1 > 3) then some (0,1,()) else L0 (x0,x1,0,0)
def ziX:((List zn) × Int × Unit)→Option (Int × Int × Unit):=ziW (zpO K0)
abbrev zts:Fun:=⟨78,(ch [(.sl zr),tI]),(ch [tU,tI]),0,ziX⟩
theorem zD5:Sq zts:=ml1 (d:=false) (S:=fun K=>ziW (zpO K)) Tryz.func78 (by kernel_rfl) (fun K=>tr1 (T:=ziW) (zzO K K) fun (x0,x1,())=>by kernel_rfl) rfl
abbrev zdI:Type:=(List zt) × Int × Int × Int
abbrev zzP:zdI→St:=fun (v0,v1,v6,v7)=>St.mk [(0,.dat (.sl zz) v0),(1,.dat tI v1),(6,.dat tU v6),(7,.dat tI v7)] []
def zdJ (k0:zdI→Option (Int × (Int × Unit))):zdI→Option (Int × (Int × Unit)):=fun (v0,v1,v6,v7) =>
  bif decide (v7 < ((List.length v0):Int)) then inR v7 ((List.length v0):Int) (bif (ix zV v0 v7).1 then inR v7 ((List.length v0):Int) (bif (ix zV v0 v7).2.2.2.1.1 == v1 then inR v7 ((List.length v0):Int) (Option.bind (vJ (v6,(ix zV v0 v7).2.2.2.1.2.1,())) fun q0=>bif q0.2.1 != 0 then some (0,q0.2.1,()) else k0 (v0,v1,q0.1,wI (v7 + 1))) else k0 (v0,v1,v6,wI (v7 + 1))) else k0 (v0,v1,v6,wI (v7 + 1))) else some (v6,0,())
abbrev zpP (K:Nat):zdI→Option (Int × (Int × Unit)):=zg zdJ K
theorem zzQ (K:Nat):∀ n,evV Es1 K Tryz.f79 0 (ch [tU,tI]) [1,1,1,0,1,0] [] zzP n = zg zdJ n:=zo fun n0 (v0,v1,v6,v7)=>by kernel_rfl
def ziY (L0:zdI→Option (Int × (Int × Unit))):((List zt) × (Int × Unit))→Option (Int × (Int × Unit)):=fun (x0,x1,()) =>
  bif decide (x1 < 0) then some (0,1,()) else bif decide (x1 > 3) then some (0,1,()) else L0 (x0,x1,0,0)
def ziZ:((List zt) × Int × Unit)→Option (Int × Int × Unit):=ziY (zpP K0)
abbrev ztt:Fun:=⟨79,(ch [(.sl zz),tI]),(ch [tU,tI]),0,ziZ⟩
theorem zD6:Sq ztt:=ml1 (d:=false) (S:=fun K=>ziY (zpP K)) Tryz.func79 (by kernel_rfl) (fun K=>tr1 (T:=ziY) (zzQ K K) fun (x0,x1,())=>by kernel_rfl) rfl
abbrev zdK:Type:=Int × Int × Int × Int × Int × ze
abbrev zpQ:zdK→St:=fun (v1,v6,v7,v8,v10,o0)=>St.mk [(1,.dat tI v1),(2,.bp 0 []),(6,.dat tU v6),(7,.dat tU v7),(8,.dat tI v8),(10,.dat tI v10)] [.bx (.dat zq o0) false]
abbrev zdL:Type:=Int × Int × Int × Int × Int × ze
abbrev zzR:zdL→St:=fun (v1,v6,v7,v8,v9,o0)=>St.mk [(1,.dat tI v1),(2,.bp 0 []),(6,.dat tU v6),(7,.dat tU v7),(8,.dat tI v8),(9,.dat tI v9)] [.bx (.dat zq o0) false]
def zdM (k1:zdK→Option (Int × (Int × Unit))):zdK→Option (Int × (Int × Unit)):=fun (v1,v6,v7,v8,v10,o0) =>
  bif decide (v10 < ((List.length o0.2.1):Int)) then bif v8 == 0 then inR v10 ((List.length o0.2.1):Int) (inR v1 (↑4:Int) (Option.bind (vJ (v7,List.getD (ix za o0.2.1 v10).2.2.2.2.2.2.2.2.1 (Int.toNat v1) (0:Int),())) fun q1=>k1 (v1,v6,q1.1,q1.2.1,wI (v10 + 1),o0))) else bif v8 != 0 then some (0,v8,()) else Option.bind (zeJ (v6,v7,())) fun q2=>some (q2.1,q2.2.1,()) else bif v8 != 0 then some (0,v8,()) else Option.bind (zeJ (v6,v7,())) fun q3=>some (q3.1,q3.2.1,())
abbrev zaD (K:Nat):zdK→Option (Int × (Int × Unit)):=zg zdM K
theorem zzS (K:Nat):∀ n,evV Es1 K Tryz.f33 0 (ch [tU,tI]) [1,1,1,1,1,1,0,1,0] [] zpQ n = zg zdM n:=zo fun n1 (v1,v6,v7,v8,v10,o0)=>by kernel_rfl
def zaE (L1:zdK→Option (Int × (Int × Unit))) (k0:zdL→Option (Int × (Int × Unit))):zdL→Option (Int × (Int × Unit)):=fun (v1,v6,v7,v8,v9,o0) =>
  bif decide (v9 < ((List.length o0.2.1):Int)) then bif v8 == 0 then inR v9 ((List.length o0.2.1):Int) (inR v1 (↑4:Int) (Option.bind (vJ (v6,List.getD (ix za o0.2.1 v9).2.2.2.2.2.2.2.1 (Int.toNat v1) (0:Int),())) fun q0=>k0 (v1,q0.1,v7,q0.2.1,wI (v9 + 1),o0))) else L1 (v1,v6,v7,v8,0,o0) else L1 (v1,v6,v7,v8,0,o0)
abbrev zpR (K:Nat):zdL→Option (Int × (Int × Unit)):=zg (fun k0=>zaE (zaD K) k0) K
theorem zzT (K:Nat):∀ n,evV Es1 K Tryz.f33 0 (ch [tU,tI]) [1,1,1,1,1,0,1,0] [] zzR n = zg (fun k0=>zaE (zaD K) k0) n:=qJ (B:=fun L1 k0=>zaE L1 k0) (V1:=fun n0=>evV Es1 K Tryz.f33 0 (ch [tU,tI]) [1,1,1,1,1,1,0,1,0] [] zpQ K) (W1:=fun k0=>(zaD K)) (fun n0=>zzS K K) fun n0 (v1,v6,v7,v8,v9,o0)=>by kernel_rfl
def zi0 (L0:zdL→Option (Int × (Int × Unit))):(ze × (Int × Unit))→Option (Int × (Int × Unit)):=fun (x0,x1,()) =>
  bif decide (x1 < 0) then some (0,1,()) else bif decide (x1 > 3) then some (0,1,()) else L0 (x1,0,0,0,0,x0)
def zi1:(ze × Int × Unit)→Option (Int × Int × Unit):=zi0 (zpR K0)
abbrev ztu:Fun:=⟨33,(ch [zq,tI]),(ch [tU,tI]),0,zi1⟩
theorem zD7:Sq ztu:=ml1 (d:=false) (S:=fun K=>zi0 (zpR K)) Tryz.func33 (by kernel_rfl) (fun K=>tr1 (T:=zi0) (zzT K K) fun (x0,x1,())=>by kernel_rfl) rfl
abbrev L2:List Fun:=zmE :: zgB :: zlI :: ziO :: znR :: zid :: zg1 :: zpH :: zfi :: zjJ :: zmF :: ztg :: zgC :: zg2 :: zth :: zti :: zg3 :: zkR :: zg4 :: zpI :: zpJ :: zgD :: zu5 :: ztk :: zmG :: zgE :: zmH :: zgF :: zmI :: zu6 :: zg7 :: zie :: zmJ :: zmK :: zmL :: znS :: zmM :: znT :: zxU :: zrw :: zrx :: zpL :: zmN :: zpM :: zpN :: zto :: zry :: zrz :: zrA :: ztp :: ztq :: zu7 :: ztr :: zts :: ztt :: ztu :: L1
theorem h2:Sds Tryz.prog E0 L2:=⟨zvY,znh,zut,zqQ,zxR,zpG,zoY,zzF,zlX,zsp,zvZ,zDV,zni,zoZ,zDW,zDX,zo0,ztj,zo1,zzG,zzH,znj,zFJ,zDY,zv0,znk,zv1,znl,zv2,zFK,zo2,zpK,zv3,zv4,zv5,zxS,zv6,zxT,zHH,zBB,zBC,zzI,zv9,zzJ,zzK,zD1,zBD,zBE,zBF,zD2,zD3,zFL,zD4,zD5,zD6,zD7,h1⟩
theorem ms2 {d:Bool} {F:Fun} {f:Go.Func} {K:Nat} (hf:Tryz.prog.funcs[F.id]? = some f) (ho:jY f = true) (h:evF (En E0 d L2) K f F.md F.a F.r = F.spec):Sd Tryz.prog E0 F:=mkS h2 hf ho h
theorem ml2 {d:Bool} {F:Fun} {f:Go.Func} {S:Nat→F.a.I→Option F.r.I} (hf:Tryz.prog.funcs[F.id]? = some f) (ho:jY f = true) (h:∀ K,evF (En E0 d L2) K f F.md F.a F.r = S K) (e:S K0 = F.spec):Sd Tryz.prog E0 F:=mkS h2 hf ho ((h K0).trans e)
abbrev Es2:Env:=En E0 false L2
def zkq:(zw × (zw × Unit))→Option (Int × Unit):=fun (x0,x1,()) =>
  Option.bind (zai (x0.1,x1.1,())) fun q0=>Option.bind (vK (x0.2.1,x1.2.1,())) fun q1=>Option.bind (zdx (zi (zi (List.replicate 2 (0:Int)) 0 q0.1) 1 q1.1,())) fun q2=>some (q2.1,())
abbrev zu8:Fun:=⟨226,(ch [zl,zl]),(ch [tI]),0,zkq⟩
theorem zFM:Sq zu8:=ms2 (d:=false) (K:=0) Tryz.func226 (by kernel_rfl) (funext fun (x0,x1,())=>by kernel_rfl)
def ye:(zf × Unit)→Option (Bool × Unit):=fun (x0,()) =>
  Option.bind (qn (((List.length x0.2.1):Int),1,8,())) fun q0=>bif q0.1 then Option.bind (qK (x0.2.1,some fun z=>zbS (z.1,some x0,()),())) fun q1=>bif q1.1 then some (false,()) else some (true,()) else some (false,())
abbrev zrC:Fun:=⟨152,(ch [zu]),(ch [.bool]),0,ye⟩
theorem zBI:Sq zrC:=ms2 (d:=false) (K:=0) Tryz.func152 (by kernel_rfl) (funext fun (x0,())=>by kernel_rfl)
def zlY:(ByteArray × ((Option ((Int × Unit)→Option (Bool × Unit))) × Unit))→Option (Bool × Unit):=fun (x0,x1,()) =>
  Option.bind (vf (List.map (fun b=>(↑(UInt8.toNat b):Int)) (Array.toList (ByteArray.data x0)),some fun z=>ziv (z.1,some x1,()),())) fun q0=>bif q0.1 then some (false,()) else some (true,())
abbrev zx4:Fun:=⟨245,(ch [.str,(.fn (ch [(.int .u8)]) (ch [.bool]))]),(ch [.bool]),0,zlY⟩
theorem zHI:Sq zx4:=ms2 (d:=false) (K:=0) Tryz.func245 (by kernel_rfl) (funext fun (x0,x1,())=>by kernel_rfl)
abbrev zaX:Type:=Int × (List z7) × Int × Int × zf × Int
abbrev zwg:zaX→St:=fun (v4,v11,v12,v13,o0,o1)=>St.mk [(1,.bp 0 []),(3,.bp 1 []),(4,.dat tI v4),(11,.dat (.sl yk) v11),(12,.dat tI v12),(13,.dat tI v13)] [.bx (.dat zu o0) false,.bx (.dat tU o1) false]
def zaY (k0:zaX→Option (Bool × Unit)):zaX→Option (Bool × Unit):=fun (v4,v11,v12,v13,o0,o1) =>
  bif decide (v13 < v12) then inR v13 ((List.length v11):Int) (Option.bind (zix ((ix qz v11 v13).1,())) fun q0=>bif q0.2.1 != 0 then some (false,()) else bif decide ((ix qz v11 v13).1 ≤ v4) then some (false,()) else Option.bind (qn ((ix qz v11 v13).2.1,0,wI (((List.length o0.2.2.1):Int) - 1),())) fun q1=>bif q1.1 then Option.bind (zbj (o0.1,q0.1,())) fun q2=>bif q2.1 then k0 ((ix qz v11 v13).1,v11,v12,wI (v13 + 1),o0,wU (↑(BitVec.toNat (BitVec.ofInt (IntKind.bits IntKind.u64) o1 ||| BitVec.ofInt (IntKind.bits IntKind.u64) q0.1.2.1)):Int)) else some (false,()) else some (false,())) else bif decide (((List.length o0.2.2.2.1):Int) ≤ 8) then Option.bind (yh (o0.1,some fun z=>zhM (z.1,some o1,()),())) fun q3=>bif q3.1 then some (false,()) else some (true,()) else some (false,())
abbrev zmQ (K:Nat):zaX→Option (Bool × Unit):=zg zaY K
theorem zwh (K:Nat):∀ n,evV Es2 K Tryz.f154 0 (ch [.bool]) [1,1,1,0,1,0] [] zwg n = zg zaY n:=zo fun n0 (v4,v11,v12,v13,o0,o1)=>by kernel_rfl
def zj2 (L0:zaX→Option (Bool × Unit)):(zf × Unit)→Option (Bool × Unit):=fun (x0,()) =>
  L0 ((-1),x0.2.2.2.1,((List.length x0.2.2.2.1):Int),0,x0,0)
def vx:(zf × Unit)→Option (Bool × Unit):=zj2 (zmQ K0)
abbrev zpS:Fun:=⟨154,(ch [zu]),(ch [.bool]),0,vx⟩
theorem zzU:Sq zpS:=ml2 (d:=false) (S:=fun K=>zj2 (zmQ K)) Tryz.func154 (by kernel_rfl) (fun K=>tr1 (T:=zj2) (zwh K K) fun (x0,())=>by kernel_rfl) rfl
abbrev zaZ:Type:=Int × (List zag) × Int × Int
abbrev zwi:zaZ→St:=fun (v3,v23,v24,v25)=>St.mk [(3,.dat tU v3),(23,.dat (.sl zbG) v23),(24,.dat tI v24),(25,.dat tI v25)] []
def zey (k0:zaZ→Option (Bool × Unit)):zaZ→Option (Bool × Unit):=fun (v3,v23,v24,v25) =>
  bif decide (v25 < v24) then inR v25 ((List.length v23):Int) (bif decide ((ix qf v23 v25).2.2.2.2.2.1 > v3) then some (false,()) else Option.bind (ziy (ix qf v23 v25,())) fun q0=>Option.bind (qK (q0.1,some zes,())) fun q1=>bif q1.1 then some (false,()) else k0 (wU (v3 - (ix qf v23 v25).2.2.2.2.2.1),v23,v24,wI (v25 + 1))) else some (true,())
abbrev zhU (K:Nat):zaZ→Option (Bool × Unit):=zg zey K
theorem zwj (K:Nat):∀ n,evV Es2 K Tryz.f155 0 (ch [.bool]) [1,1,1,0,1,0] [] zwi n = zg zey n:=zo fun n0 (v3,v23,v24,v25)=>by kernel_rfl
def zgj (L0:zaZ→Option (Bool × Unit)):(zf × Unit)→Option (Bool × Unit):=fun (x0,()) =>
  bif ((List.length x0.2.2.2.2.1):Int) != ((List.length x0.1):Int) then some (false,()) else bif decide (0 < ((List.length x0.2.2.2.2.1):Int)) then bif decide ((ix qf x0.2.2.2.2.1 0).1 < 1) then some (false,()) else L0 (4611686018427387904,x0.2.2.2.2.1,((List.length x0.2.2.2.2.1):Int),0) else none
def vy:(zf × Unit)→Option (Bool × Unit):=zgj (zhU K0)
abbrev zpT:Fun:=⟨155,(ch [zu]),(ch [.bool]),0,vy⟩
theorem zzV:Sq zpT:=ml2 (d:=false) (S:=fun K=>zgj (zhU K)) Tryz.func155 (by kernel_rfl) (fun K=>tr1 (T:=zgj) (zwj K K) fun (x0,())=>by kernel_rfl) rfl
def zgI:((List zk) × ((Option ((zk × Unit)→Option (Bool × Unit))) × Unit))→Option (Bool × Unit):=fun (x0,x1,()) =>
  Option.bind (jT (x0,some fun z=>zbc (z.1,some x1,()),())) fun q0=>bif q0.1 then some (false,()) else some (true,())
abbrev zlJ:Fun:=⟨82,(ch [(.sl zm),(.fn (ch [zm]) (ch [.bool]))]),(ch [.bool]),0,zgI⟩
theorem zuu:Sq zlJ:=ms2 (d:=false) (K:=0) Tryz.func82 (by kernel_rfl) (funext fun (x0,x1,())=>by kernel_rfl)
end
end Go.Proofs.YtokcjmkikhgkeaaGreatDoor
end
