import Derived.Test.YtlklokhlgcfcdaaGreatDoorMtc
import Derived.Carry
import Derived.OpenShut
import Derived.Test.YtlklokhlgcfcdaaGreatDoorProg
set_option linter.unusedSimpArgs false
set_option linter.unusedVariables false
section
namespace Go.Ev
open Go.RowKit
section
variable {P:Program} {nt:Up} {F0 F G:FH} {w0 w:World} {st st':St} {m:MM} {a:Act} {E:Env} {v:AV} {u:Value}
def zp1 (ids:Nat→Option Nat) (h:List Obj):(b:Ty)→Nat→b.I→List AV→Prop
  | .pair (.sl σ) b,i,x,v :: vs=>(∃ id,v = .ow id ∧ ids i = some id ∧ atN h id = some (mkO σ (bif σ.deep then some (List.length x.1) else none) x.1)) ∧ zp1 ids h b (i + 1) x.2 vs
  | .pair a b,i,x,v :: vs=>v = .dat a x.1 ∧ zp1 ids h b (i + 1) x.2 vs
  | .unit,_,_,[]=>True
  | _,_,_,_=>False
theorem zp1.ids {ids ids':Nat→Option Nat} {h:List Obj}:∀ {b:Ty} {i:Nat} {x:b.I} {vs:List AV},(∀ f,i ≤ f→ids' f = ids f)→zp1 ids h b i x vs→zp1 ids' h b i x vs:=by
  intro b
  induction b with
  | unit=>intro i x vs _ ho; cases vs <;> exact ho
  | pair t b _ ihb =>
    intro i x vs hi ho
    cases vs with
    | nil=>cases t <;> exact ho.elim
    | cons v vs =>
      cases t with
      | sl σ =>
        obtain ⟨⟨id,h1,h2,h3⟩,h4⟩:=ho
        exact ⟨⟨id,h1,by rw [hi i (Nat.le_refl _)]; exact h2,h3⟩,ihb (fun f hf=>hi f (by omega)) h4⟩
      | _=>exact ⟨ho.1,ihb (fun f hf=>hi f (by omega)) ho.2⟩
  | _=>intro i x vs _ ho; cases vs <;> exact ho.elim
theorem zp1.heap {ids:Nat→Option Nat} {h h':List Obj}:∀ {b:Ty} {i:Nat} {x:b.I} {vs:List AV},(∀ f id,ids f = some id→atN h' id = atN h id)→zp1 ids h b i x vs→zp1 ids h' b i x vs:=by
  intro b
  induction b with
  | unit=>intro i x vs _ ho; cases vs <;> exact ho
  | pair t b _ ihb =>
    intro i x vs hi ho
    cases vs with
    | nil=>cases t <;> exact ho.elim
    | cons v vs =>
      cases t with
      | sl σ =>
        obtain ⟨⟨id,h1,h2,h3⟩,h4⟩:=ho
        exact ⟨⟨id,h1,h2,by rw [hi _ _ h2]; exact h3⟩,ihb hi h4⟩
      | _=>exact ⟨ho.1,ihb hi ho.2⟩
  | _=>intro i x vs _ ho; cases vs <;> exact ho.elim
theorem zLN {h h0 h1:List Obj} (hdr:∀ i τ xs k,atN h i = some (.drow τ xs k)→τ.deep = true) {t:Ty} {x:t.I} (hz:zxw h0 t v = some (x,h1)) (l:yZ h0 h) :
    (v = .dat t x ∧ t.dl = false ∧ h1 = h0) ∨ ∃ (σ:Ty) (xs:List σ.I) (id:Nat),(⟨t,x⟩:(τ:Ty) × τ.I) = ⟨.sl σ,xs⟩ ∧ v = .ow id ∧ atN h id = some (mkO σ (bif σ.deep then some (List.length xs) else none) xs) ∧ atN h0 id ≠ some .gone ∧ (∃ o,atN h0 id = some o) ∧ h1 = zj h0 id .gone:=by
  cases v with
  | dat τ y =>
    simp only [zxw] at hz
    obtain ⟨hdl,hz⟩:=qw hz
    split at hz
    · rename_i z hc
      cases hz
      obtain ⟨rfl,rfl⟩:=zP hc
      exact .inl ⟨rfl,hdl,rfl⟩
    · cases hz
  | ow id =>
    simp only [zxw] at hz
    right
    split at hz
    · rename_i τ xs ho
      obtain ⟨hd,hz⟩:=qw hz
      split at hz
      · rename_i z hc
        cases hz
        obtain ⟨e,rfl⟩:=zP hc
        subst e
        refine ⟨τ,xs,id,rfl,rfl,?_,(by rw [ho]; intro e; cases e),⟨_,ho⟩,rfl⟩
        rw [l.at ho (by intro e; cases e),hd]
        rfl
      · cases hz
    · rename_i τ xs n ho
      split at hz
      · rename_i z hc
        obtain ⟨hn,hz⟩:=zd hz
        cases hz
        obtain ⟨e,rfl⟩:=zP hc
        subst e
        have hat:=l.at ho (by intro e; cases e)
        refine ⟨τ,xs,id,rfl,rfl,?_,(by rw [ho]; intro e; cases e),⟨_,ho⟩,rfl⟩
        rw [hat,hdr _ _ _ _ hat,of_decide_eq_true hn]
        rfl
      · cases hz
    · cases hz
  | _=>cases hz
theorem zC8 {h:List Obj} (hdr:∀ i τ xs k,atN h i = some (.drow τ xs k)→τ.deep = true):∀ {b:Ty} {vs:List AV} {x:b.I} {h0 h1:List Obj} (i:Nat),ownC b vs h0 = some (x,h1)→yZ h0 h →
    ∃ ids:Nat→Option Nat,zp1 ids h b i x vs ∧ yZ h1 h ∧ (∀ f id,ids f = some id→i ≤ f ∧ atN h0 id ≠ some .gone ∧ atN h1 id = some .gone ∧ ∃ σ k xs,atN h id = some (mkO σ k xs)) ∧ (∀ j,atN h0 j = some .gone→atN h1 j = some .gone) ∧
      ∀ f f' id,ids f = some id→ids f' = some id→f = f':=by
  intro b
  induction b with
  | unit =>
    intro vs x h0 h1 i hz l
    cases vs with
    | nil=>cases hz; exact ⟨fun _=>none,trivial,l,fun f id e=>(by cases e),fun _ h=>h,fun f f' id e=>(by cases e)⟩
    | cons _ _=>cases hz
  | pair t b _ ihb =>
    intro vs x h0 h1 i hz l
    cases vs with
    | nil=>cases hz
    | cons v vs =>
      simp only [ownC] at hz
      split at hz
      · rename_i y h2 hy
        split at hz
        · rename_i ys h3 hys
          cases hz
          rcases zLN hdr hy l with ⟨rfl,hdl,rfl⟩ | ⟨σ,xs,id,e,rfl,hat,hng,⟨o,ho⟩,rfl⟩
          · obtain ⟨ids,g1,g2,g3,g4,g5⟩:=ihb (i + 1) hys l
            refine ⟨ids,?_,g2,fun f id hf=>⟨by have:=(g3 f id hf).1; omega,(g3 f id hf).2⟩,g4,g5⟩
            cases t with
            | sl σ=>cases hdl
            | _=>exact ⟨rfl,g1⟩
          · cases e
            obtain ⟨ids,g1,g2,g3,g4,g5⟩:=ihb (i + 1) hys (l.gone ho)
            have hid:atN (zj h0 id .gone) id = some .gone:=yH ho
            have hids:∀ f,i + 1 ≤ f→(if f = i then some id else ids f) = ids f:=fun f hf=>by rw [if_neg (by omega)]
            refine ⟨fun f=>if f = i then some id else ids f,⟨⟨id,rfl,if_pos rfl,hat⟩,g1.ids hids⟩,g2,fun f id' hf=>?_,fun j hj=>?_,fun f f' id' hf hf'=>?_⟩
            · by_cases e:f = i
              · simp only [e,if_true,Option.some.injEq] at hf
                subst hf
                exact ⟨by omega,hng,g4 _ hid,σ,_,_,hat⟩
              · simp only [e,if_false] at hf
                obtain ⟨k1,k2,k3,k4⟩:=g3 f id' hf
                refine ⟨by omega,fun hg=>k2 ?_,k3,k4⟩
                by_cases e2:id = id'
                · rw [← e2]; exact hid
                · rw [qr e2]; exact hg
            · refine g4 j ?_
              by_cases e2:id = j
              · rw [← e2]; exact hid
              · rw [qr e2]; exact hj
            · by_cases e:f = i <;> by_cases e':f' = i
              · omega
              · simp only [e,if_true,Option.some.injEq] at hf
                simp only [e',if_false] at hf'
                subst hf
                exact absurd hid (g3 f' _ hf').2.1
              · simp only [e,if_false] at hf
                simp only [e',if_true,Option.some.injEq] at hf'
                subst hf'
                exact absurd hid (g3 f _ hf).2.1
              · simp only [e,if_false] at hf
                simp only [e',if_false] at hf'
                exact g5 f f' id' hf hf'
        · cases hz
      · cases hz
  | _=>intro vs x h0 h1 i hz l; cases vs <;> cases hz
def MM.ofI (m:MM) (ids:Nat→Option Nat):Nat→Nat→List Nat→Option (Nat × Nat):=fun f=>match ids f with | some id=>m.d id | none=>fun _ _=>none
theorem MM.ofI_some {m:MM} {ids:Nat→Option Nat} {f j:Nat} {p:List Nat} {b:Nat × Nat} (h:m.ofI ids f j p = some b):∃ id,ids f = some id ∧ m.d id j p = some b:=by
  unfold MM.ofI at h
  cases hi:ids f with
  | none=>rw [hi] at h; cases h
  | some id=>rw [hi] at h; exact ⟨id,rfl,h⟩
theorem zJE (h:Rel P nt F0 w0 st m F a w) {ids:Nat→Option Nat}:∀ {b:Ty} {i:Nat} {x:b.I} {vs:List AV} {cs:List Value},zp1 ids st.h b i x vs→z3 P st.h m F b vs cs→zjg P F w (fun f=>(ids f).bind m) (m.ofI ids) b i x cs:=by
  intro b
  induction b with
  | unit =>
    intro i x vs cs ho hv
    cases vs with
    | nil=>exact hv
    | cons _ _=>exact hv.elim
  | pair t b _ ihb =>
    intro i x vs cs ho hv
    cases vs with
    | nil=>exact hv.elim
    | cons v vs =>
      obtain ⟨c,d,rfl,h1,h2⟩:=hv
      cases t with
      | sl σ =>
        obtain ⟨⟨id,rfl,hi,hat⟩,h4⟩:=ho
        obtain ⟨σ',u,e1,rfl,hs,_⟩:=h1
        cases e1
        refine ⟨u,d,rfl,⟨fun j p bk n hp=>?_,?_⟩,ihb h4 h2⟩
        · obtain ⟨id',hi',hp⟩:=MM.ofI_some hp
          rw [hi] at hi'; cases hi'
          obtain ⟨⟨o,g1,g2⟩,_⟩:=h.dok _ _ _ _ _ hp
          rw [hat] at g1
          cases g1
          cases hd:σ.deep with
          | false=>rw [hd] at g2; cases g2
          | true =>
            rw [hd] at g2
            simp only [cond_true,mkO,Obj.deepAt,decide_eq_true_eq] at g2
            exact ⟨rfl,g2⟩
        · have hq:=zJ.owAt hat (zqz _ _ _) hs
          show match (ids i).bind m with | some (b,n)=>_ | none=>_
          rw [hi,Option.bind_some]
          cases hmi:m id with
          | none =>
            rw [hmi] at hq
            exact ⟨zFF (h.obs _ _ hat) hmi,hq.2⟩
          | some bn =>
            obtain ⟨bk,n⟩:=bn
            rw [hmi] at hq
            obtain ⟨cap,g1,g2,g3⟩:=hq
            refine ⟨cap,g1,g2,g3,?_⟩
            have:=zr5 (h.obs _ _ hat) hmi
            have hd:m.ofI ids i = m.d id:=by unfold MM.ofI; rw [hi]
            rw [hd]
            exact this
      | _ =>
        obtain ⟨rfl,h4⟩:=ho
        exact ⟨c,d,rfl,h1.2,ihb h4 h2⟩
  | _=>intro i x vs cs ho; cases vs <;> exact ho.elim
theorem zJF (h:Rel P nt F0 w0 st m F a w) {ids:Nat→Option Nat} (hat:∀ f id,ids f = some id→∃ σ k xs,atN st.h id = some (mkO σ k xs)) (hinj:∀ f f' id,ids f = some id→ids f' = some id→f = f'):zFs F w w0.heap.size (fun f=>(ids f).bind m) (m.ofI ids):=by
  refine ⟨fun f b n hf=>?_,fun f j p b n hp=>?_,fun f f' b n n' hf hf'=>?_,fun f j p b n f' j' p' n' hp hp'=>?_,fun f b n f' j p n' hf hp=>?_⟩
  · obtain ⟨id,hi,hf⟩:=Option.bind_eq_some_iff.1 hf
    obtain ⟨σ,k,xs,ho⟩:=hat f id hi
    obtain ⟨el,cs,c,d,_,_,_,hF,_⟩:=zr5 (h.obs _ _ ho) hf
    have:=h.rng _ _ _ hf
    exact ⟨this.2.1,this.2.2,hF⟩
  · obtain ⟨id,hi,hp⟩:=MM.ofI_some hp
    have:=h.dok _ _ _ _ _ hp
    exact ⟨this.2.1,this.2.2.1,this.2.2.2.1⟩
  · obtain ⟨id,hi,hf⟩:=Option.bind_eq_some_iff.1 hf
    obtain ⟨id',hi',hf'⟩:=Option.bind_eq_some_iff.1 hf'
    have:=h.inj _ _ _ _ _ hf hf'
    subst this
    exact hinj _ _ _ hi hi'
  · obtain ⟨id,hi,hp⟩:=MM.ofI_some hp
    obtain ⟨id',hi',hp'⟩:=MM.ofI_some hp'
    obtain ⟨rfl,e2,e3⟩:=h.din _ _ _ _ _ _ _ _ _ hp hp'
    exact ⟨hinj _ _ _ hi hi',e2,e3⟩
  · obtain ⟨id,hi,hf⟩:=Option.bind_eq_some_iff.1 hf
    obtain ⟨id',hi',hp⟩:=MM.ofI_some hp
    exact (h.dok _ _ _ _ _ hp).2.2.2.2 _ _ hf
theorem zME {ρ:Type} {h:List Obj} {σ:Ty} {v:AV} {k:σ.I→List Obj→Option ρ}:zJS h σ v k = (zxw h σ v).bind fun p=>k p.1 p.2:=by
  unfold zJS zxw
  cases v with
  | dat τ x =>
    simp only
    cases τ.dl with
    | true=>rfl
    | false=>simp only [cond_false]; cases qR τ σ x <;> rfl
  | ow id =>
    simp only
    cases atN h id with
    | none=>rfl
    | some o =>
      cases o with
      | row τ xs f =>
        cases f with
        | true=>rfl
        | false =>
          simp only
          cases τ.deep with
          | true=>rfl
          | false=>simp only [cond_false]; cases qR (.sl τ) σ xs <;> rfl
      | drow τ xs n =>
        simp only
        cases qR (.sl τ) σ xs with
        | none=>rfl
        | some x=>simp only; cases decide (n = List.length xs) <;> rfl
      | _=>rfl
  | _=>rfl
theorem zFY {ρ:Type}:∀ {σ:Ty} {vs:List AV} {h:List Obj} {k:σ.I→List Obj→Option ρ},zyW σ vs h k = (ownC σ vs h).bind fun p=>k p.1 p.2:=by
  intro σ
  induction σ with
  | unit=>intro vs h k; cases vs <;> rfl
  | pair a b _ ihb =>
    intro vs h k
    cases vs with
    | nil=>rfl
    | cons v vs =>
      simp only [zyW,ownC,zME,ihb]
      cases zxw h a v with
      | none=>rfl
      | some p =>
        obtain ⟨x,h1⟩:=p
        simp only [Option.bind_some]
        cases ownC b vs h1 <;> rfl
  | _=>intro vs h k; cases vs <;> rfl
theorem zLO {md:Nat} {r:Ty} {y:r.I} {vs:List AV} {us:List Value} (h:Rel P nt F0 w0 st m F a w) (hv:jB P st.h m F vs us) (hz:zJT md r vs st = some y) :
    ∃ F',F0.grow F' w0.heap.size ∧ F'.ok w ∧ zkT P F' w w0.heap.size md r y us:=by
  unfold zJT at hz
  split at hz
  ·
    rename_i b c v vs
    split at hz
    · rename_i x h1 hx
      split at hz
      · rename_i p hp
        cases hz
        obtain ⟨u,r,rfl,hv1,hv2⟩:=hv
        obtain ⟨id,k,rfl,hat,rfl,hkr⟩:∃ id k,v = .ow id ∧ atN st.h id = some (mkO b k x) ∧ h1 = zj st.h id .gone ∧ (k = none ∨ k = some 0):=by
          unfold zK9 at hx
          split at hx
          · rename_i id
            split at hx
            · rename_i τ xs ho
              split at hx
              · rename_i z hc
                cases hx
                obtain ⟨e,rfl⟩:=zP hc
                cases e
                exact ⟨id,none,rfl,ho,rfl,.inl rfl⟩
              · cases hx
            · rename_i τ xs n ho
              split at hx
              · rename_i z hc
                obtain ⟨hn,hx⟩:=zd hx
                cases hx
                obtain ⟨e,rfl⟩:=zP hc
                cases e
                have hn:n = 0:=of_decide_eq_true hn
                subst hn
                exact ⟨id,some 0,rfl,ho,rfl,.inr rfl⟩
              · cases hx
            · cases hx
          · cases hx
        obtain ⟨st2fr,st2h⟩:=st
        have l:yZ (zj st2h id .gone) st2h:=(yZ.refl st2h).gone hat
        obtain ⟨h',e1,e2,e3⟩:=zp0 l (show jK false c vs ⟨st2fr,zj st2h id .gone⟩ = some (p.1,p.2) from hp)
        obtain ⟨m',F',g1,g2,g3⟩:=zfF e1 h hv2
        have hat':atN h' id = some (mkO b k x):=by rw [(e3.2 id (yH hat)).2]; exact hat
        have hq:=zJ.owAt hat' (zqz _ _ _) (show zJ P h' m' F' (.ow id) u from hv1.ext g3)
        refine ⟨F',g1.gro,g1.fok,?_⟩
        simp only [zkT]
        refine ⟨u,r,rfl,g2,?_⟩
        cases hmi:m' id with
        | none =>
          rw [hmi] at hq
          exact .inr ⟨zFF (g1.obs _ _ hat') hmi,hq.2⟩
        | some bn =>
          obtain ⟨bk,n⟩:=bn
          rw [hmi] at hq
          obtain ⟨cap,k1,k2,k3⟩:=hq
          obtain ⟨el,cs,cc,d,f1,f2,f3,f4,f5⟩:=zr5 (g1.obs _ _ hat') hmi
          refine .inl ⟨bk,cap,el,cs,cc,d,k3,k2,(g1.rng _ _ _ hmi).2.1,f1,f4,by rw [f2,k1],f3,?_⟩
          rcases hkr with rfl | rfl
          · exact f5
          · exact z8.toL (fun j x c _ _ hx=>by unfold DE at hx; rw [if_neg (by omega)] at hx; exact hx) (show z8 (DE P F' w (m'.d id) b 0) 0 x cc from f5)
      · cases hz
    · cases hz
  ·
    rename_i b c c' vs us'
    obtain ⟨hbc,hz⟩:=zd hz
    simp only [decide_eq_true_eq] at hbc
    rw [zFY] at hz
    obtain ⟨⟨x,h1⟩,hx,hz⟩:=Option.bind_eq_some_iff.1 hz
    · split at hz
      · rename_i p hp
        cases hz
        obtain ⟨u,r,rfl,hv1,hv2⟩:=hv
        obtain ⟨cs,rfl,hfs⟩:=(show zI P st.h m F (.fld c' vs) u from hv1)
        subst hbc
        obtain ⟨ids,k1,k2,k3,k4,k5⟩:=zC8 (fun i τ xs k ho=>(h.drowk ho).2) 0 hx (yZ.refl _)
        obtain ⟨st2fr,st2h⟩:=st
        obtain ⟨h',e1,e2,e3⟩:=zp0 k2 (show jK false c us' ⟨st2fr,h1⟩ = some (p.1,p.2) from hp)
        obtain ⟨m',F',g1,g2,g3⟩:=zfF e1 h hv2
        have hkeep:∀ f id,ids f = some id→atN h' id = atN st2h id:=fun f id hf=>(e3.2 id (k3 f id hf).2.2.1).2
        refine ⟨F',g1.gro,g1.fok,?_⟩
        simp only [zkT]
        refine ⟨.agg cs,r,cs,_,_,rfl,g2,rfl,zJE g1 (k1.heap hkeep) (hfs.ext g3),zJF g1 (fun f id hf=>?_) k5⟩
        obtain ⟨σ,k,xs,ho⟩:=(k3 f id hf).2.2.2
        exact ⟨σ,k,xs,by rw [hkeep f id hf]; exact ho⟩
      · cases hz
  ·
    rename_i b c v us'
    rw [zFY] at hz
    obtain ⟨⟨x,h1⟩,hx,hz⟩:=Option.bind_eq_some_iff.1 hz
    · split at hz
      · rename_i p hp
        cases hz
        obtain ⟨u,r,rfl,hv1,hv2⟩:=hv
        obtain ⟨ids,k1,k2,k3,k4,k5⟩:=zC8 (fun i τ xs k ho=>(h.drowk ho).2) 0 hx (yZ.refl _)
        obtain ⟨⟨id,rfl,hi0,hat0⟩,_⟩:=(show (∃ id,v = .ow id ∧ ids 0 = some id ∧ atN st.h id = some (mkO b _ x.1)) ∧ _ from k1)
        have hT:za0 st.h id = some b:=by rw [zvW hat0,zqz]; rfl
        have hfs:z3 P st.h m F (.pair (.sl b) .unit) [.ow id] [u]:=⟨[u],[],rfl,vM.ofRow hT (show zJ P st.h m F (.ow id) u from hv1),rfl⟩
        obtain ⟨st2fr,st2h⟩:=st
        obtain ⟨h',e1,e2,e3⟩:=zp0 k2 (show jK false c us' ⟨st2fr,h1⟩ = some (p.1,p.2) from hp)
        obtain ⟨m',F',g1,g2,g3⟩:=zfF e1 h hv2
        have hkeep:∀ f id,ids f = some id→atN h' id = atN st2h id:=fun f id hf=>(e3.2 id (k3 f id hf).2.2.1).2
        refine ⟨F',g1.gro,g1.fok,?_⟩
        simp only [zkT]
        refine ⟨u,r,_,_,rfl,g2,zJE g1 (k1.heap hkeep) (hfs.ext g3),zJF g1 (fun f id hf=>?_) k5⟩
        obtain ⟨σ,k,xs,ho⟩:=(k3 f id hf).2.2.2
        exact ⟨σ,k,xs,by rw [hkeep f id hf]; exact ho⟩
      · cases hz
  ·
    split at hz
    · rename_i p hp
      cases hz
      obtain ⟨m',F',g1,g2,_⟩:=zfF (x:=p.1) (st':=p.2) hp h hv
      exact ⟨F',g1.gro,g1.fok,g2⟩
    · cases hz
  · cases hz
theorem zLP (hm:P.follows .mixedOrders = true) (hE:EnvOk P G E) {fi:FuncId} {f:Func} (hf:P.funcs[fi]? = some f) {K md:Nat} {a r:Ty} {x:a.I} {y:r.I} (he:evF E K f md a r x = some y)
    {F0:FH} {w:World} {vs:List Value} (hG:G.le F0) (hk:F0.ok w) (hr:RepA P F0 a x vs) :
    Calls P fi vs.toArray w fun e w'=>∃ us F',e = .returned (zrR us) ∧ Below w.heap.size w w' ∧ F0.grow F' w.heap.size ∧ F'.ok w' ∧ zkT P F' w' w.heap.size md r y us:=by
  unfold evF at he
  cases hb:f.body with
  | none=>rw [hb] at he; cases he
  | some c =>
    rw [hb] at he
    simp only at he
    have hE':EnvOk P G { E with nt:=f.ntmps }:=⟨hE.types,hE.funs,hE.glob,hE.ext,hE.hnd⟩
    refine calls_of_wp hf hb ?_
    refine zJD (nt:=⟨f.ntmps,[],F0⟩) (F0:=F0) (w0:=w) (.inr rfl) hm hE' hG rfl c (r:=y) ?_ ⟨_,F0,Rel.enter hk hr f.ntmps⟩ he
    rintro e st a' w' ⟨m,F,h⟩ hfin
    have hdone:(cond ((f.results.toList.map (zdI { E with nt:=f.ntmps } st)).all Option.isSome) (zJT md r ((f.results.toList.map (zdI { E with nt:=f.ntmps } st)).filterMap id) st) none) = some y →
        a'.defers = [] ∧ ∃ v,(results f a'.tmps).run P w' = .ok v w' ∧ ∃ us F',Ending.returned v = .returned (zrR us) ∧ Below w.heap.size w w' ∧ F0.grow F' w.heap.size ∧ F'.ok w' ∧ zkT P F' w' w.heap.size md r y us:=by
      intro hfin
      obtain ⟨h1,h2⟩:=zd hfin
      obtain ⟨us,h3,h4⟩:=zwJ hE' h (zl4 h1)
      obtain ⟨F',g1,g2,g3⟩:=zLO h h4 h2
      exact ⟨h.dfr,_,h3,us,F',rfl,h.bel,g1,g2,g3⟩
    cases e with
    | normal=>exact hdone hfin
    | ret=>exact hdone hfin
    | exit id=>cases hfin
theorem jB.one {h:List Obj}:∀ {vs:List AV} {us:List Value},jB P h m F vs us→vs.all AV.one = true→zlo P h m F vs us
  | [],_,e,_=>e
  | v :: vs,_,⟨u,r,e,h1,h2⟩,ho=>by
    simp only [List.all_cons,Bool.and_eq_true] at ho
    rw [zh.eq1 (by rintro ws rfl; cases ho.1)] at h1
    exact ⟨u,r,e,h1,jB.one h2 ho.2⟩
theorem zzv:∀ {vs:List AV} {us:List Value} {h:List Obj} {m:MM} {F:FH} {i t:Nat} {v:AV},look (slots vs i) t = some v→jB P h m F vs us→i ≤ t ∧ ∃ u,us[t - i]? = some u ∧ zh P h m F v u
  | [],_,_,_,_,_,_,_,h,_=>by simp [slots,look] at h
  | x :: vs,_,hp,m,F,i,t,v,h,⟨u,r,rfl,h1,h2⟩=>by
    simp only [slots] at h
    by_cases e:i = t
    · subst e
      simp only [look,beq_self,cond_true,Option.some.injEq] at h
      subst h
      exact ⟨Nat.le_refl _,u,by simp,h1⟩
    · simp only [look,za2 e,cond_false] at h
      obtain ⟨g1,u',g2,g3⟩:=zzv h h2
      refine ⟨by omega,u',?_,g3⟩
      rw [show t - i = (t - (i + 1)) + 1 by omega,List.getElem?_cons_succ]
      exact g2
theorem zNh (hm:P.follows .mixedOrders = true) (hE:EnvOk P G E) {fi:FuncId} {f:Func} (hf:P.funcs[fi]? = some f) (hn:(f.name == "runtime.NumGoroutine") = false) (hb':f.body.isNone = false):zNF P G fi (zNO E f):=by
  refine ⟨⟨f,hf,hn,hb'⟩,fun args h h' v he nt F0 w0 fr m F a w vs hG hr hv=>?_⟩
  change zsb E f (AV × List Obj) args h (fun v h=>some (v,h)) = some (v,h') at he
  unfold zsb at he
  cases hb:f.body with
  | none=>rw [hb] at he; cases he
  | some c =>
    rw [hb] at he
    simp only at he
    have hE':EnvOk P G (inE E f):=⟨hE.types,hE.funs,hE.glob,hE.ext,hE.hnd⟩
    refine calls_of_wp hf hb ?_
    let up:List (AV × Value):=fr.filterMap (fun p=>(look fr p.1).map fun v=>(v,a.tmps.getD p.1 undef)) ++ nt.up
    have hup:∀ v u,(v,u) ∈ up→zh P h m F v u:=by
      intro v u hv
      rcases List.mem_append.1 hv with hv | hv
      · obtain ⟨p,hp,e⟩:=List.mem_filterMap.1 hv
        obtain ⟨v',h1,h2⟩:=Option.map_eq_some_iff.1 e
        cases h2
        exact hr.fr _ _ h1
      · exact hr.up v u hv
    have hst:Rel P ⟨f.ntmps,up,F⟩ F0 w0 ⟨slots args 0,h⟩ m F { tmps:=vs.toArray ++ Array.replicate (f.ntmps - vs.toArray.size) undef,defers:=[] } w:=by
      refine ⟨by simp; omega,fun t v ht=>?_,hup,.refl F,hr.obs,hr.inj,hr.rng,hr.dok,hr.din,hr.fok,hr.gro,hr.bel,rfl⟩
      obtain ⟨_,u,h2,h3⟩:=zzv ht hv
      rw [Nat.sub_zero] at h2
      have hlt:=(List.getElem?_eq_some_iff.1 h2).1
      have:(vs.toArray ++ Array.replicate (f.ntmps - vs.toArray.size) undef).getD t undef = u:=by
        rw [Array.getD_eq_getD_getElem?,Array.getElem?_append_left (by simpa using hlt)]
        simp [h2]
      rw [this]
      exact h3
    refine zJD (nt:=⟨f.ntmps,up,F⟩) (F0:=F0) (w0:=w0) (.inl rfl) hm hE' hG rfl c (r:=(v,h')) ?_ ⟨m,F,hst⟩ he
    rintro e st a' w' ⟨m',F',h2⟩ hfin
    have hdone:(cond ((f.results.toList.map (zdI (inE E f) st)).all Option.isSome && ((f.results.toList.map (zdI (inE E f) st)).filterMap id).all AV.one) (some (unT ((f.results.toList.map (zdI (inE E f) st)).filterMap id),st.h)) none) = some (v,h') →
        a'.defers = [] ∧ ∃ v1,(results f a'.tmps).run P w' = .ok v1 w' ∧ ∃ u m' F',Ending.returned v1 = .returned u ∧ F.le F' ∧ Rel P nt F0 w0 ⟨fr,h'⟩ m' F' a w' ∧ zh P h' m' F' v u:=by
      intro hfin
      obtain ⟨g1,g2⟩:=zd hfin
      rw [Bool.and_eq_true] at g1
      cases g2
      obtain ⟨us,g3,g4⟩:=zwJ hE' h2 (zl4 g1.1)
      refine ⟨h2.dfr,_,g3,_,m',F',rfl,h2.lo,⟨hr.nt,fun t v ht=>?_,fun v u hv=>h2.up v u (List.mem_append.2 (.inr hv)),hr.lo.trans h2.lo,h2.obs,h2.inj,h2.rng,h2.dok,h2.din,h2.fok,h2.gro,h2.bel,hr.dfr⟩,zdW (jB.one g4 g1.2)⟩
      have hmem:∀ (l:List (Nat × AV)),look l t = some v→∃ p ∈ l,p.1 = t:=by
        intro l
        induction l with
        | nil=>intro h; simp [look] at h
        | cons p l ih =>
          intro h
          obtain ⟨k,y⟩:=p
          simp only [look] at h
          cases hb:Nat.beq k t with
          | true=>exact ⟨(k,y),by simp,Nat.eq_of_beq_eq_true hb⟩
          | false=>rw [hb] at h; obtain ⟨p,hp,e⟩:=ih h; exact ⟨p,by simp [hp],e⟩
      obtain ⟨p,hp,rfl⟩:=hmem fr ht
      exact h2.up v _ (List.mem_append.2 (.inl (List.mem_filterMap.2 ⟨p,hp,by rw [ht]; rfl⟩)))
    cases e with
    | normal=>exact hdone hfin
    | ret=>exact hdone hfin
    | exit id=>cases hfin
end
end Go.Ev
end
section
namespace Go.Ev
open Go.RowKit Go.ChangeShapes
def InR:(τ:Ty)→τ.I→Prop
  | .int k,n=>(Lit.int k n).wf = true
  | .str,s=>ByteArray.size s ≤ maxLen
  | .pair a b,x=>InR a x.1 ∧ InR b x.2
  | .st a,x=>InR a x
  | .arr n a,xs=>List.length xs = n ∧ ∀ x ∈ (show List a.I from xs),InR a x
  | .sl a,xs=>List.length xs ≤ maxLen ∧ ∀ x ∈ (show List a.I from xs),InR a x
  | _,_=>True
def Ty.data:Ty→Bool
  | .bool | .int _ | .str | .unit=>true
  | .pair a b=>a.data && b.data
  | .st a=>a.data
  | .arr _ a=>a.data
  | .sl a=>a.data
  | _=>false
mutual
def dbk {H:Type}:DataW H→Nat
  | .slice elems _=>zhH elems + 1
  | .agg parts=>zhH parts + 1
  | _=>1
def zhH {H:Type}:List (DataW H)→Nat
  | []=>0
  | d :: r=>dbk d + zhH r
end
def bkI:(τ:Ty)→τ.I→Nat
  | .unit,_=>0
  | .pair a b,x=>bkI a x.1 + bkI b x.2
  | .st a,x=>bkI a x + 1
  | .arr _ a,xs=>(List.map (bkI a) xs).sum + 1
  | .sl a,xs=>(List.map (bkI a) xs).sum + 1
  | _,_=>1
def WtR:(τ:Ty)→τ.I→Prop
  | .str,s=>ByteArray.size s ≤ reachBytes
  | .pair a b,x=>WtR a x.1 ∧ WtR b x.2
  | .st a,x=>WtR a x
  | .arr _ a,xs=>∀ x ∈ (show List a.I from xs),WtR a x
  | .sl a,xs=>List.length xs * a.bts ≤ reachBytes ∧ ∀ x ∈ (show List a.I from xs),WtR a x
  | _,_=>True
theorem zxL {P:Program} {H:Type} {e:TypeId} {n:Nat} {d:DataW H}:∀ {l:List (DataW H)},d ∈ l→n ∈ DataW.weights P e d→n ∈ DataW.weightsAll P e l
  | x :: l,h,hn=>by
    simp only [DataW.weightsAll,List.mem_append]
    rcases List.mem_cons.1 h with rfl | h
    · exact .inl hn
    · exact .inr (zxL h hn)
theorem zFZ {α β:Type} {f:α→Option β}:∀ (l:List α) (ys:List β),l.mapM f = some ys→ys.length = l.length
  | [],ys,h=>by
    have:ys = []:=by simpa using h.symm
    subst this; rfl
  | x :: l,ys,h=>by
    rw [List.mapM_cons] at h
    simp only [Option.bind_eq_bind,Option.bind_eq_some_iff,Option.pure_def,Option.some.injEq] at h
    obtain ⟨y,_,ys',h2,rfl⟩:=h
    simp [zFZ l ys' h2]
theorem zv6 {H:Type} (d:DataW H):1 ≤ dbk d:=by cases d <;> simp [dbk]
section
variable {P:Program} {H:Type} {enc:TypeId × Value→H} {w:World} {base:Nat} {sp:Nat→Bool} {held:Bool}
theorem zF0 {a:Addr} {j:Nat} {v:Value} (h:w.cell? (a.add j) = some v) (h0:a.spot = none ∨ j = 0):a.spot = none ∧ ∃ c el fz,w.heap[a.block]? = some (.cells c el fz) ∧ c[a.off + j]? = some v:=by
  have hs:a.spot = none:=by
    rcases h0 with h0 | rfl
    · exact h0
    · have:a.add 0 = a:=by unfold Addr.add; rfl
      rw [this] at h
      unfold World.cell? at h
      split at h
      · cases hsp:a.spot with
        | none=>rfl
        | some x=>rw [hsp] at h; simp at h
      · cases h
  refine ⟨hs,?_⟩
  rw [zrV hs] at h
  unfold World.cell? at h
  simp only at h
  split at h
  · rename_i c el fz hk
    exact ⟨c,el,fz,hk,by simpa using h⟩
  · cases h
theorem zF1 {a:Addr} {n:Nat} {cs:List Value} (h:w.cells? base a n = some cs) (hn:0 < n):∃ c,FH.of w a.block = some c ∧ a.spot = none ∧ ∀ (j:Nat) (v:Value),cs[j]? = some v→c[a.off + j]? = some v:=by
  obtain ⟨hb,hl,hc⟩:=World.cells?_some h
  have h0:=hc 0 hn
  rw [List.getElem?_eq_getElem (by omega)] at h0
  obtain ⟨hs,c,el,fz,hk,_⟩:=zF0 h0 (.inr rfl)
  refine ⟨c,by simp [FH.of,hk],hs,fun j v hv=>?_⟩
  have hj:=(List.getElem?_eq_some_iff.1 hv).1
  have:=hc j (by omega)
  rw [hv] at this
  obtain ⟨_,c',_,_,hk',h2⟩:=zF0 this (.inl hs)
  rw [hk] at hk'
  cases hk'
  exact h2
theorem zJG {ad:Addr} {n:Nat} (hn:0 < n) {c:Array Value} (hs:ad.spot = none) (hc:FH.of w ad.block = some c):∀ (m i0:Nat) (css:List (List Value)),((List.range' i0 m).mapM fun i=>w.cells? base (ad.add (i * n)) n) = some css →
    ∀ (j:Nat) (v:Value),css.flatten[j]? = some v→c[ad.off + i0 * n + j]? = some v
  | 0,i0,css,h,j,v,hj=>by simp at h; subst h; simp at hj
  | m + 1,i0,css,h,j,v,hj=>by
    rw [List.range'_succ,List.mapM_cons] at h
    simp only [Option.bind_eq_bind,Option.bind_eq_some_iff,Option.pure_def,Option.some.injEq] at h
    obtain ⟨cs,h1,css',h2,rfl⟩:=h
    have hl:=(World.cells?_some h1).2.1
    obtain ⟨c',h3,_,h5⟩:=zF1 h1 hn
    rw [zrV hs] at h3 h5
    simp only at h3 h5
    rw [hc] at h3
    cases h3
    rw [List.flatten_cons] at hj
    by_cases hjn:j < n
    · rw [List.getElem?_append_left (by omega)] at hj
      exact h5 j v hj
    · rw [List.getElem?_append_right (by omega),hl] at hj
      have:=zJG hn hs hc m (i0 + 1) css' h2 (j - n) v hj
      rw [show ad.off + i0 * n + j = ad.off + (i0 + 1) * n + (j - n) by rw [Nat.add_mul]; omega]
      exact this
theorem zxM {α:Type} {R:α→List Value→Prop} {f:Nat→Option (List Value)} {g:List Value→Option (DataW H × List MemPlace)} {I:α→Prop} {bk:α→Nat} {Wd:DataW H→Prop} {J:α→Prop} (hg:∀ cs y,g cs = some y→∃ x,R x cs ∧ I x ∧ bk x ≤ dbk y.1 ∧ (Wd y.1→J x)) :
    ∀ (l:List Nat) (ys:List (DataW H × List MemPlace)),(l.mapM fun i=>(f i).bind g) = some ys→∃ (xs:List α) (css:List (List Value)),xs.length = l.length ∧ l.mapM f = some css ∧ RepL R xs css.flatten ∧ (∀ x ∈ xs,I x) ∧ (xs.map bk).sum ≤ zhH (ys.map (·.1)) ∧ ((∀ d ∈ ys.map (·.1),Wd d)→∀ x ∈ xs,J x)
  | [],ys,h=>⟨[],[],rfl,rfl,rfl,by simp,Nat.zero_le _,fun _ x hx=>by cases hx⟩
  | i :: l,ys,h=>by
    rw [List.mapM_cons] at h
    simp only [Option.bind_eq_bind,Option.bind_eq_some_iff,Option.pure_def,Option.some.injEq] at h
    obtain ⟨y,⟨cs,hcs,hy⟩,ys',h2,rfl⟩:=h
    obtain ⟨x,hx,hI,hk,hJ⟩:=hg cs y hy
    obtain ⟨xs,css,h3,h4,h5,h6,h7,h8⟩:=zxM hg l ys' h2
    refine ⟨x :: xs,cs :: css,by simp [h3],?_,⟨cs,css.flatten,rfl,hx,h5⟩,?_,by simp only [List.map_cons,List.sum_cons,zhH]; omega,?_⟩
    · rw [List.mapM_cons,hcs,h4]; rfl
    · intro z hz
      rcases List.mem_cons.1 hz with rfl | hz
      · exact hI
      · exact h6 z hz
    · intro hw z hz
      rcases List.mem_cons.1 hz with rfl | hz
      · exact hJ (hw _ (by simp))
      · exact h8 (fun d hd=>hw d (by rw [List.map_cons]; exact List.mem_cons_of_mem _ hd)) z hz
theorem zqD {cs:List Value} {n:Nat}:∀ (m i0:Nat) (css:List (List Value)),(i0 + m) * n ≤ cs.length→((List.range' i0 m).mapM fun i=>some ((cs.drop (i * n)).take n)) = some css→css.flatten = (cs.drop (i0 * n)).take (m * n)
  | 0,i0,css,_,h=>by simp at h; subst h; simp
  | m + 1,i0,css,hl,h=>by
    rw [List.range'_succ,List.mapM_cons] at h
    simp only [Option.bind_eq_bind,Option.bind_some,Option.bind_eq_some_iff,Option.pure_def,Option.some.injEq] at h
    obtain ⟨css',h2,rfl⟩:=h
    have:=zqD m (i0 + 1) css' (by rw [show i0 + 1 + m = i0 + (m + 1) by omega]; exact hl) h2
    rw [List.flatten_cons,this,Nat.add_mul i0 1 n,Nat.one_mul,← List.drop_drop,show (m + 1) * n = n + m * n by rw [Nat.add_mul]; omega,List.take_add]
theorem zMF:∀ (τ:Ty),τ.data = true →
    (∀ (fuel:Nat) (t:TypeId) (cs:List Value) (x:DataW H × List MemPlace),τ.np = true→z4 P t τ→DataW.trod enc P w base sp held fuel t cs = some x→∃ y,Rep P (FH.of w) τ y cs ∧ InR τ y ∧ bkI τ y ≤ dbk x.1 ∧ ((∀ n ∈ DataW.weights P t x.1,n ≤ reachBytes)→WtR τ y)) ∧
    (∀ (fuel:Nat) (fs:List Field) (off:Nat) (cs:List Value) (xs:List (DataW H × List MemPlace)),(tyB P τ).2 fs off = true→(fs.mapM fun f=>DataW.trod enc P w base sp held fuel f.type ((cs.drop f.offset).take (P.cellsOf f.type))) = some xs→cs.length = off + nc τ→∃ y,Rep P (FH.of w) τ y (cs.drop off) ∧ InR τ y ∧ bkI τ y ≤ zhH (xs.map (·.1)) ∧ ((∀ n ∈ DataW.weightsEach P (fs.map (·.type)) (xs.map (·.1)),n ≤ reachBytes)→WtR τ y)):=by
  intro τ
  induction τ with
  | unit =>
    intro _
    refine ⟨fun fuel t cs x _ h=>(by cases h),fun fuel fs off cs xs h _ hl=>⟨(),?_,trivial,Nat.zero_le _,fun _=>trivial⟩⟩
    show cs.drop off = []
    rw [List.drop_eq_nil_iff]
    simp only [nc] at hl
    omega
  | bool =>
    intro _
    refine ⟨fun fuel t cs x _ h hx=>?_,fun fuel fs off cs xs h=>(by cases h)⟩
    have hu:P.underlying t = some .bool:=by
      simp only [z4,tyB,Bool.and_eq_true] at h
      have:=h.2
      split at this
      · assumption
      · cases this
    cases fuel with
    | zero=>simp [DataW.trod] at hx
    | succ fuel =>
      unfold DataW.trod at hx
      rw [hu] at hx
      split at hx <;> first | (cases hx; done) | skip
      all_goals first | exact ⟨_,rfl,trivial,zv6 _,fun _=>trivial⟩ | (rename_i hh; simp at hh)
  | int k =>
    intro _
    refine ⟨fun fuel t cs x _ h hx=>?_,fun fuel fs off cs xs h=>(by cases h)⟩
    have hu:P.underlying t = some (.int k):=by
      simp only [z4,tyB,Bool.and_eq_true] at h
      have:=h.2
      split at this
      · simp only [decide_eq_true_eq] at this; subst this; assumption
      · cases this
    cases fuel with
    | zero=>simp [DataW.trod] at hx
    | succ fuel =>
      unfold DataW.trod at hx
      rw [hu] at hx
      split at hx <;> first | (cases hx; done) | skip
      · rename_i hh; cases hh
      · rename_i k1 k2 n hh
        cases hh
        split at hx
        · rename_i hc; obtain ⟨rfl,hw⟩:=hc; exact ⟨n,rfl,hw,zv6 _,fun _=>trivial⟩
        · cases hx
      all_goals (rename_i hh; simp at hh)
  | str =>
    intro _
    refine ⟨fun fuel t cs x _ h hx=>?_,fun fuel fs off cs xs h=>(by cases h)⟩
    have hu:P.underlying t = some .string:=by
      simp only [z4,tyB,Bool.and_eq_true] at h
      have:=h.2
      split at this
      · assumption
      · cases this
    cases fuel with
    | zero=>simp [DataW.trod] at hx
    | succ fuel =>
      unfold DataW.trod at hx
      rw [hu] at hx
      split at hx <;> first | (cases hx; done) | skip
      all_goals first
        | (rename_i hh; simp at hh; done)
        | (rename_i s hh; split at hx; · rename_i hc; cases hx; exact ⟨s,rfl,hc,zv6 _,fun hw=>by have:=hw s.data.toList.length (by simp [DataW.weights]); exact this⟩
           · cases hx)
        | skip
  | pair a b iha ihb =>
    intro hd
    simp only [Ty.data,Bool.and_eq_true] at hd
    refine ⟨fun fuel t cs x _ h hx=>?_,fun fuel fs off cs xs h hx hl=>?_⟩
    · rename_i hnp; cases hnp
    · cases fs with
      | nil=>cases h
      | cons f fs =>
        simp only [tyB,Bool.and_eq_true] at h
        obtain ⟨⟨⟨⟨h1,h2⟩,h3⟩,_⟩,h4⟩:=h
        obtain rfl:=Nat.eq_of_beq_eq_true h1
        obtain ⟨i,hi,hsz⟩:=z4.size h2 (Ty.np_spec h3.2)
        rw [List.mapM_cons] at hx
        simp only [Option.bind_eq_bind,Option.bind_eq_some_iff,Option.pure_def,Option.some.injEq] at hx
        obtain ⟨x1,hx1,xs2,hx2,rfl⟩:=hx
        have hcells:P.cellsOf f.type = nc a:=by unfold Program.cellsOf; rw [hi]; exact hsz
        rw [hcells] at hx1
        obtain ⟨y1,g1,g2,b1,c1⟩:=(iha hd.1).1 fuel f.type _ x1 h3.2 h2 hx1
        simp only [nc] at hl
        obtain ⟨y2,g3,g4,b2,c2⟩:=(ihb hd.2).2 fuel fs (f.offset + nc a) cs xs2 h4 hx2 (by omega)
        refine ⟨(y1,y2),⟨_,_,?_,g1,g3⟩,⟨g2,g4⟩,by simp only [bkI,List.map_cons,zhH]; omega,fun hw=>?_⟩
        rotate_left
        · simp only [List.map_cons,DataW.weightsEach,List.mem_append] at hw
          exact ⟨c1 fun n hn=>hw n (.inl hn),c2 fun n hn=>hw n (.inr hn)⟩
        rw [← List.drop_drop,List.take_append_drop]
  | st a iha =>
    intro hd
    refine ⟨fun fuel t cs x _ h hx=>?_,fun fuel fs off cs xs h=>(by cases h)⟩
    obtain ⟨fs,hu,hf,_⟩:=z4.st h
    obtain ⟨i,hi,hsz⟩:=z4.size h (by intro a b e; cases e)
    have hcells:P.cellsOf t = nc a:=by unfold Program.cellsOf; rw [hi]; exact hsz
    cases fuel with
    | zero=>simp [DataW.trod] at hx
    | succ fuel =>
      unfold DataW.trod at hx
      rw [hu] at hx
      simp only at hx
      split at hx
      · rename_i hl
        simp only [Option.map_eq_some_iff] at hx
        obtain ⟨xs,hx,rfl⟩:=hx
        obtain ⟨y,g1,g2,b1,c1⟩:=(iha hd).2 fuel fs.toList 0 cs xs hf hx (by omega)
        refine ⟨y,g1,g2,by simp only [bkI,dbk]; omega,fun hw=>c1 ?_⟩
        simp only [DataW.weights,hu] at hw
        exact hw
      · cases hx
  | arr n a iha =>
    intro hd
    refine ⟨fun fuel t cs x _ h hx=>?_,fun fuel fs off cs xs h=>(by cases h)⟩
    obtain ⟨e,hu,he,hpos,hnp,_⟩:=z4.arr h
    obtain ⟨i,hi,hsz⟩:=z4.size h (by intro a b e; cases e)
    obtain ⟨ie,hie,hsze⟩:=z4.size he (Ty.np_spec hnp)
    have hcells:P.cellsOf t = n * nc a:=by unfold Program.cellsOf; rw [hi]; exact hsz
    have hcellse:P.cellsOf e = nc a:=by unfold Program.cellsOf; rw [hie]; exact hsze
    cases fuel with
    | zero=>simp [DataW.trod] at hx
    | succ fuel =>
      unfold DataW.trod at hx
      rw [hu] at hx
      simp only at hx
      split at hx
      · rename_i hl
        simp only [Option.map_eq_some_iff] at hx
        obtain ⟨xs,hx,rfl⟩:=hx
        rw [hcellse] at hx
        obtain ⟨ys,css,h1,h2,h3,h4,h5,h6⟩:=zxM (bk:=bkI a) (Wd:=fun d=>∀ n ∈ DataW.weights P e d,n ≤ reachBytes) (J:=WtR a) (f:=fun i=>some ((cs.drop (i * nc a)).take (nc a))) (g:=DataW.trod enc P w base sp held fuel e) (R:=Rep P (FH.of w) a) (I:=InR a) (fun cs y hy=>(iha hd).1 fuel e cs y hnp he hy) (List.range n) xs hx
        rw [List.range_eq_range'] at h2
        have:=zqD n 0 css (by rw [Nat.zero_add]; omega) h2
        rw [this] at h3
        simp only [Nat.zero_mul,List.drop_zero] at h3
        rw [List.take_of_length_le (by omega)] at h3
        refine ⟨ys,⟨by simpa using h1,h3⟩,⟨by simpa using h1,h4⟩,by simp only [bkI,dbk]; omega,fun hw=>h6 fun d hd n hn=>?_⟩
        simp only [DataW.weights,hu] at hw
        exact hw n (zxL hd hn)
      · cases hx
  | sl a iha =>
    intro hd
    refine ⟨fun fuel t cs x _ h hx=>?_,fun fuel fs off cs xs h=>(by cases h)⟩
    obtain ⟨e,hu,he,hpos,hnp⟩:=z4.sl h
    obtain ⟨ie,hie,hsze⟩:=z4.size he (Ty.np_spec hnp)
    have hcellse:P.cellsOf e = nc a:=by unfold Program.cellsOf; rw [hie]; exact hsze
    cases fuel with
    | zero=>simp [DataW.trod] at hx
    | succ fuel =>
      unfold DataW.trod at hx
      rw [hu] at hx
      split at hx <;> first | (cases hx; done) | skip
      all_goals first
        | (rename_i hh; cases hh; done)
        | exact ⟨[],⟨_,0,rfl,Nat.le_refl _,fun hne=>absurd rfl hne⟩,⟨Nat.zero_le _,fun x hx=>(by cases hx)⟩,zv6 _,fun _=>⟨by simp,fun x hx=>(by cases hx)⟩⟩
        | skip
      rename_i e' ad len cap heq
      simp only [Option.some.injEq,TypeDesc.slice.injEq] at heq
      subst heq
      simp only at hx
      split at hx
      · rename_i hc
        simp only [Option.bind_eq_some_iff] at hx
        obtain ⟨elems,hx,hx2⟩:=hx
        rw [hcellse] at hx
        obtain ⟨ys,css,h1,h2,h3,h4,h5,h6⟩:=zxM (bk:=bkI a) (Wd:=fun d=>∀ n ∈ DataW.weights P e d,n ≤ reachBytes) (J:=WtR a) (f:=fun i=>w.cells? base (ad.add (i * nc a)) (nc a)) (g:=DataW.trod enc P w base sp held fuel e) (R:=Rep P (FH.of w) a) (I:=InR a) (fun cs y hy=>(iha hd).1 fuel e cs y hnp he hy) (List.range len) elems hx
        rw [List.length_range] at h1
        refine ⟨ys,⟨some ad,cap,by rw [h1],by rw [h1]; exact hc.2.1,fun hne=>?_⟩,⟨(show ys.length ≤ maxLen by omega),h4⟩,?_,fun hw=>?_⟩
        rotate_left
        · obtain ⟨rest,-,rfl⟩:=Option.map_eq_some_iff.1 hx2
          simp only [bkI,dbk]; omega
        · obtain ⟨rest,-,rfl⟩:=Option.map_eq_some_iff.1 hx2
          simp only [DataW.weights,hu,List.mem_cons,List.mem_append] at hw
          have hel:=zFZ _ _ hx
          rw [List.length_range] at hel
          have hb:=he.bts (Ty.np_spec hnp)
          refine ⟨?_,h6 fun d hd n hn=>hw n (.inr (.inl (zxL hd hn)))⟩
          have h9:=hw _ (.inl rfl)
          rw [hb,List.length_map,hel] at h9
          refine Nat.le_trans (Nat.mul_le_mul_right _ ?_) h9
          rw [h1]; exact Nat.le_add_right _ _
        have hlen:0 < len:=by
          rw [← h1]
          exact List.length_pos_iff.2 hne
        rw [List.range_eq_range'] at h2
        obtain ⟨m,rfl⟩:∃ m,len = m + 1:=⟨len - 1,by omega⟩
        have h2':=h2
        rw [List.range'_succ,List.mapM_cons] at h2'
        simp only [Option.bind_eq_bind,Option.bind_eq_some_iff,Option.pure_def,Option.some.injEq] at h2'
        obtain ⟨cs0,g1,_⟩:=h2'
        rw [Nat.zero_mul,show ad.add 0 = ad from rfl] at g1
        obtain ⟨c,g2,g3,g4⟩:=zF1 g1 hpos
        refine ⟨ad,css.flatten,rfl,⟨g3,c,g2,fun j v hv=>?_⟩,h3⟩
        have:=zJG hpos g3 g2 (m + 1) 0 css h2 j v hv
        simpa using this
      · cases hx
  | ptr a=>intro hd; cases hd
  | fn a b=>intro hd; cases hd
def tyL (P:Program):Ty→List TypeId→Bool
  | .unit,[]=>true
  | .pair a b,t :: ts=>(tyB P a).1 t && a.np && a.data && tyL P b ts
  | _,_=>false
theorem zwK:∀ {τ:Ty} {ts:List TypeId} {vs:List Value} {ds:List (DataW H)} {ps:List MemPlace},tyL P τ ts = true→DataW.TrodAll enc P w base sp held ts vs ds ps→(∀ (j:Nat) (t:TypeId) (v:Value),ts[j]? = some t→vs[j]? = some v→∃ W r b,Value.okWide P W r b t v) →
    ∃ x,RepA P (FH.of w) τ x vs ∧ InR τ x ∧ bkI τ x ≤ zhH ds ∧ ((∀ n ∈ DataW.weightsEach P ts ds,n ≤ reachBytes)→WtR τ x)
  | .unit,[],[],[],ps,_,_,_=>⟨(),rfl,trivial,Nat.zero_le _,fun _=>trivial⟩
  | .pair a b,t :: ts,v :: vs,d :: ds,ps,h,hr,hf=>by
    simp only [tyL,Bool.and_eq_true] at h
    obtain ⟨⟨⟨h1,h2⟩,h3⟩,h4⟩:=h
    obtain ⟨p,q,⟨fuel,h5⟩,h6,_⟩:=hr
    obtain ⟨y,g1,g2,b1,c1⟩:=(zMF a h3).1 fuel t v.cells.toList (d,p) h2 h1 h5
    obtain ⟨x,g3,g4,b2,c2⟩:=zwK h4 h6 fun j t v ht hv=>hf (j + 1) t v (by simpa using ht) (by simpa using hv)
    refine ⟨(y,x),⟨v,vs,rfl,g1,?_,g3⟩,⟨g2,g4⟩,by simp only [bkI,zhH]; exact Nat.add_le_add b1 b2,fun hw=>by
      simp only [DataW.weightsEach,List.mem_append] at hw
      exact ⟨c1 fun n hn=>hw n (.inl hn),c2 fun n hn=>hw n (.inr hn)⟩⟩
    obtain ⟨W,r,b0,hform⟩:=hf 0 t v rfl rfl
    obtain ⟨de,hu,hagg⟩:=z4.isAgg h1
    unfold Value.okWide at hform
    rw [hu] at hform
    rw [← hagg]
    have hno:∀ cs,v = .agg cs→Cell.okWide P W r b0 t v→(match de with | .struct _ | .array _ _=>true | _=>false) = false→False:=by
      rintro cs rfl hc hde
      unfold Cell.okWide at hc
      rw [hu] at hc
      cases de <;> simp [Cell.ok,hu] at hc hde
    cases de <;> simp only at hform hno ⊢
    case struct=>obtain ⟨cs,rfl,_⟩:=hform; rfl
    case array=>obtain ⟨cs,rfl,_⟩:=hform; rfl
    all_goals (cases v <;> first | rfl | exact (hno _ rfl hform trivial).elim)
  | .unit,[],[],_ :: _,_,_,h,_=>h.elim
  | .unit,[],_ :: _,_,_,_,h,_=>(by cases h)
  | .unit,_ :: _,_,_,_,h,_,_=>(by cases h)
  | .pair _ _,[],_,_,_,h,_,_=>(by cases h)
  | .pair _ _,_ :: _,[],_,_,_,h,_=>(by cases h)
  | .pair _ _,_ :: _,_ :: _,[],_,_,h,_=>(by cases h)
  | .bool,_,_,_,_,h,_,_=>(by cases h)
  | .int _,_,_,_,_,h,_,_=>(by cases h)
  | .str,_,_,_,_,h,_,_=>(by cases h)
  | .st _,_,_,_,_,h,_,_=>(by cases h)
  | .arr _ _,_,_,_,_,h,_,_=>(by cases h)
  | .sl _,_,_,_,_,h,_,_=>(by cases h)
  | .ptr _,_,_,_,_,h,_,_=>(by cases h)
  | .fn _ _,_,_,_,_,h,_,_=>(by cases h)
theorem zsD {W W':World} (hl:laidOutB P = true) (hb:Below W.heap.size W W'):∀ {ts:List TypeId} {vs:List Value} {ds:List (DataW H)} {ps:List MemPlace},
    (∀ t ∈ ts,P.readableRec t = true ∧ t < P.types.size)→DataW.TrodAll enc P W 0 (fun _=>true) true ts vs ds ps→(∀ x ∈ ps,x.block < W.heap.size)→∀ s:Nat→Bool,(∀ p ∈ ps,s p.block = true)→DataW.TrodAll enc P W' 0 s true ts vs ds ps
  | [],[],[],ps,_,h,_,s,_=>h
  | t :: ts,v :: vs,d :: ds,ps,ht,⟨p,q,h1,h2,e⟩,hlt,s,hs=>by
    subst e
    have h0:=ht t (by simp)
    refine ⟨p,q,?_,zsD hl hb (fun t' h'=>ht t' (by simp [h'])) h2 (fun x hx=>hlt x (by simp [hx])) s (fun x hx=>hs x (by simp [hx])),rfl⟩
    exact WideElems.Trod_stays hl h0.1 h0.2 h1 (fun x hx=>hb.same (hlt x (by simp [hx]))) (fun x hx=>hs x (by simp [hx]))
  | [],[],_ :: _,_,_,h,_,_,_=>h.elim
  | [],_ :: _,_,_,_,h,_,_,_=>h.elim
  | _ :: _,[],_,_,_,h,_,_,_=>h.elim
  | _ :: _,_ :: _,[],_,_,h,_,_,_=>h.elim
end
section
variable {P:Program} {H:Type} {enc:TypeId × Value→H}
theorem zzw {n:Nat}:∀ {ts us:List TypeId} {ds gs:List (DataW H)},n ∈ DataW.weightsEach P ts ds→n ∈ DataW.weightsEach P (ts ++ us) (ds ++ gs)
  | t :: ts,us,d :: ds,gs,h=>by
    simp only [List.cons_append,DataW.weightsEach,List.mem_append] at h ⊢
    exact h.imp id zzw
  | [],_,_,_,h=>by simp [DataW.weightsEach] at h
  | _ :: _,_,[],_,h=>by simp [DataW.weightsEach] at h
theorem zDs {fi:FuncId} {f:Func} {a:Ty} {tb:TypeId} {spec:ChangeSpec} {W:World} {base:Nat} {args:Array Value} {ds gs:List (DataW H)} {before:List MemPlace}
    (hl:laidOutB P = true) (hts:∀ t ∈ f.params.toList,P.readableRec t = true ∧ t < P.types.size) (hty:tyL P a f.params.toList = true) (hres:f.resultTypes = #[tb]) (hbool:P.underlying tb = some .bool) (hvars:spec.vars = [])
    (hfn:∀ ds:List (DataW H),ds.length = f.params.size→spec.fn H ds = { results:=[.lit (.bool true)],args:=ds })
    (hval:∀ (j:Nat) t v,f.params[j]? = some t→args[j]? = some v→Value.okWide P W .any base t v)
    (hW:DataW.Whole enc P f.params.toList spec.vars false W args.toList ds gs before)
    (hcall:∀ x,InR a x→bkI a x ≤ zhH ds→((∀ n ∈ DataW.weightsEach P f.params.toList ds,n ≤ reachBytes)→WtR a x)→RepA P (FH.of W) a x args.toList→Calls P fi args W fun e W'=>e = .returned (.bool true) ∧ Below W.heap.size W W') :
    Calls P fi args W fun e W'=>∃ v,e = .returned v ∧ spec.post enc P f false true false false W args v W':=by
  have hW':=hW
  obtain ⟨p,q,hA,hV,rfl,hfz,hnd⟩:=hW
  rw [hvars] at hV
  obtain ⟨rfl,rfl⟩:=trodVars_none hV
  have hlt:∀ x ∈ p,x.block < W.heap.size:=fun x hx=>by simpa using hW'.lt x (by simp [hx])
  obtain ⟨x,hx,hin,hbk,hwt⟩:=zwK (w:=W) hty hA fun j t v ht hv=>⟨W,.any,base,hval j t v (by rw [← Array.getElem?_toList]; exact ht) (by rw [← Array.getElem?_toList]; exact hv)⟩
  have hlen:∀ {ts:List TypeId} {vs:List Value} {ds:List (DataW H)} {ps:List MemPlace},DataW.TrodAll enc P W 0 (fun _=>true) true ts vs ds ps→ds.length = ts.length:=by
    intro ts
    induction ts with
    | nil=>intro vs ds ps h; cases vs <;> cases ds <;> first | rfl | exact h.elim
    | cons t ts ih=>intro vs ds ps h; cases vs <;> cases ds <;> first | exact h.elim | (obtain ⟨_,_,_,h2,_⟩:=h; simp [ih h2])
  have hfn':=hfn ds (by rw [hlen hA]; simp)
  refine (hcall x hin hbk hwt hx).mono fun e W' ⟨he,hb⟩=>?_
  subst he
  simp only [List.append_nil] at *
  refine ⟨_,rfl,ds,[],p,[],p,[],hW',?_,?_,?_,hb.frame _,fun h=>(by cases h)⟩
  · rw [List.append_nil,hfn',hres]
    exact trodAll_cons_mk (shut_bool hbool _) trodAll_mk0
  · rw [List.append_nil,hfn']
    exact zsD hl hb hts hA hlt _ (fun x hx=>by simpa using hlt x hx)
  · rw [List.append_nil,hfn',hvars]
    rfl
end
end Go.Ev
end
section
namespace Go.Ev
open Go.RowKit
section
variable {P:Program} {G:FH} {E:Env}
theorem znl.mk (hm:P.follows .mixedOrders = true) (hE:EnvOk P G E) {fi:FuncId} {f:Func} (hf:P.funcs[fi]? = some f) (hn:(f.name == "runtime.NumGoroutine") = false) (hb:f.body.isNone = false)
    {F:Fun} (h:∀ x y,F.spec x = some y→∃ K,evF E K f F.md F.a F.r x = some y):znl P G fi F:=by
  refine ⟨⟨f,hf,hn,hb⟩,fun x y hy F0 w vs hG hk hr=>?_⟩
  obtain ⟨K,he⟩:=h x y hy
  exact zLP hm hE hf he hG hk hr
theorem EnvOk.nil {types:TT} {nt:Nat} {dp:Bool} (ht:types.all (fun k τ=>(tyB P τ).1 k) = true) {glob:List (Nat × AV)} (hg:∀ g v,look glob g = some v→∃ τ x cs,v = .dat (.ptr τ) (some x) ∧ At G ⟨g,0,none⟩ cs ∧ Rep P G τ x cs) {ext:List (Nat × Bool)} {jn:List Nat} (hx:∀ f add,look ext f = some add→ExtOk P f add):EnvOk P G ⟨types,[],glob,nt,dp,ext,jn,fun _=>none,false,false⟩ :=
  ⟨fun t τ h=>TT.all_look ht h,fun f F h=>by simp [look] at h,hg,hx,fun f H h=>by cases h⟩
theorem EnvOk.deep (hE:EnvOk P G E) (d:Bool):EnvOk P G { E with deep:=d }:=⟨hE.types,hE.funs,hE.glob,hE.ext,hE.hnd⟩
theorem EnvOk.cons (hE:EnvOk P G E) {fi:FuncId} {F:Fun} (h:znl P G fi F):EnvOk P G { E with funs:=(fi,F) :: E.funs }:=by
  refine ⟨hE.types,fun f F' h'=>?_,hE.glob,hE.ext,hE.hnd⟩
  simp only [look] at h'
  cases hb:Nat.beq fi f with
  | true =>
    rw [hb] at h'
    simp only [cond_true,Option.some.injEq] at h'
    subst h'
    rw [← Nat.eq_of_beq_eq_true hb]
    exact h
  | false=>rw [hb] at h'; exact hE.funs f F' h'
end
end Go.Ev
end
section
namespace Go.Ev
theorem zF2 {n:Nat} (h:n ≤ Go.maxLen):IntKind.wrap .i64 (n:Int) = (n:Int):=by
  unfold Go.maxLen at h
  exact IntWalk.i64_in _ (by omega)
def vf {α:Type} (p:α→Bool):List α→Int→Int
  | [],_=>-1
  | x :: xs,i=>cond (p x) i (vf p xs (i + 1))
theorem zxN {α:Type} {p:α→Bool}:∀ (xs:List α) (i:Int),0 ≤ i→decide (vf p xs i ≥ 0) = xs.any p
  | [],_,_=>rfl
  | x :: xs,i,h=>by
    have ih:=zxN (p:=p) xs (i + 1) (by omega)
    simp only [vf,List.any_cons]
    by_cases hp:p x = true
    · simp [hp,h]
    · simp only [Bool.not_eq_true] at hp
      simp only [hp,cond_false,Bool.false_or]
      exact ih
end Go.Ev
end
section
namespace Go.Ev
theorem zzx {i len:Nat} (h:i < len) (hl:len ≤ Go.maxLen):IntKind.wrap .i64 ((i:Int) + 1) = (i:Int) + 1:=by
  rw [show (i:Int) + 1 = ((i + 1:Nat):Int) by omega]
  exact zF2 (by omega)
theorem zb2 {α:Type} {l:List α} {i:Nat} (d:α) (h:i < l.length):l.drop i = l.getD i d :: l.drop (i + 1):=by
  rw [List.drop_eq_getElem_cons h]
  simp [List.getD,h]
theorem zMG {σ ρ:Type} {L:Nat→Int→σ→Option ρ} {len:Nat} (hl:len ≤ Go.maxLen) (F:Nat→σ→Option ρ) (I:Nat→σ→Prop)
    (hstep:∀ n i s,i < len→I i s→(∀ s',I (i + 1) s'→L n ((i:Int) + 1) s' = F (i + 1) s')→L (n + 1) (i:Int) s = F i s)
    (hend:∀ n s,I len s→L (n + 1) (len:Int) s = F len s) :
    ∀ (k i n:Nat) (s:σ),i + k = len→k < n→I i s→L n (i:Int) s = F i s:=by
  intro k
  induction k with
  | zero =>
    intro i n s hi hn hI
    obtain ⟨m,rfl⟩:∃ m,n = m + 1:=⟨n - 1,by omega⟩
    obtain rfl:i = len:=by omega
    exact hend m s hI
  | succ k ih =>
    intro i n s hi hn hI
    obtain ⟨m,rfl⟩:∃ m,n = m + 1:=⟨n - 1,by omega⟩
    refine hstep m i s (by omega) hI fun s' hI'=>?_
    have:=ih (i + 1) m s' (by omega) (by omega) hI'
    rw [show (i:Int) + 1 = ((i + 1:Nat):Int) by omega]
    exact this
theorem zLQ {σ ρ:Type} {L:Nat→Int→σ→Option ρ} {len:Nat} (hl:len ≤ Go.maxLen) (F:Nat→σ→Option ρ) (I:Nat→σ→Prop)
    (hstep:∀ n i s,i < len→I i s→(∀ s',I (i + 1) s'→L n ((i:Int) + 1) s' = F (i + 1) s')→L (n + 1) (i:Int) s = F i s)
    (hend:∀ n s,I len s→L (n + 1) (len:Int) s = F len s) (n:Nat) (hn:len < n) (s:σ) (h0:I 0 s):L n 0 s = F 0 s :=
  zMG hl F I hstep hend len 0 n s (by omega) hn h0
end Go.Ev
end
section
namespace Go.Ev
abbrev Fnc (A R:Ty):Type:=A.I→Option R.I
def zg {σ ρ:Type} (B:(σ→Option ρ)→σ→Option ρ):Nat→σ→Option ρ
  | 0,_=>none
  | n + 1,s=>B (zg B n) s
noncomputable def evV {σ:Type} (E:Env) (K:Nat) (f:Func) (md:Nat) (R:Ty) (p ns:List Nat) (S:σ→St) (n:Nat):σ→Option R.I:=fun s=>evL E K f md R p ns n (S s)
theorem zF3 {E:Env} {K:Nat} {f:Func} {md:Nat} {R:Ty} {p ns:List Nat} {st:St}:evL E K f md R p ns 0 st = none:=by
  unfold evL
  split
  · split <;> rfl
  · rfl
theorem zp {σ:Type} {E:Env} {K:Nat} {f:Func} {md:Nat} {R:Ty} {p ns:List Nat} {S:σ→St} {B:(σ→Option R.I)→σ→Option R.I}
    (h:∀ n s,evV E K f md R p ns S (n + 1) s = B (evV E K f md R p ns S n) s):∀ n,evV E K f md R p ns S n = zg B n
  | 0=>by funext s; exact zF3
  | n + 1=>by funext s; rw [h,zp h n]; rfl
theorem qB {σ τ:Type} {E:Env} {K:Nat} {f:Func} {md:Nat} {R:Ty} {p ns:List Nat} {S:σ→St} {B:(τ→Option R.I)→(σ→Option R.I)→σ→Option R.I} {V1:Nat→τ→Option R.I} {W1:(σ→Option R.I)→τ→Option R.I}
    (h1:∀ n,V1 n = W1 (evV E K f md R p ns S n)) (h:∀ n s,evV E K f md R p ns S (n + 1) s = B (V1 n) (evV E K f md R p ns S n) s):∀ n,evV E K f md R p ns S n = zg (fun k=>B (W1 k) k) n :=
  zp fun n s=>by rw [← h1]; exact h n s
theorem zLR {σ τ υ:Type} {E:Env} {K:Nat} {f:Func} {md:Nat} {R:Ty} {p ns:List Nat} {S:σ→St} {B:(τ→Option R.I)→(υ→Option R.I)→(σ→Option R.I)→σ→Option R.I} {V1:Nat→τ→Option R.I} {W1:(σ→Option R.I)→τ→Option R.I} {V2:Nat→υ→Option R.I} {W2:(σ→Option R.I)→υ→Option R.I}
    (h1:∀ n,V1 n = W1 (evV E K f md R p ns S n)) (h2:∀ n,V2 n = W2 (evV E K f md R p ns S n)) (h:∀ n s,evV E K f md R p ns S (n + 1) s = B (V1 n) (V2 n) (evV E K f md R p ns S n) s):∀ n,evV E K f md R p ns S n = zg (fun k=>B (W1 k) (W2 k) k) n :=
  zp fun n s=>by rw [← h1,← h2]; exact h n s
def zzy {σ τ ρ:Type} (B0:(τ→Option ρ)→σ→Option ρ) (B1:(τ→Option ρ)→τ→Option ρ):Nat→σ→Option ρ
  | 0,_=>none
  | n + 1,s=>B0 (zg B1 n) s
theorem zLS {σ τ:Type} {E:Env} {K:Nat} {f:Func} {md:Nat} {R:Ty} {p ns:List Nat} {S0:σ→St} {S1:τ→St} {B0:(τ→Option R.I)→σ→Option R.I} {B1:(τ→Option R.I)→τ→Option R.I}
    (h1:∀ n,evV E K f md R p ns S1 n = zg B1 n) (h:∀ n s,evV E K f md R p ns S0 (n + 1) s = B0 (evV E K f md R p ns S1 n) s):∀ n,evV E K f md R p ns S0 n = zzy B0 B1 n
  | 0=>by funext s; exact zF3
  | n + 1=>by funext s; rw [h,h1]; rfl
def gt {σ ρ:Type} (B:σ→Option ρ):Nat→σ→Option ρ
  | 0,_=>none
  | _ + 1,s=>B s
noncomputable def evW {σ:Type} (E:Env) (K:Nat) (f:Func) (md:Nat) (R:Ty) (p ns:List Nat) (S:σ→St) (n:Nat):σ→Option R.I:=fun s=>evG E K f md R p ns n (S s)
theorem zMH {E:Env} {K:Nat} {f:Func} {md:Nat} {R:Ty} {p ns:List Nat} {st:St}:evG E K f md R p ns 0 st = none:=by
  unfold evG
  split
  · split <;> rfl
  · rfl
theorem zLT {σ:Type} {E:Env} {K:Nat} {f:Func} {md:Nat} {R:Ty} {p ns:List Nat} {S:σ→St} {B:σ→Option R.I} (h:∀ n s,evW E K f md R p ns S (n + 1) s = B s):∀ n,evW E K f md R p ns S n = gt B n
  | 0=>by funext s; exact zMH
  | n + 1=>by funext s; exact h n s
theorem zJH {σ τ:Type} {E:Env} {K:Nat} {f:Func} {md:Nat} {R:Ty} {p ns:List Nat} {S:σ→St} {B:(τ→Option R.I)→σ→Option R.I} {V1 W1:τ→Option R.I} (h1:V1 = W1)
    (h:∀ n s,evW E K f md R p ns S (n + 1) s = B V1 s):∀ n,evW E K f md R p ns S n = gt (B W1) n:=zLT fun n s=>by rw [← h1]; exact h n s
theorem tr1 {α X Y:Type} {T:α→X→Y} {V W:α} (h:V = W) {F:X→Y} (hx:∀ x,F x = T V x):F = T W:=by subst h; funext x; exact hx x
def En (E:Env) (d:Bool) (l:List Fun):Env:=⟨E.types,l.map fun F=>(F.id,F),E.glob,0,d,E.ext,[],fun _=>none,false,false⟩
def Ej (E:Env) (d:Bool) (js:List Nat) (l:List Fun):Env:=⟨E.types,l.map fun F=>(F.id,F),E.glob,0,d,E.ext,js,fun _=>none,false,js.any (Nat.beq 999999)⟩
def Sd (P:Program) (E:Env) (F:Fun):Prop:=∀ G,EnvOk P G E→znl P G F.id F
def Sds (P:Program) (E:Env):List Fun→Prop
  | []=>True
  | F :: l=>Sd P E F ∧ Sds P E l
def jl (f:Func):Bool:=!(f.name == "runtime.NumGoroutine") && !f.body.isNone
theorem Sds.env {P:Program} {E:Env} {l:List Fun} {d:Bool} {G:FH} (h:Sds P E l) (hE:EnvOk P G E):EnvOk P G (En E d l):=by
  refine ⟨hE.types,?_,hE.glob,hE.ext,fun f H h=>by cases h⟩
  intro f F hf
  have key:∀ l:List Fun,Sds P E l→look (l.map fun F=>(F.id,F)) f = some F→znl P G f F:=by
    intro l
    induction l with
    | nil=>intro _ h; cases h
    | cons F' l ih =>
      intro hs hl
      simp only [List.map_cons,look] at hl
      cases hb:Nat.beq F'.id f with
      | true =>
        rw [hb] at hl
        cases hl
        rw [← Nat.eq_of_beq_eq_true hb]
        exact hs.1 G hE
      | false=>rw [hb] at hl; exact ih hs.2 hl
  exact key l h hf
theorem Sds.envJ {P:Program} {E:Env} {l:List Fun} {d:Bool} {js:List Nat} {G:FH} (h:Sds P E l) (hE:EnvOk P G E):EnvOk P G (Ej E d js l) :=
  have h':=h.env (d:=d) hE
  ⟨h'.types,h'.funs,h'.glob,h'.ext,fun f H h=>by cases h⟩
theorem Sd.mkJ {P:Program} {E:Env} {l:List Fun} {d:Bool} {js:List Nat} {F:Fun} {f:Func} {K:Nat} (hm:P.follows .mixedOrders = true) (hl:Sds P E l) (hf:P.funcs[F.id]? = some f) (ho:jl f = true)
    (h:evF (Ej E d js l) K f F.md F.a F.r = F.spec):Sd P E F:=by
  intro G hE
  unfold jl at ho
  simp only [Bool.and_eq_true,Bool.not_eq_true'] at ho
  exact znl.mk hm (hl.envJ hE) hf ho.1 ho.2 fun x y hy=>⟨K,by rw [h]; exact hy⟩
theorem Sd.mk {P:Program} {E:Env} {l:List Fun} {d:Bool} {F:Fun} {f:Func} {K:Nat} (hm:P.follows .mixedOrders = true) (hl:Sds P E l) (hf:P.funcs[F.id]? = some f) (ho:jl f = true)
    (h:evF (En E d l) K f F.md F.a F.r = F.spec):Sd P E F:=by
  intro G hE
  unfold jl at ho
  simp only [Bool.and_eq_true,Bool.not_eq_true'] at ho
  exact znl.mk hm (hl.env hE) hf ho.1 ho.2 fun x y hy=>⟨K,by rw [h]; exact hy⟩
def FOk (P:Program):List (Nat × Func)→Prop
  | []=>True
  | p :: l=>(P.funcs[p.1]? = some p.2 ∧ jl p.2 = true) ∧ FOk P l
theorem FOk.look {P:Program}:∀ {l:List (Nat × Func)} {i:Nat} {f:Func},FOk P l→look l i = some f→P.funcs[i]? = some f ∧ jl f = true
  | (j,g) :: l,i,f,h,hl=>by
    simp only [Go.Ev.look] at hl
    cases hb:Nat.beq j i with
    | true=>rw [hb] at hl; cases hl; rw [← Nat.eq_of_beq_eq_true hb]; exact h.1
    | false=>rw [hb] at hl; exact FOk.look h.2 hl
theorem EnvOk.inl {P:Program} {G:FH} {E:Env} (hm:P.follows .mixedOrders = true) (hE:EnvOk P G E) {fs:List (Nat × Func)} (hfs:FOk P fs):∀ d,EnvOk P G (E.inl fs d)
  | 0=>hE
  | d + 1=>⟨hE.types,hE.funs,hE.glob,hE.ext,fun i H h=>by
    obtain ⟨fn,h1,rfl⟩:=Option.map_eq_some_iff.1 h
    obtain ⟨h2,h3⟩:=hfs.look h1
    unfold jl at h3
    simp only [Bool.and_eq_true,Bool.not_eq_true'] at h3
    exact zNh hm (EnvOk.inl hm hE hfs d) h2 h3.1 h3.2⟩
theorem Sd.mkI {P:Program} {E:Env} {l:List Fun} {d:Bool} {js:List Nat} {fs:List (Nat × Func)} {n:Nat} {F:Fun} {f:Func} {K:Nat} (hm:P.follows .mixedOrders = true) (hl:Sds P E l) (hfs:FOk P fs) (hf:P.funcs[F.id]? = some f) (ho:jl f = true)
    (h:evF ((Ej E d js l).inl fs n) K f F.md F.a F.r = F.spec):Sd P E F:=by
  intro G hE
  unfold jl at ho
  simp only [Bool.and_eq_true,Bool.not_eq_true'] at ho
  exact znl.mk hm ((hl.envJ hE).inl hm hfs n) hf ho.1 ho.2 fun x y hy=>⟨K,by rw [h]; exact hy⟩
@[reducible] def ch:List Ty→Ty
  | []=>.unit
  | a :: l=>.pair a (ch l)
abbrev u0 {a0 a1:Type} (x:a0 × a1) (v:a0):a0 × a1:=(v,x.2)
abbrev u1 {a0 a1 a2:Type} (x:a0 × a1 × a2) (v:a1):a0 × a1 × a2:=(x.1,v,x.2.2)
abbrev u2 {a0 a1 a2 a3:Type} (x:a0 × a1 × a2 × a3) (v:a2):a0 × a1 × a2 × a3:=(x.1,x.2.1,v,x.2.2.2)
abbrev u5 {a0 a1 a2 a3 a4 a5 a6:Type} (x:a0 × a1 × a2 × a3 × a4 × a5 × a6) (v:a5):a0 × a1 × a2 × a3 × a4 × a5 × a6:=(x.1,x.2.1,x.2.2.1,x.2.2.2.1,x.2.2.2.2.1,v,x.2.2.2.2.2.2)
abbrev u7 {a0 a1 a2 a3 a4 a5 a6 a7 a8:Type} (x:a0 × a1 × a2 × a3 × a4 × a5 × a6 × a7 × a8) (v:a7):a0 × a1 × a2 × a3 × a4 × a5 × a6 × a7 × a8:=(x.1,x.2.1,x.2.2.1,x.2.2.2.1,x.2.2.2.2.1,x.2.2.2.2.2.1,x.2.2.2.2.2.2.1,v,x.2.2.2.2.2.2.2.2)
abbrev u8 {a0 a1 a2 a3 a4 a5 a6 a7 a8 a9:Type} (x:a0 × a1 × a2 × a3 × a4 × a5 × a6 × a7 × a8 × a9) (v:a8):a0 × a1 × a2 × a3 × a4 × a5 × a6 × a7 × a8 × a9:=(x.1,x.2.1,x.2.2.1,x.2.2.2.1,x.2.2.2.2.1,x.2.2.2.2.2.1,x.2.2.2.2.2.2.1,x.2.2.2.2.2.2.2.1,v,x.2.2.2.2.2.2.2.2.2)
def inR {ρ:Type} (i n:Int) (x:Option ρ):Option ρ:=cond (decide (0 ≤ i)) (cond (decide (i < n)) x none) none
theorem zLU {ρ:Type} {i n:Int} {x:Option ρ} (h0:0 ≤ i) (h1:i < n):inR i n x = x:=by unfold inR; rw [decide_eq_true h0,decide_eq_true h1]; rfl
abbrev ix {α:Type} (d:α) (l:List α) (i:Int):α:=List.getD l (Int.toNat i) d
def K0:Nat:=Go.maxLen + 2
theorem zFb {n:Nat} (h:n ≤ Go.maxLen):n < K0:=by unfold K0; omega
abbrev tI:Ty:=.int .i64
abbrev tU:Ty:=.int .u64
abbrev wI (n:Int):Int:=IntKind.wrap .i64 n
abbrev wU (n:Int):Int:=IntKind.wrap .u64 n
end Go.Ev
end
section
namespace Go.Ev
theorem zfH {σ α ρ:Type} {B:(σ→Option ρ)→σ→Option ρ} {len:Nat} (hl:len ≤ Go.maxLen) (st:Int→α→σ) (F:Nat→α→Option ρ) (I:Nat→α→Prop)
    (hstep:∀ k (i:Nat) s,i < len→I i s→(∀ s',I (i + 1) s'→k (st (wI (i + 1)) s') = F (i + 1) s')→B k (st i s) = F i s)
    (hend:∀ k s,I len s→B k (st len s) = F len s) (s:α) (h0:I 0 s):zg B K0 (st 0 s) = F 0 s:=by
  refine zLQ (L:=fun n i s=>zg B n (st i s)) hl F I (fun n i s hi hI h=>?_) (fun n s hI=>hend _ s hI) K0 (zFb hl) s h0
  refine hstep _ i s hi hI fun s' hI'=>?_
  rw [wI,zzx hi hl]
  exact h s' hI'
theorem zV {α:Type} {l:List α} {i:Nat} {d:α} (h:i < l.length):l.getD i d ∈ l:=by
  rw [List.getD_eq_getElem?_getD,List.getElem?_eq_getElem h]
  exact List.getElem_mem h
theorem zA (p:Bool):some (p,()) = bif p then some (true,()) else some (false,()):=by cases p <;> rfl
theorem jA {σ α ρ:Type} {B:(σ→Option ρ)→σ→Option ρ} {l:List α} (d:α) {p:α→Bool} {fin bad:Option ρ} (st:Int→σ) (hl:l.length ≤ Go.maxLen)
    (hin:∀ k (i:Nat) x,i < l.length→l.getD i d = x→x ∈ l→B k (st i) = bif p x then k (st (wI (i + 1))) else bad) (hout:∀ k,B k (st l.length) = fin):zg B K0 (st 0) = bif l.all p then fin else bad:=by
  have:=zfH (α:=Unit) (B:=B) hl (fun i _=>st i) (fun i _=>bif (l.drop i).all p then fin else bad) (fun _ _=>True) (fun k i s hi _ h=>?_) (fun k s _=>?_) () trivial
  · simpa using this
  · rw [hin k i _ hi rfl (zV hi),h () trivial,zb2 d hi,List.all_cons]
    cases p (l.getD i d) <;> rfl
  · rw [hout,List.drop_of_length_le (Nat.le_refl _)]; rfl
theorem zC9 {σ ρ:Type} {B:(σ→Option ρ)→σ→Option ρ} {n:Nat} (hn:n ≤ Go.maxLen) {p:Nat→Bool} {fin bad:Option ρ} (st:Int→σ)
    (hin:∀ k (i:Nat),i < n→B k (st i) = bif p i then k (st (wI (i + 1))) else bad) (hout:∀ k,B k (st n) = fin):zg B K0 (st 0) = bif (List.range n).all p then fin else bad:=by
  have hx:∀ i,i < n→(List.range n).getD i 0 = i:=fun i hi=>by simp [List.getD,hi]
  refine jA (l:=List.range n) 0 st (by simpa using hn) (fun k i x hi hx' _=>?_) (by simpa using hout)
  simp only [List.length_range] at hi
  rw [hx i hi] at hx'
  subst hx'
  exact hin k i hi
theorem zoW {σ α β ρ:Type} {B:(σ→Option ρ)→σ→Option ρ} {l:List β} (d:β) (st:Int→α→σ) (G:List β→α→Option ρ) (hl:l.length ≤ Go.maxLen)
    (hin:∀ k (i:Nat) x rest s,i < l.length→l.getD i d = x→x ∈ l→l.drop (i + 1) = rest→(∀ s',k (st (wI (i + 1)) s') = G rest s')→B k (st i s) = G (x :: rest) s) (hout:∀ k s,B k (st l.length s) = G [] s) (s:α):zg B K0 (st 0 s) = G l s:=by
  have:=zfH (B:=B) hl st (fun i s=>G (l.drop i) s) (fun _ _=>True) (fun k i s hi _ h=>?_) (fun k s _=>?_) s trivial
  · simpa using this
  · rw [zb2 d hi]
    exact hin k i _ _ s hi rfl (zV hi) rfl fun s'=>h s' trivial
  · rw [hout,List.drop_of_length_le (Nat.le_refl _)]
def zU (p:Nat→Bool) (i:Nat):Nat→Bool
  | 0=>true
  | n + 1=>p i && zU p (i + 1) n
theorem qP {p:Nat→Bool}:∀ {n i:Nat},zU p i n = true ↔ ∀ j,i ≤ j→j < i + n→p j = true
  | 0,i=>by simp only [zU,true_iff]; intro j h1 h2; omega
  | n + 1,i=>by
    simp only [zU,Bool.and_eq_true,qP (n:=n)]
    constructor
    · rintro ⟨h1,h2⟩ j h3 h4
      by_cases e:j = i
      · subst e; exact h1
      · exact h2 j (by omega) (by omega)
    · intro h
      exact ⟨h i (Nat.le_refl i) (by omega),fun j h1 h2=>h j (by omega) (by omega)⟩
theorem z6 {σ ρ:Type} {B:(σ→Option ρ)→σ→Option ρ} {i0 n:Nat} (hn:n ≤ Go.maxLen) (h0:i0 ≤ n) {p:Nat→Bool} {fin bad:Option ρ} (st:Int→σ)
    (hin:∀ k (i:Nat),i0 ≤ i→i < n→B k (st i) = bif p i then k (st (wI (i + 1))) else bad) (hout:∀ k,B k (st n) = fin):zg B K0 (st i0) = bif zU p i0 (n - i0) then fin else bad:=by
  have key:∀ (m i fuel:Nat),i0 ≤ i→i + m = n→m < fuel→zg B fuel (st i) = bif zU p i m then fin else bad:=by
    intro m
    induction m with
    | zero =>
      intro i fuel _ h1 h2
      obtain ⟨f,rfl⟩:∃ f,fuel = f + 1:=⟨fuel - 1,by omega⟩
      obtain rfl:i = n:=by omega
      exact hout _
    | succ m ih =>
      intro i fuel h1 h2 h3
      obtain ⟨f,rfl⟩:∃ f,fuel = f + 1:=⟨fuel - 1,by omega⟩
      show B (zg B f) (st i) = _
      rw [hin _ i h1 (by omega),wI,zzx (len:=n) (by omega) hn,show ((i:Int) + 1) = ((i + 1:Nat):Int) by omega,ih (i + 1) f (by omega) (by omega) (by omega)]
      simp only [zU]
      cases p i <;> rfl
  exact key (n - i0) i0 K0 (Nat.le_refl _) (by omega) (by have:=zFb hn; omega)
theorem zi2 {i:Nat} (h:1 ≤ i) (hi:i ≤ Go.maxLen):wI ((i:Int) - 1) = ((i - 1:Nat):Int):=by
  rw [show ((i:Int) - 1) = ((i - 1:Nat):Int) by omega]
  exact zF2 (by omega)
section
variable {τ:Ty} {l:List τ.I} {g:τ.I × Unit→Option (Bool × Unit)} {p:τ.I→Bool}
theorem zi {ρ:Type} {i n:Nat} {x:Option ρ} (h:i < n):inR (i:Int) (n:Int) x = x:=zLU (by omega) (by omega)
theorem ltT {i n:Nat} (h:i < n):decide ((i:Int) < (n:Int)) = true:=decide_eq_true (by omega)
theorem ltF (n:Nat):decide ((n:Int) < (n:Int)) = false:=decide_eq_false (by omega)
theorem zE {α:Type} {d:α} {l:List α} {i:Nat}:ix d l (i:Int) = l.getD i d:=by rw [ix,Int.toNat_natCast]
theorem qQ {B:((List τ.I × Option (τ.I × Unit→Option (Bool × Unit)) × Int × Int)→Option (Int × Unit))→(List τ.I × Option (τ.I × Unit→Option (Bool × Unit)) × Int × Int)→Option (Int × Unit)}
    (hB:∀ k l g n i,B k (l,g,n,i) = bif decide (i < n) then inR i (List.length l:Int) (Option.bind g fun q0=>Option.bind (q0 (ix (ze τ) l i,())) fun q1=>bif q1.1 then some (i,()) else k (l,g,n,wI (i + 1))) else some (-1,()))
    (hl:l.length ≤ Go.maxLen) (hp:∀ x ∈ l,g (x,()) = some (p x,())):zg B K0 (l,some g,(l.length:Int),0) = some (vf p l 0,()):=by
  have:=zfH (α:=Unit) (B:=B) hl (fun i _=>(l,some g,(l.length:Int),i)) (fun i _=>some (vf p (l.drop i) i,())) (fun _ _=>True) (fun k i s hi _ h=>?_) (fun k s _=>?_) () trivial
  · simpa using this
  · rw [hB,ltT hi,zi hi,zE,Option.bind_some,hp _ (zV hi),Option.bind_some,h () trivial,zb2 (ze τ) hi]
    simp only [vf,cond_true]
    cases p (l.getD i (ze τ)) <;> rfl
  · rw [hB,ltF,List.drop_of_length_le (Nat.le_refl _)]; rfl
theorem qs {f:Fnc (.pair (.sl τ) (.pair (.fn (.pair τ .unit) (.pair .bool .unit)) .unit)) (.pair (.int .i64) .unit)} (hf:f (l,some g,()) = some (vf p l 0,())) :
    (Option.bind (f (l,some g,())) fun q0=>bif decide ((q0.1:Int) ≥ 0) then some (true,()) else some (false,())) = some (l.any p,()):=by
  rw [hf,Option.bind_some,zxN (p:=p) l 0 (Int.le_refl 0)]
  cases l.any p <;> rfl
theorem va {α:Type} {l:List α} {p:α→Bool}:(!(l.any fun x=>!p x)) = l.all p:=by
  rw [List.not_any_eq_all_not]
  congr 1
  funext x
  simp
def eqL (τ:Ty) (a b:List τ.I):Bool:=decide (a.length = b.length) && (List.zip a b).all fun q=>eqI τ q.1 q.2
theorem zia (a b:Nat):((a:Int) != (b:Int)) = !decide (a = b):=by
  by_cases h:a = b
  · subst h; simp
  · have:(a:Int) ≠ (b:Int):=by omega
    simp [h,this]
theorem zxO {α β:Type} {d:α} {e:β}:∀ (a:List α) (b:List β) (i:Nat),i < a.length→i < b.length→(List.zip a b).getD i (d,e) = (a.getD i d,b.getD i e)
  | x :: a,y :: b,0,_,_=>rfl
  | x :: a,y :: b,i + 1,h1,h2=>zxO a b i (by simpa using h1) (by simpa using h2)
  | [],_,_,h,_=>by simp at h
  | _ :: _,[],_,_,h=>by simp at h
theorem yf {x:Option (List τ.I × Unit)} (h:l.length * τ.bts ≤ zFk) (hx:x = bif ve true τ (List.length (List.replicate 0 (ze τ)) + List.length l) then some (List.replicate 0 (ze τ) ++ l,()) else none) :
    (bif List.isEmpty l then zfQ (some ([],())) x else x) = some (l,()):=by
  have e0:ve true τ (List.length (List.replicate 0 (ze τ)) + List.length l) = true:=by
    show decide ((0 + List.length l) * τ.bts ≤ zFk) = true
    rw [Nat.zero_add]
    exact decide_eq_true h
  have e:x = some (l,()):=by rw [hx,e0]; rfl
  rw [e]
  cases l with
  | nil=>exact zLD _
  | cons y l=>rfl
end
end Go.Ev
end
section
namespace Go.Proofs.YtlklokhlgcfcdaaGreatDoor
open Go.Ev
abbrev qk:Ty:=.st (.pair .bool (.pair .str .unit))
abbrev qS:Type:=(Bool × (ByteArray × Unit))
abbrev zgS:qS:=ze qk
abbrev zM:Ty:=.st (.pair (.int .i64) (.pair (.int .i64) .unit))
abbrev vJ:Type:=(Int × (Int × Unit))
abbrev zF4:vJ:=ze zM
abbrev zT:Ty:=.st (.pair .bool (.pair zM (.pair zM (.pair (.int .i64) .unit))))
abbrev z9:Type:=(Bool × (vJ × (vJ × (Int × Unit))))
abbrev qh:z9:=ze zT
abbrev zG:Ty:=.st (.pair .bool (.pair .str (.pair (.int .i64) (.pair (.int .i64) (.pair zM .unit)))))
abbrev qa:Type:=(Bool × (ByteArray × (Int × (Int × (vJ × Unit)))))
abbrev zz:qa:=ze zG
abbrev zX:Ty:=.st (.pair .bool (.pair (.int .i64) (.pair (.int .i64) (.pair (.int .i64) (.pair .str .unit)))))
abbrev qq:Type:=(Bool × (Int × (Int × (Int × (ByteArray × Unit)))))
abbrev zaC:qq:=ze zX
abbrev zdJ:Ty:=.st (.pair (.int .i64) (.pair (.int .u64) (.pair (.int .i64) .unit)))
abbrev zjn:Type:=(Int × (Int × (Int × Unit)))
abbrev zw:Ty:=.st (.pair .bool (.pair (.int .i64) (.pair (.int .i64) (.pair zdJ (.pair zdJ .unit)))))
abbrev zt:Type:=(Bool × (Int × (Int × (zjn × (zjn × Unit)))))
abbrev zQ:zt:=ze zw
abbrev zr:Ty:=.st (.pair .bool (.pair (.int .i64) (.pair (.int .i64) (.pair (.int .i64) (.pair (.int .i64) (.pair (.int .i64) (.pair (.int .u64) (.pair (.int .u64) (.pair (.int .u64) (.pair (.int .i64) .unit))))))))))
abbrev zo:Type:=(Bool × (Int × (Int × (Int × (Int × (Int × (Int × (Int × (Int × (Int × Unit))))))))))
abbrev zH:zo:=ze zr
abbrev zv:Ty:=.st (.pair (.int .u64) (.pair (.int .i64) (.pair (.int .i64) (.pair (.int .i64) (.pair (.int .i64) (.pair (.int .i64) (.pair (.int .i64) (.pair (.int .u64) (.pair (.int .u64) (.pair (.int .i64) .unit))))))))))
abbrev zF:Type:=(Int × (Int × (Int × (Int × (Int × (Int × (Int × (Int × (Int × (Int × Unit))))))))))
abbrev vP:zF:=ze zv
abbrev tMe:Ty:=.st (.pair (.int .i64) (.pair (.int .i64) (.pair (.int .i64) .unit)))
abbrev pMe:Type:=(Int × (Int × (Int × Unit)))
abbrev j8:Ty:=.st (.pair (.int .i64) (.pair (.int .i64) (.pair (.int .i64) (.pair (.int .i64) (.pair (.int .u64) .unit)))))
abbrev zav:Type:=(Int × (Int × (Int × (Int × (Int × Unit)))))
abbrev qC:Ty:=.st (.pair .str (.pair .str (.pair (.int .i64) (.pair .bool .unit))))
abbrev qx:Type:=(ByteArray × (ByteArray × (Int × (Bool × Unit))))
abbrev qn:qx:=ze qC
abbrev zb3:Ty:=.st (.pair (.int .i64) (.pair (.int .i64) (.pair (.int .i64) (.pair (.int .i64) (.pair (.int .i64) (.pair (.int .u64) .unit))))))
abbrev zaw:Type:=(Int × (Int × (Int × (Int × (Int × (Int × Unit))))))
abbrev qe:zaw:=ze zb3
abbrev zq:Ty:=.st (.pair (.int .i64) (.pair (.int .u64) .unit))
abbrev zy:Type:=(Int × (Int × Unit))
abbrev je:zy:=ze zq
abbrev yo:Ty:=.st (.pair (.int .i64) (.pair (.int .i64) .unit))
abbrev z7:Type:=(Int × (Int × Unit))
abbrev qF:z7:=ze yo
abbrev vQ:Ty:=.st (.pair (.sl zw) (.pair (.fn (.pair zw .unit) (.pair .bool .unit)) .unit))
abbrev zb4:Type:=((List zt) × ((Option ((zt × Unit)→Option (Bool × Unit))) × Unit))
abbrev zv7:Ty:=.st (.pair (.int .i64) (.pair (.int .i64) (.pair zM .unit)))
abbrev zBu:Type:=(Int × (Int × (vJ × Unit)))
abbrev yT:Ty:=.st (.pair (.sl zr) (.pair (.fn (.pair zr .unit) (.pair .bool .unit)) .unit))
abbrev zeW:Type:=((List zo) × ((Option ((zo × Unit)→Option (Bool × Unit))) × Unit))
abbrev zmD:Ty:=.st (.pair (.int .u8) (.pair (.int .u8) .unit))
abbrev zm:Ty:=.st (.pair (.sl qk) (.pair (.sl zT) (.pair (.sl zG) (.pair (.sl zX) (.pair (.sl zw) (.pair (.sl (.arr 4 (.int .u64))) (.pair (.sl zM) (.pair (.arr 4 (.int .u64)) (.pair (.arr 4 (.int .u64)) .unit)))))))))
abbrev zl:Type:=((List qS) × ((List z9) × ((List qa) × ((List qq) × ((List zt) × ((List (List Int)) × ((List vJ) × ((List Int) × ((List Int) × Unit)))))))))
abbrev za:zl:=ze zm
abbrev zu:Ty:=.st (.pair (.sl zq) (.pair (.sl (.int .i64)) (.pair (.sl qC) (.pair (.sl yo) (.pair (.sl zb3) (.pair (.int .i64) (.pair (.int .i64) (.pair (.int .i64) (.pair (.int .i64) .unit)))))))))
abbrev zf:Type:=((List zy) × ((List Int) × ((List qx) × ((List z7) × ((List zaw) × (Int × (Int × (Int × (Int × Unit)))))))))
abbrev zn:Ty:=.st (.pair (.int .u64) (.pair (.sl zm) (.pair (.sl (.sl (.int .i64))) (.pair (.sl zr) (.pair (.sl zv) (.pair (.sl (.int .i64)) .unit))))))
abbrev zb:Type:=(Int × ((List zl) × ((List (List Int)) × ((List zo) × ((List zF) × ((List Int) × Unit))))))
abbrev qo:Ty:=.st (.pair zu (.pair zn .unit))
abbrev qT:Type:=(zf × (zb × Unit))
abbrev zhI:Ty:=.st (.pair (.fn (.pair (.ptr zn) .unit) (.pair (.int .i64) .unit)) .unit)
def types:TT:=(.node (.node (.node (.node (.node (.node (.node (.node (.node .nil 1 (.fn .unit .unit) .nil) 2 (.int .i64) .nil) 3 (.int .i64) (.node .nil 4 .bool .nil)) 5 (.int .u8) (.node (.node .nil 6 (.int .u8) .nil) 7 (.st (.pair (.int .i64) (.pair (.int .i64) (.pair .bool (.pair (.int .u8) .unit))))) (.node .nil 8 (.st (.pair (.int .i64) (.pair (.int .i64) (.pair .bool (.pair (.int .u8) .unit))))) .nil))) 9 .str (.node (.node (.node (.node .nil 10 .str .nil) 11 .str .nil) 12 (.int .u64) (.node .nil 21 (.int .i32) .nil)) 22 (.int .u64) (.node (.node .nil 23 (.sl zm) .nil) 24 (.sl (.sl (.int .i64))) (.node .nil 25 (.sl zr) .nil)))) 26 (.sl zv) (.node (.node (.node (.node (.node .nil 27 (.sl (.int .i64)) .nil) 28 (.st (.pair (.int .u64) (.pair (.sl zm) (.pair (.sl (.sl (.int .i64))) (.pair (.sl zr) (.pair (.sl zv) (.pair (.sl (.int .i64)) .unit))))))) .nil) 29 zn (.node .nil 30 (.fn (.pair zn .unit) (.pair zn .unit)) .nil)) 31 (.fn (.pair zn (.pair zn .unit)) (.pair .bool .unit)) (.node (.node .nil 32 (.sl qk) .nil) 33 (.sl zT) (.node .nil 34 (.sl zG) .nil))) 35 (.sl zX) (.node (.node (.node (.node .nil 36 (.sl zw) .nil) 37 (.sl (.arr 4 (.int .u64))) .nil) 38 (.sl zM) (.node .nil 39 (.arr 4 (.int .u64)) .nil)) 40 (.st (.pair (.sl qk) (.pair (.sl zT) (.pair (.sl zG) (.pair (.sl zX) (.pair (.sl zw) (.pair (.sl (.arr 4 (.int .u64))) (.pair (.sl zM) (.pair (.arr 4 (.int .u64)) (.pair (.arr 4 (.int .u64)) .unit)))))))))) (.node (.node .nil 41 zm .nil) 42 (.st (.pair .bool (.pair .str .unit))) (.node .nil 43 qk .nil))))) 44 (.st (.pair (.int .i64) (.pair (.int .i64) .unit))) (.node (.node (.node (.node (.node (.node .nil 45 zM .nil) 46 (.st (.pair .bool (.pair zM (.pair zM (.pair (.int .i64) .unit))))) .nil) 47 zT (.node .nil 48 (.st (.pair .bool (.pair .str (.pair (.int .i64) (.pair (.int .i64) (.pair zM .unit)))))) .nil)) 49 zG (.node (.node .nil 50 (.st (.pair .bool (.pair (.int .i64) (.pair (.int .i64) (.pair (.int .i64) (.pair .str .unit)))))) .nil) 51 zX (.node .nil 52 (.st (.pair (.int .i64) (.pair (.int .u64) (.pair (.int .i64) .unit)))) .nil))) 53 zdJ (.node (.node (.node (.node .nil 54 (.st (.pair .bool (.pair (.int .i64) (.pair (.int .i64) (.pair zdJ (.pair zdJ .unit)))))) .nil) 55 zw .nil) 56 (.st (.pair .bool (.pair (.int .i64) (.pair (.int .i64) (.pair (.int .i64) (.pair (.int .i64) (.pair (.int .i64) (.pair (.int .u64) (.pair (.int .u64) (.pair (.int .u64) (.pair (.int .i64) .unit))))))))))) (.node .nil 57 zr .nil)) 58 (.st (.pair (.int .u64) (.pair (.int .i64) (.pair (.int .i64) (.pair (.int .i64) (.pair (.int .i64) (.pair (.int .i64) (.pair (.int .i64) (.pair (.int .u64) (.pair (.int .u64) (.pair (.int .i64) .unit))))))))))) (.node (.node .nil 59 zv .nil) 60 (.fn .unit (.pair .bool .unit)) (.node .nil 61 (.sl zq) .nil)))) 62 (.sl qC) (.node (.node (.node (.node (.node .nil 63 (.sl yo) .nil) 64 (.sl zb3) .nil) 65 (.st (.pair (.sl zq) (.pair (.sl (.int .i64)) (.pair (.sl qC) (.pair (.sl yo) (.pair (.sl zb3) (.pair (.int .i64) (.pair (.int .i64) (.pair (.int .i64) (.pair (.int .i64) .unit)))))))))) (.node .nil 66 zu .nil)) 67 (.st (.pair (.int .i64) (.pair (.int .i64) (.pair (.int .i64) .unit)))) (.node (.node .nil 68 tMe .nil) 69 (.st (.pair (.int .i64) (.pair (.int .i64) (.pair (.int .i64) (.pair (.int .i64) (.pair (.int .u64) .unit)))))) (.node .nil 70 j8 .nil))) 71 (.int .i64) (.node (.node (.node (.node .nil 73 (.fn (.pair zu (.pair zn (.pair tMe (.pair j8 .unit)))) (.pair zn (.pair (.int .i64) .unit))) .nil) 74 (.fn (.pair zu (.pair zn (.pair tMe (.pair (.int .i64) (.pair (.int .i64) (.pair (.int .i64) (.pair (.int .i64) (.pair (.int .u64) .unit)))))))) (.pair zn (.pair (.int .i64) .unit))) .nil) 76 (.fn (.pair zu (.pair zn (.pair tMe .unit))) (.pair (.arr 4 (.int .u64)) (.pair (.int .i64) .unit))) (.node .nil 77 (.fn (.pair zu (.pair zn (.pair tMe .unit))) (.pair .bool .unit)) .nil)) 78 (.fn (.pair zu (.pair zn (.pair tMe (.pair j8 .unit)))) (.pair .bool .unit)) (.node (.node .nil 79 (.fn (.pair (.sl zr) .unit) (.pair (.sl zr) .unit)) .nil) 80 (.fn (.pair (.sl zv) .unit) (.pair (.sl zv) .unit)) (.node .nil 81 (.fn (.pair (.sl (.int .i64)) .unit) (.pair (.sl (.int .i64)) .unit)) .nil)))))) 82 (.fn (.pair (.sl (.sl (.int .i64))) .unit) (.pair (.sl (.sl (.int .i64))) .unit)) (.node (.node (.node (.node (.node (.node (.node .nil 83 (.fn (.pair (.sl zm) .unit) (.pair (.sl zm) .unit)) .nil) 84 (.fn (.pair (.sl qk) .unit) (.pair (.sl qk) .unit)) .nil) 85 (.fn (.pair (.sl zT) .unit) (.pair (.sl zT) .unit)) (.node .nil 86 (.fn (.pair (.sl zG) .unit) (.pair (.sl zG) .unit)) .nil)) 87 (.fn (.pair (.sl zX) .unit) (.pair (.sl zX) .unit)) (.node (.node .nil 88 (.fn (.pair (.sl zw) .unit) (.pair (.sl zw) .unit)) .nil) 89 (.fn (.pair (.sl (.arr 4 (.int .u64))) .unit) (.pair (.sl (.arr 4 (.int .u64))) .unit)) (.node .nil 90 (.fn (.pair (.sl zM) .unit) (.pair (.sl zM) .unit)) .nil))) 91 (.fn (.pair (.sl (.sl (.int .i64))) (.pair (.sl (.sl (.int .i64))) .unit)) (.pair .bool .unit)) (.node (.node (.node (.node .nil 92 (.fn (.pair (.sl zr) (.pair (.sl zr) .unit)) (.pair .bool .unit)) .nil) 93 (.fn (.pair (.sl zv) (.pair (.sl zv) .unit)) (.pair .bool .unit)) .nil) 94 (.fn (.pair zm (.pair zm .unit)) (.pair .bool .unit)) (.node .nil 95 (.fn (.pair (.sl zm) (.pair (.sl zm) (.pair (.fn (.pair zm (.pair zm .unit)) (.pair .bool .unit)) .unit))) (.pair .bool .unit)) .nil)) 96 (.fn (.pair (.sl (.sl (.int .i64))) (.pair (.sl (.sl (.int .i64))) (.pair (.fn (.pair (.sl (.int .i64)) (.pair (.sl (.int .i64)) .unit)) (.pair .bool .unit)) .unit))) (.pair .bool .unit)) (.node (.node .nil 97 (.fn (.pair (.sl (.int .i64)) (.pair (.sl (.int .i64)) .unit)) (.pair .bool .unit)) .nil) 98 (.fn .unit (.pair zu .unit)) (.node .nil 99 (.fn (.pair zu .unit) (.pair zn (.pair (.int .i64) .unit))) .nil)))) 100 (.fn (.pair zu (.pair zn .unit)) (.pair .bool .unit)) (.node (.node (.node (.node (.node .nil 101 (.fn (.pair zu (.pair zn (.pair zM .unit))) (.pair .bool .unit)) .nil) 103 (.fn (.pair zn (.pair (.int .i64) .unit)) (.pair (.int .u64) (.pair (.int .i64) .unit))) .nil) 105 (.fn (.pair zu (.pair zn (.pair (.int .i64) .unit))) (.pair tMe (.pair (.int .i64) .unit))) (.node .nil 106 (.fn (.pair zu (.pair zn (.pair tMe (.pair (.int .i64) (.pair (.int .u64) .unit))))) (.pair zn (.pair (.int .i64) .unit))) .nil)) 107 (.fn (.pair zu (.pair zn (.pair tMe (.pair (.int .i64) (.pair (.int .i64) (.pair (.int .u64) .unit)))))) (.pair zn (.pair (.int .i64) .unit))) (.node (.node .nil 108 (.fn (.pair zu (.pair zn (.pair tMe (.pair (.int .i64) (.pair (.int .i64) (.pair (.int .i64) (.pair (.int .u64) .unit))))))) (.pair zn (.pair (.int .i64) .unit))) .nil) 109 (.st (.pair .str (.pair .str (.pair (.int .i64) (.pair .bool .unit))))) (.node .nil 110 qC .nil))) 111 (.fn (.pair (.int .u64) (.pair (.int .u64) .unit)) (.pair (.int .u64) (.pair (.int .i64) .unit))) (.node (.node (.node (.node .nil 112 (.st (.pair (.int .i64) (.pair (.int .i64) (.pair (.int .i64) (.pair (.int .i64) (.pair (.int .i64) (.pair (.int .u64) .unit))))))) .nil) 113 zb3 .nil) 114 (.fn (.pair zn (.pair (.int .i64) (.pair (.int .i64) (.pair (.int .i64) (.pair (.int .u64) .unit))))) (.pair zn .unit)) (.node .nil 115 (.fn (.pair zn (.pair (.int .i64) (.pair zm .unit))) (.pair zn .unit)) .nil)) 116 (.fn (.pair zu (.pair (.int .i64) (.pair (.int .i64) .unit))) (.pair .bool .unit)) (.node (.node .nil 117 (.ptr (.arr 4 (.int .u64))) .nil) 118 (.fn (.pair (.ptr zn) (.pair (.int .i64) (.pair (.int .i64) .unit))) (.pair (.ptr (.arr 4 (.int .u64))) .unit)) (.node .nil 119 (.ptr zn) .nil))))) 120 (.fn (.pair zu (.pair tMe .unit)) (.pair .bool .unit)) (.node (.node (.node (.node (.node (.node .nil 121 (.fn (.pair (.sl qk) (.pair (.sl qk) .unit)) (.pair .bool .unit)) .nil) 122 (.fn (.pair (.sl zT) (.pair (.sl zT) .unit)) (.pair .bool .unit)) .nil) 123 (.fn (.pair (.sl zG) (.pair (.sl zG) .unit)) (.pair .bool .unit)) (.node .nil 124 (.fn (.pair (.sl zX) (.pair (.sl zX) .unit)) (.pair .bool .unit)) .nil)) 125 (.fn (.pair (.sl zw) (.pair (.sl zw) .unit)) (.pair .bool .unit)) (.node (.node .nil 126 (.fn (.pair (.sl (.arr 4 (.int .u64))) (.pair (.sl (.arr 4 (.int .u64))) .unit)) (.pair .bool .unit)) .nil) 127 (.fn (.pair (.sl zM) (.pair (.sl zM) .unit)) (.pair .bool .unit)) (.node .nil 128 (.st (.pair (.int .i64) (.pair (.int .u64) .unit))) .nil))) 129 zq (.node (.node (.node (.node .nil 130 (.st (.pair (.int .i64) (.pair (.int .i64) .unit))) .nil) 131 yo .nil) 132 (.fn (.pair zu .unit) (.pair .bool .unit)) (.node .nil 133 (.fn (.pair zu .unit) (.pair (.sl (.sl (.int .i64))) .unit)) .nil)) 134 (.fn (.pair zu (.pair zb3 .unit)) (.pair zm .unit)) (.node (.node .nil 135 (.st (.pair zu (.pair zn .unit))) .nil) 136 qo (.node .nil 137 (.sl (.fn .unit (.pair .bool .unit))) .nil)))) 138 (.fn (.pair zn (.pair zM .unit)) (.pair .bool .unit)) (.node (.node (.node (.node (.node .nil 139 (.fn (.pair (.int .i64) .unit) (.pair .bool .unit)) .nil) 140 (.fn (.pair (.sl zr) (.pair (.int .i64) .unit)) (.pair (.int .u64) (.pair (.int .i64) .unit))) .nil) 141 (.sl (.int .u64)) (.node .nil 142 (.fn (.pair (.sl zw) (.pair (.int .i64) .unit)) (.pair (.int .u64) (.pair (.int .i64) .unit))) .nil)) 143 (.fn (.pair (.sl (.int .u64)) .unit) (.pair (.int .u64) (.pair (.int .i64) .unit))) (.node (.node .nil 144 (.fn (.pair zn (.pair (.int .i64) (.pair (.fn (.pair zm .unit) (.pair (.arr 4 (.int .u64)) .unit)) .unit))) (.pair (.int .u64) (.pair (.int .i64) .unit))) .nil) 145 (.fn (.pair zm .unit) (.pair (.arr 4 (.int .u64)) .unit)) (.node .nil 146 (.fn (.pair zu (.pair (.sl (.sl (.int .i64))) (.pair (.int .i64) (.pair (.int .i64) .unit)))) (.pair .bool .unit)) .nil))) 147 (.fn (.pair zu (.pair zn (.pair tMe (.pair (.int .i64) (.pair (.int .u64) .unit))))) (.pair .bool .unit)) (.node (.node (.node .nil 148 (.fn (.pair (.ptr zn) .unit) (.pair (.int .i64) .unit)) .nil) 149 (.st (.pair (.fn (.pair (.ptr zn) .unit) (.pair (.int .i64) .unit)) .unit)) (.node .nil 150 zhI .nil)) 151 (.fn (.pair zn (.pair (.sl zhI) .unit)) (.pair zn (.pair (.int .i64) .unit))) (.node (.node .nil 152 (.fn (.pair .bool (.pair (.int .i64) .unit)) (.pair zhI .unit)) .nil) 153 (.fn (.pair (.int .i64) (.pair (.int .i64) (.pair (.int .i64) (.pair (.int .u64) .unit)))) (.pair zhI .unit)) (.node .nil 154 (.fn (.pair zq (.pair zq .unit)) (.pair .bool .unit)) .nil))))))) 155 (.fn (.pair zu (.pair zn (.pair (.int .i64) .unit))) (.pair .bool .unit)) (.node (.node (.node (.node (.node (.node (.node (.node .nil 156 (.fn (.pair zu (.pair (.int .i64) .unit)) (.pair .bool .unit)) .nil) 157 (.sl (.fn (.pair zu .unit) (.pair .bool .unit))) .nil) 158 (.fn (.pair (.sl zm) (.pair (.fn (.pair zm .unit) (.pair .bool .unit)) .unit)) (.pair .bool .unit)) (.node .nil 159 (.fn (.pair (.sl qk) .unit) (.pair .bool .unit)) .nil)) 160 (.fn (.pair (.sl zT) .unit) (.pair .bool .unit)) (.node (.node .nil 161 (.fn (.pair (.sl zG) .unit) (.pair .bool .unit)) .nil) 162 (.fn (.pair (.sl zX) .unit) (.pair .bool .unit)) (.node .nil 163 (.fn (.pair (.sl zw) .unit) (.pair .bool .unit)) .nil))) 164 (.fn (.pair zm .unit) (.pair .bool .unit)) (.node (.node (.node (.node .nil 165 (.fn (.pair zu (.pair (.sl (.sl (.int .i64))) .unit)) (.pair .bool .unit)) .nil) 166 (.fn (.pair (.sl zr) .unit) (.pair .bool .unit)) .nil) 167 (.fn (.pair (.sl zv) .unit) (.pair .bool .unit)) (.node .nil 168 (.fn (.pair (.sl zr) (.pair (.fn (.pair zr .unit) (.pair .bool .unit)) .unit)) (.pair .bool .unit)) .nil)) 169 (.fn (.pair zr .unit) (.pair .bool .unit)) (.node (.node .nil 170 (.fn (.pair (.sl zv) (.pair (.fn (.pair zv .unit) (.pair .bool .unit)) .unit)) (.pair .bool .unit)) .nil) 171 (.fn (.pair zv .unit) (.pair .bool .unit)) (.node .nil 172 (.fn (.pair (.sl (.int .i64)) (.pair (.fn (.pair (.int .i64) .unit) (.pair .bool .unit)) .unit)) (.pair .bool .unit)) .nil)))) 173 (.fn (.pair zM .unit) (.pair .bool .unit)) (.node (.node (.node (.node (.node .nil 174 (.fn (.pair (.int .i64) .unit) (.pair (.fn (.pair zM .unit) (.pair .bool .unit)) .unit)) .nil) 175 (.fn (.pair (.sl zT) (.pair (.fn (.pair zT .unit) (.pair .bool .unit)) .unit)) (.pair .bool .unit)) .nil) 176 (.fn (.pair zT .unit) (.pair .bool .unit)) (.node .nil 177 (.fn (.pair (.sl zG) (.pair (.fn (.pair zG .unit) (.pair .bool .unit)) .unit)) (.pair .bool .unit)) .nil)) 178 (.fn (.pair zG .unit) (.pair .bool .unit)) (.node (.node .nil 179 (.fn (.pair (.sl zM) (.pair (.fn (.pair zM .unit) (.pair .bool .unit)) .unit)) (.pair .bool .unit)) .nil) 180 (.fn (.pair (.sl zX) (.pair (.fn (.pair zX .unit) (.pair .bool .unit)) .unit)) (.pair .bool .unit)) (.node .nil 181 (.fn (.pair (.int .i64) (.pair (.int .i64) .unit)) (.pair .bool .unit)) .nil))) 182 (.fn (.pair zX .unit) (.pair .bool .unit)) (.node (.node (.node (.node .nil 183 (.fn (.pair (.sl zw) (.pair (.fn (.pair zw .unit) (.pair .bool .unit)) .unit)) (.pair .bool .unit)) .nil) 184 (.fn (.pair zw .unit) (.pair .bool .unit)) .nil) 185 (.ptr vQ) (.node .nil 186 (.fn (.pair (.sl zw) (.pair (.fn (.pair zw .unit) (.pair .bool .unit)) .unit)) (.pair (.ptr vQ) .unit)) .nil)) 187 (.fn .unit (.pair (.sl (.int .i64)) .unit)) (.node (.node .nil 188 (.fn (.pair (.sl zr) .unit) (.pair (.sl (.int .i64)) .unit)) .nil) 189 (.fn (.pair zr .unit) (.pair (.int .i64) .unit)) (.node .nil 190 (.fn (.pair (.sl zw) .unit) (.pair (.ptr vQ) .unit)) .nil))))) 192 (.fn (.pair (.int .u64) (.pair (.int .u64) (.pair (.int .u64) .unit))) (.pair (.int .u64) (.pair (.int .u64) .unit))) (.node (.node (.node (.node (.node (.node .nil 193 (.fn (.pair zu (.pair (.int .i64) .unit)) (.pair (.sl (.int .i64)) .unit)) .nil) 194 (.sl zhI) .nil) 195 (.fn (.pair (.arr 4 (.int .u64)) (.pair (.int .i64) (.pair (.int .u64) .unit))) (.pair (.arr 4 (.int .u64)) (.pair (.int .i64) .unit))) (.node .nil 196 (.fn (.pair zq (.pair (.int .i64) .unit)) (.pair .bool .unit)) .nil)) 197 (.fn (.pair (.sl zq) .unit) (.pair .bool .unit)) (.node (.node .nil 198 (.fn (.pair (.sl qC) .unit) (.pair .bool .unit)) .nil) 199 (.fn (.pair (.sl yo) (.pair (.sl zq) (.pair (.int .i64) .unit))) (.pair .bool .unit)) (.node .nil 200 (.fn (.pair (.sl zb3) .unit) (.pair .bool .unit)) .nil))) 201 (.fn (.pair zu (.pair zn (.pair zM (.pair (.int .i64) .unit)))) (.pair .bool .unit)) (.node (.node (.node (.node .nil 202 (.fn (.pair zu (.pair zn (.pair (.int .i64) (.pair (.int .i64) .unit)))) (.pair .bool .unit)) .nil) 203 (.fn (.pair zu (.pair zm (.pair (.int .i64) .unit))) (.pair .bool .unit)) .nil) 204 (.fn (.pair zq .unit) (.pair .bool .unit)) (.node .nil 205 (.fn (.pair (.int .i64) (.pair (.int .i64) (.pair (.int .i64) .unit))) (.pair .bool .unit)) .nil)) 206 (.fn (.pair (.sl zq) (.pair (.fn (.pair zq .unit) (.pair .bool .unit)) .unit)) (.pair .bool .unit)) (.node (.node .nil 207 (.fn (.pair zq (.pair zq .unit)) (.pair (.int .i64) .unit)) .nil) 208 (.fn (.pair .str .unit) (.pair .bool .unit)) (.node .nil 209 (.fn (.pair qC .unit) (.pair .bool .unit)) .nil)))) 210 (.fn (.pair (.sl qC) (.pair (.fn (.pair qC .unit) (.pair .bool .unit)) .unit)) (.pair .bool .unit)) (.node (.node (.node (.node (.node .nil 211 (.fn (.pair (.sl .str) .unit) (.pair .bool .unit)) .nil) 212 (.sl .str) .nil) 213 (.fn (.pair zu .unit) (.pair (.sl .str) .unit)) (.node .nil 215 (.fn (.pair (.int .i64) .unit) (.pair zq (.pair (.int .i64) .unit))) .nil)) 216 (.fn (.pair (.sl zq) (.pair zq .unit)) (.pair .bool .unit)) (.node (.node .nil 217 (.fn (.pair zb3 .unit) (.pair (.sl (.int .i64)) .unit)) .nil) 218 (.fn (.pair (.sl qk) (.pair (.fn (.pair qk .unit) (.pair .bool .unit)) .unit)) (.pair .bool .unit)) (.node .nil 219 (.fn (.pair qk .unit) (.pair .bool .unit)) .nil))) 220 (.fn (.pair (.sl zT) (.pair zM (.pair (.int .i64) .unit))) (.pair (.int .i64) .unit)) (.node (.node (.node (.node .nil 221 (.pair (.int .i64) (.int .i64)) .nil) 222 (.fn (.pair zv (.pair zv .unit)) (.pair (.int .i64) .unit)) .nil) 223 (.st (.pair (.sl zw) (.pair (.fn (.pair zw .unit) (.pair .bool .unit)) .unit))) (.node .nil 224 vQ .nil)) 225 (.ptr yT) (.node (.node .nil 226 (.fn (.pair (.sl zr) .unit) (.pair (.ptr yT) .unit)) .nil) 227 (.fn (.pair (.sl (.int .i64)) (.pair (.fn (.pair (.int .i64) .unit) (.pair .bool .unit)) .unit)) (.pair (.int .i64) .unit)) (.node .nil 228 (.fn (.pair (.sl (.int .i64)) (.pair (.int .i64) .unit)) (.pair .bool .unit)) .nil)))))) 229 (.fn (.pair zq .unit) (.pair (.sl (.int .i64)) .unit)) (.node (.node (.node (.node (.node (.node (.node .nil 230 (.fn (.pair (.arr 4 (.int .u64)) (.pair (.int .i64) (.pair (.int .u64) (.pair (.fn (.pair (.int .u64) (.pair (.int .u64) .unit)) (.pair (.int .u64) (.pair (.int .i64) .unit))) .unit)))) (.pair (.arr 4 (.int .u64)) (.pair (.int .i64) .unit))) .nil) 231 (.int .u64) .nil) 232 (.fn (.pair (.sl zq) (.pair zq .unit)) (.pair (.int .i64) .unit)) (.node .nil 233 (.fn (.pair (.int .i64) .unit) (.pair zq .unit)) .nil)) 234 (.fn (.pair (.sl yo) (.pair (.int .i64) .unit)) (.pair .bool .unit)) (.node (.node .nil 235 (.fn (.pair (.sl zr) (.pair (.int .i64) (.pair (.int .i64) .unit))) (.pair .bool .unit)) .nil) 236 (.fn (.pair zv (.pair zv .unit)) (.pair .bool .unit)) (.node .nil 237 (.fn (.pair zr (.pair (.int .i64) .unit)) (.pair (.int .u64) .unit)) .nil))) 238 (.fn (.pair (.sl zq) (.pair (.fn (.pair zq .unit) (.pair .bool .unit)) .unit)) (.pair (.int .i64) .unit)) (.node (.node (.node (.node .nil 239 (.fn (.pair (.sl (.int .i64)) .unit) (.pair (.int .i64) .unit)) .nil) 240 (.fn (.pair (.int .i64) (.pair (.int .i64) .unit)) (.pair (.int .i64) .unit)) .nil) 241 (.fn (.pair (.int .u64) (.pair (.int .u64) .unit)) (.pair (.int .i64) .unit)) (.node .nil 242 (.fn (.pair (.int .u8) .unit) (.pair .bool .unit)) .nil)) 243 (.fn (.pair .str (.pair (.fn (.pair (.int .u8) .unit) (.pair .bool .unit)) .unit)) (.pair .bool .unit)) (.node (.node .nil 244 (.fn (.pair (.sl qC) (.pair (.fn (.pair qC .unit) (.pair .bool .unit)) .unit)) (.pair (.int .i64) .unit)) .nil) 245 (.pair .str (.int .i64)) (.node .nil 246 (.fn (.pair (.sl zm) (.pair (.fn (.pair zm .unit) (.pair .bool .unit)) .unit)) (.pair (.int .i64) .unit)) .nil)))) 247 (.fn (.pair (.sl qk) (.pair (.fn (.pair qk .unit) (.pair .bool .unit)) .unit)) (.pair (.int .i64) .unit)) (.node (.node (.node (.node (.node .nil 248 (.fn (.pair (.sl zT) (.pair (.fn (.pair zT .unit) (.pair .bool .unit)) .unit)) (.pair (.int .i64) .unit)) .nil) 249 (.fn (.pair (.sl zG) (.pair (.fn (.pair zG .unit) (.pair .bool .unit)) .unit)) (.pair (.int .i64) .unit)) .nil) 250 (.st (.pair (.int .i64) (.pair (.int .i64) (.pair zM .unit)))) (.node .nil 251 zv7 .nil)) 252 (.fn (.pair zG .unit) (.pair zv7 .unit)) (.node (.node .nil 253 (.fn (.pair (.sl zX) (.pair (.fn (.pair zX .unit) (.pair .bool .unit)) .unit)) (.pair (.int .i64) .unit)) .nil) 254 (.fn (.pair (.sl zw) (.pair (.fn (.pair zw .unit) (.pair .bool .unit)) .unit)) (.pair (.int .i64) .unit)) (.node .nil 255 (.fn (.pair zdJ .unit) (.pair .bool .unit)) .nil))) 256 (.fn (.pair (.int .i64) (.pair (.int .u64) (.pair (.int .u64) .unit))) (.pair (.int .u64) (.pair (.int .i64) .unit))) (.node (.node (.node (.node .nil 257 (.fn (.pair (.sl zr) (.pair (.fn (.pair zr .unit) (.pair .bool .unit)) .unit)) (.pair (.int .i64) .unit)) .nil) 258 (.fn (.pair (.sl zv) (.pair (.fn (.pair zv .unit) (.pair .bool .unit)) .unit)) (.pair (.int .i64) .unit)) .nil) 259 (.fn (.pair (.sl zM) (.pair (.fn (.pair zM .unit) (.pair .bool .unit)) .unit)) (.pair (.int .i64) .unit)) (.node .nil 260 (.fn (.pair (.sl zr) (.pair (.fn (.pair zr .unit) (.pair .bool .unit)) .unit)) (.pair (.ptr yT) .unit)) .nil)) 261 (.st (.pair (.sl zr) (.pair (.fn (.pair zr .unit) (.pair .bool .unit)) .unit))) (.node (.node .nil 262 yT .nil) 263 (.fn (.pair (.sl (.int .i64)) (.pair (.int .i64) .unit)) (.pair (.int .i64) .unit)) (.node .nil 264 (.fn (.pair (.fn (.pair (.int .i64) .unit) (.pair .bool .unit)) .unit) .unit) .nil))))) 265 (.fn (.pair (.fn (.pair (.int .i64) .unit) (.pair .bool .unit)) .unit) .unit) (.node (.node (.node (.node (.node (.node .nil 266 (.fn (.pair zq .unit) (.pair (.fn (.pair (.fn (.pair (.int .i64) .unit) (.pair .bool .unit)) .unit) .unit) .unit)) .nil) 267 (.fn (.pair (.int .u64) .unit) (.pair .bool .unit)) .nil) 268 (.fn (.pair (.sl (.int .u8)) (.pair (.fn (.pair (.int .u8) .unit) (.pair .bool .unit)) .unit)) (.pair .bool .unit)) (.node .nil 269 (.sl (.int .u8)) .nil)) 270 (.fn (.pair .str (.pair .str .unit)) (.pair .str .unit)) (.node (.node .nil 271 (.fn (.pair (.int .u64) .unit) (.pair (.int .i64) .unit)) .nil) 272 (.fn (.pair (.sl (.int .u8)) (.pair (.fn (.pair (.int .u8) .unit) (.pair .bool .unit)) .unit)) (.pair (.int .i64) .unit)) (.node .nil 273 (.fn (.pair .str (.pair (.int .u8) .unit)) (.pair .str .unit)) .nil))) 274 (.arr 256 .bool) (.node (.node (.node (.node .nil 275 (.arr 256 .bool) .nil) 277 (.fn (.pair .str .unit) (.pair (.arr 256 .bool) (.pair .bool .unit))) .nil) 278 (.fn (.pair .str (.pair (.ptr (.arr 256 .bool)) .unit)) (.pair .str .unit)) (.node .nil 279 (.ptr (.arr 256 .bool)) .nil)) 280 (.fn (.pair (.int .u64) (.pair (.int .u64) .unit)) (.pair (.int .u64) (.pair (.int .u64) .unit))) (.node (.node .nil 281 (.arr 64 (.int .u8)) .nil) 283 (.fn (.pair .str .unit) (.pair (.int .i32) (.pair (.int .i64) .unit))) (.node .nil 284 (.fn (.pair .str (.pair (.int .i32) .unit)) (.pair .bool .unit)) .nil)))) 285 (.fn (.pair .str (.pair (.int .i32) .unit)) (.pair (.int .i64) .unit)) (.node (.node (.node (.node (.node .nil 286 (.arr 256 (.int .u8)) .nil) 287 (.st (.pair (.int .u8) (.pair (.int .u8) .unit))) .nil) 288 zmD (.node .nil 289 (.arr 16 zmD) .nil)) 290 (.fn (.pair .str (.pair (.int .u8) .unit)) (.pair (.int .i64) .unit)) (.node (.node .nil 291 (.fn (.pair (.int .i32) .unit) (.pair .bool .unit)) .nil) 292 (.fn (.pair (.int .i64) .unit) (.pair (.int .i64) .unit)) (.node .nil 293 (.fn (.pair .str (.pair .str .unit)) (.pair (.int .i64) .unit)) .nil))) 294 (.fn .unit (.pair .str .unit)) (.node (.node (.node .nil 300 (.fn .unit (.pair (.int .i64) .unit)) .nil) 301 (.int .u32) (.node .nil 302 (.int .u8) .nil)) 303 (.int .u8) (.node (.node .nil 305 (.ptr (.int .u8)) .nil) 306 (.int .i32) (.node .nil 307 (.int .i32) .nil))))))))
def glob:List (Nat × AV):=[]
abbrev zuz:Ty:=(.pair zu (.pair zn (.pair tMe (.pair j8 .unit))))
def ext:List (Nat × Bool):=[(148,false),(230,true)]
def E0:Env:=⟨types,[],glob,0,false,ext,[],fun _=>none,false,false⟩
theorem zFc:Tryz.prog.follows .mixedOrders = true:=by kernel_rfl
theorem mkS {l:List Fun} {d:Bool} {F:Fun} {f:Go.Func} {K:Nat} (hl:Sds Tryz.prog E0 l) (hf:Tryz.prog.funcs[F.id]? = some f) (ho:jl f = true) (h:evF (En E0 d l) K f F.md F.a F.r = F.spec):Sd Tryz.prog E0 F:=Sd.mk zFc hl hf ho h
theorem zNP {l:List Fun} {d:Bool} {js:List Nat} {F:Fun} {f:Go.Func} {K:Nat} (hl:Sds Tryz.prog E0 l) (hf:Tryz.prog.funcs[F.id]? = some f) (ho:jl f = true) (h:evF (Ej E0 d js l) K f F.md F.a F.r = F.spec):Sd Tryz.prog E0 F:=Sd.mkJ zFc hl hf ho h
end Go.Proofs.YtlklokhlgcfcdaaGreatDoor
end
section
namespace Go.Proofs.YtlklokhlgcfcdaaGreatDoor
open Go.Ev
noncomputable section
abbrev Sq (F:Fun):Prop:=Sd Tryz.prog E0 F
def L0:List Fun:=[]
theorem h0:Sds Tryz.prog E0 L0:=trivial
theorem ms0 {d:Bool} {F:Fun} {f:Go.Func} {K:Nat} (hf:Tryz.prog.funcs[F.id]? = some f) (ho:jl f = true) (h:evF (En E0 d L0) K f F.md F.a F.r = F.spec):Sd Tryz.prog E0 F:=mkS h0 hf ho h
theorem mj0 {d:Bool} {js:List Nat} {F:Fun} {f:Go.Func} {K:Nat} (hf:Tryz.prog.funcs[F.id]? = some f) (ho:jl f = true) (h:evF (Ej E0 d js L0) K f F.md F.a F.r = F.spec):Sd Tryz.prog E0 F:=zNP h0 hf ho h
theorem ml0 {d:Bool} {F:Fun} {f:Go.Func} {S:Nat→F.a.I→Option F.r.I} (hf:Tryz.prog.funcs[F.id]? = some f) (ho:jl f = true) (h:∀ K,evF (En E0 d L0) K f F.md F.a F.r = S K) (e:S K0 = F.spec):Sd Tryz.prog E0 F:=mkS h0 hf ho ((h K0).trans e)
abbrev Es0:Env:=En E0 false L0
def za4:((List zo) × Unit)→Option ((List zo) × Unit):=fun (x0,()) =>
  bif List.isEmpty x0 then zfQ (some ([],())) (bif ve true zr (List.length (List.replicate 0 (ze zr)) + List.length x0) then some (List.replicate 0 (ze zr) ++ x0,()) else none) else bif ve true zr (List.length (List.replicate 0 (ze zr)) + List.length x0) then some (List.replicate 0 (ze zr) ++ x0,()) else none
abbrev znq:Fun:=⟨14,(ch [(.sl zr)]),(ch [(.sl zr)]),1,za4⟩
theorem zxP:Sq znq:=mj0 (d:=false) (js:=[999998]) (K:=0) Tryz.func14 (by kernel_rfl) (funext fun (x0,())=>by kernel_rfl)
def ziF:((List zF) × Unit)→Option ((List zF) × Unit):=fun (x0,()) =>
  bif List.isEmpty x0 then zfQ (some ([],())) (bif ve true zv (List.length (List.replicate 0 (ze zv)) + List.length x0) then some (List.replicate 0 (ze zv) ++ x0,()) else none) else bif ve true zv (List.length (List.replicate 0 (ze zv)) + List.length x0) then some (List.replicate 0 (ze zv) ++ x0,()) else none
abbrev znr:Fun:=⟨15,(ch [(.sl zv)]),(ch [(.sl zv)]),1,ziF⟩
theorem zxQ:Sq znr:=mj0 (d:=false) (js:=[999998]) (K:=0) Tryz.func15 (by kernel_rfl) (funext fun (x0,())=>by kernel_rfl)
def zgT:((List Int) × Unit)→Option ((List Int) × Unit):=fun (x0,()) =>
  bif List.isEmpty x0 then zfQ (some ([],())) (bif ve true tI (List.length (List.replicate 0 (0:Int)) + List.length x0) then some (List.replicate 0 (0:Int) ++ x0,()) else none) else bif ve true tI (List.length (List.replicate 0 (0:Int)) + List.length x0) then some (List.replicate 0 (0:Int) ++ x0,()) else none
abbrev zqE:Fun:=⟨16,(ch [(.sl tI)]),(ch [(.sl tI)]),1,zgT⟩
theorem zBv:Sq zqE:=mj0 (d:=false) (js:=[999998]) (K:=0) Tryz.func16 (by kernel_rfl) (funext fun (x0,())=>by kernel_rfl)
def zjo:((List (List Int)) × Unit)→Option ((List (List Int)) × Unit):=fun (x0,()) =>
  bif List.isEmpty x0 then zfQ (some ([],())) (bif ve true (.sl tI) (List.length (List.replicate 0 ([]:List Int)) + List.length x0) then some (List.replicate 0 ([]:List Int) ++ x0,()) else none) else bif ve true (.sl tI) (List.length (List.replicate 0 ([]:List Int)) + List.length x0) then some (List.replicate 0 ([]:List Int) ++ x0,()) else none
abbrev zoX:Fun:=⟨17,(ch [(.sl (.sl tI))]),(ch [(.sl (.sl tI))]),1,zjo⟩
theorem zzz:Sq zoX:=mj0 (d:=false) (js:=[999998]) (K:=0) Tryz.func17 (by kernel_rfl) (funext fun (x0,())=>by kernel_rfl)
def ziG:((List zl) × Unit)→Option ((List zl) × Unit):=fun (x0,()) =>
  bif List.isEmpty x0 then zfQ (some ([],())) (bif ve true zm (List.length (List.replicate 0 (ze zm)) + List.length x0) then some (List.replicate 0 (ze zm) ++ x0,()) else none) else bif ve true zm (List.length (List.replicate 0 (ze zm)) + List.length x0) then some (List.replicate 0 (ze zm) ++ x0,()) else none
abbrev zns:Fun:=⟨18,(ch [(.sl zm)]),(ch [(.sl zm)]),1,ziG⟩
theorem zxR:Sq zns:=mj0 (d:=false) (js:=[999998]) (K:=0) Tryz.func18 (by kernel_rfl) (funext fun (x0,())=>by kernel_rfl)
def zjp:((List qS) × Unit)→Option ((List qS) × Unit):=fun (x0,()) =>
  bif List.isEmpty x0 then zfQ (some ([],())) (bif ve true qk (List.length (List.replicate 0 (ze qk)) + List.length x0) then some (List.replicate 0 (ze qk) ++ x0,()) else none) else bif ve true qk (List.length (List.replicate 0 (ze qk)) + List.length x0) then some (List.replicate 0 (ze qk) ++ x0,()) else none
abbrev zoY:Fun:=⟨19,(ch [(.sl qk)]),(ch [(.sl qk)]),1,zjp⟩
theorem zzA:Sq zoY:=mj0 (d:=false) (js:=[999998]) (K:=0) Tryz.func19 (by kernel_rfl) (funext fun (x0,())=>by kernel_rfl)
def zjq:((List z9) × Unit)→Option ((List z9) × Unit):=fun (x0,()) =>
  bif List.isEmpty x0 then zfQ (some ([],())) (bif ve true zT (List.length (List.replicate 0 (ze zT)) + List.length x0) then some (List.replicate 0 (ze zT) ++ x0,()) else none) else bif ve true zT (List.length (List.replicate 0 (ze zT)) + List.length x0) then some (List.replicate 0 (ze zT) ++ x0,()) else none
abbrev zoZ:Fun:=⟨20,(ch [(.sl zT)]),(ch [(.sl zT)]),1,zjq⟩
theorem zzB:Sq zoZ:=mj0 (d:=false) (js:=[999998]) (K:=0) Tryz.func20 (by kernel_rfl) (funext fun (x0,())=>by kernel_rfl)
def zjr:((List qa) × Unit)→Option ((List qa) × Unit):=fun (x0,()) =>
  bif List.isEmpty x0 then zfQ (some ([],())) (bif ve true zG (List.length (List.replicate 0 (ze zG)) + List.length x0) then some (List.replicate 0 (ze zG) ++ x0,()) else none) else bif ve true zG (List.length (List.replicate 0 (ze zG)) + List.length x0) then some (List.replicate 0 (ze zG) ++ x0,()) else none
abbrev zo0:Fun:=⟨21,(ch [(.sl zG)]),(ch [(.sl zG)]),1,zjr⟩
theorem zzC:Sq zo0:=mj0 (d:=false) (js:=[999998]) (K:=0) Tryz.func21 (by kernel_rfl) (funext fun (x0,())=>by kernel_rfl)
def zjs:((List qq) × Unit)→Option ((List qq) × Unit):=fun (x0,()) =>
  bif List.isEmpty x0 then zfQ (some ([],())) (bif ve true zX (List.length (List.replicate 0 (ze zX)) + List.length x0) then some (List.replicate 0 (ze zX) ++ x0,()) else none) else bif ve true zX (List.length (List.replicate 0 (ze zX)) + List.length x0) then some (List.replicate 0 (ze zX) ++ x0,()) else none
abbrev zo1:Fun:=⟨22,(ch [(.sl zX)]),(ch [(.sl zX)]),1,zjs⟩
theorem zzD:Sq zo1:=mj0 (d:=false) (js:=[999998]) (K:=0) Tryz.func22 (by kernel_rfl) (funext fun (x0,())=>by kernel_rfl)
def za5:((List zt) × Unit)→Option ((List zt) × Unit):=fun (x0,()) =>
  bif List.isEmpty x0 then zfQ (some ([],())) (bif ve true zw (List.length (List.replicate 0 (ze zw)) + List.length x0) then some (List.replicate 0 (ze zw) ++ x0,()) else none) else bif ve true zw (List.length (List.replicate 0 (ze zw)) + List.length x0) then some (List.replicate 0 (ze zw) ++ x0,()) else none
abbrev znt:Fun:=⟨23,(ch [(.sl zw)]),(ch [(.sl zw)]),1,za5⟩
theorem zxS:Sq znt:=mj0 (d:=false) (js:=[999998]) (K:=0) Tryz.func23 (by kernel_rfl) (funext fun (x0,())=>by kernel_rfl)
def zl5:((List (List Int)) × Unit)→Option ((List (List Int)) × Unit):=fun (x0,()) =>
  bif List.isEmpty x0 then zfQ (some ([],())) (bif ve true (.arr 4 tU) (List.length (List.replicate 0 (ze (.arr 4 tU))) + List.length x0) then some (List.replicate 0 (ze (.arr 4 tU)) ++ x0,()) else none) else bif ve true (.arr 4 tU) (List.length (List.replicate 0 (ze (.arr 4 tU))) + List.length x0) then some (List.replicate 0 (ze (.arr 4 tU)) ++ x0,()) else none
abbrev zsE:Fun:=⟨24,(ch [(.sl (.arr 4 tU))]),(ch [(.sl (.arr 4 tU))]),1,zl5⟩
theorem zDt:Sq zsE:=mj0 (d:=false) (js:=[999998]) (K:=0) Tryz.func24 (by kernel_rfl) (funext fun (x0,())=>by kernel_rfl)
def zkY:((List z7) × Unit)→Option ((List z7) × Unit):=fun (x0,()) =>
  bif List.isEmpty x0 then zfQ (some ([],())) (bif ve true zM (List.length (List.replicate 0 (ze zM)) + List.length x0) then some (List.replicate 0 (ze zM) ++ x0,()) else none) else bif ve true zM (List.length (List.replicate 0 (ze zM)) + List.length x0) then some (List.replicate 0 (ze zM) ++ x0,()) else none
abbrev zqF:Fun:=⟨25,(ch [(.sl zM)]),(ch [(.sl zM)]),1,zkY⟩
theorem zBw:Sq zqF:=mj0 (d:=false) (js:=[999998]) (K:=0) Tryz.func25 (by kernel_rfl) (funext fun (x0,())=>by kernel_rfl)
def zib:(zy × Unit)→Option (Bool × Unit):=fun (x0,()) =>
  bif decide (x0.1 ≥ 0) then bif decide (x0.1 < 4) then some (true,()) else some (false,()) else some (false,())
abbrev zsF:Fun:=⟨181,(ch [zq]),(ch [.bool]),0,zib⟩
theorem zDu:Sq zsF:=ms0 (d:=false) (K:=0) Tryz.func181 (by kernel_rfl) (funext fun (x0,())=>by kernel_rfl)
def qt:(Int × (Int × (Int × Unit)))→Option (Bool × Unit):=fun (x0,x1,x2,()) =>
  bif decide (x0 ≥ x1) then bif decide (x0 ≤ x2) then some (true,()) else some (false,()) else some (false,())
abbrev zqG:Fun:=⟨182,(ch [tI,tI,tI]),(ch [.bool]),0,qt⟩
theorem zBx:Sq zqG:=ms0 (d:=false) (K:=0) Tryz.func182 (by kernel_rfl) (funext fun (x0,x1,x2,())=>by kernel_rfl)
abbrev vg:Type:=(List zy) × (Option ((zy × Unit)→Option (Bool × Unit))) × Int × Int
abbrev zp2:vg→St:=fun (v0,v1,v7,v8)=>St.mk [(0,.dat (.sl zq) v0),(1,.dat (.fn (.pair zq .unit) (.pair .bool .unit)) v1),(7,.dat tI v7),(8,.dat tI v8)] []
def zdo (k0:vg→Option (Int × Unit)):vg→Option (Int × Unit):=fun (v0,v1,v7,v8) =>
  bif decide (v8 < v7) then inR v8 ((List.length v0):Int) (Option.bind v1 fun q0=>Option.bind (q0 (ix je v0 v8,())) fun q1=>bif q1.1 then some (v8,()) else k0 (v0,v1,v7,wI (v8 + 1))) else some ((-1),())
abbrev zhJ (K:Nat):vg→Option (Int × Unit):=zg zdo K
theorem zp3 (K:Nat):∀ n,evV Es0 K Tryz.f252 0 (ch [tI]) [1,0,1,0] [] zp2 n = zg zdo n:=zp fun n0 (v0,v1,v7,v8)=>by kernel_rfl
def zeX (L0:vg→Option (Int × Unit)):((List zy) × ((Option ((zy × Unit)→Option (Bool × Unit))) × Unit))→Option (Int × Unit):=fun (x0,x1,()) =>
  L0 (x0,x1,((List.length x0):Int),0)
def zaD:((List zy) × ((Option ((zy × Unit)→Option (Bool × Unit))) × Unit))→Option (Int × Unit):=zeX (zhJ K0)
abbrev zjt:Fun:=⟨252,(ch [(.sl zq),(.fn (ch [zq]) (ch [.bool]))]),(ch [tI]),0,zaD⟩
theorem zsc:Sq zjt:=ml0 (d:=false) (S:=fun K=>zeX (zhJ K)) Tryz.func252 (by kernel_rfl) (fun K=>tr1 (T:=zeX) (zp3 K K) fun (x0,x1,())=>by kernel_rfl) rfl
def zaa:(Int × Unit)→Option (Bool × Unit):=fun (x0,()) =>
  bif x0 != x0 then some (true,()) else some (false,())
abbrev zo2:Fun:=⟨296,(ch [tI]),(ch [.bool]),0,zaa⟩
theorem zzE:Sq zo2:=ms0 (d:=false) (K:=0) Tryz.func296 (by kernel_rfl) (funext fun (x0,())=>by kernel_rfl)
def vy:(Int × Unit)→Option (Bool × Unit):=fun (x0,()) =>
  bif x0 != x0 then some (true,()) else some (false,())
abbrev zlL:Fun:=⟨297,(ch [tU]),(ch [.bool]),0,vy⟩
theorem zuA:Sq zlL:=ms0 (d:=false) (K:=0) Tryz.func297 (by kernel_rfl) (funext fun (x0,())=>by kernel_rfl)
abbrev zdY:Type:=Int × (List Int) × Int × Int
abbrev zBy:zdY→St:=fun (v3,v6,v7,v8)=>St.mk [(3,.dat tI v3),(6,.dat (.sl tI) v6),(7,.dat tI v7),(8,.dat tI v8)] []
def jb (k0:zdY→Option (Int × Unit)):zdY→Option (Int × Unit):=fun (v3,v6,v7,v8) =>
  bif decide (v8 < v7) then inR v8 ((List.length v6):Int) (bif ix (0:Int) v6 v8 != v3 then some (ix (0:Int) v6 v8,()) else k0 (v3,v6,v7,wI (v8 + 1))) else some (v3,())
abbrev zqH (K:Nat):zdY→Option (Int × Unit):=zg jb K
theorem zBz (K:Nat):∀ n,evV Es0 K Tryz.f253 0 (ch [tI]) [1,1,0,1,0] [] zBy n = zg jb n:=zp fun n0 (v3,v6,v7,v8)=>by kernel_rfl
def znu (L0:zdY→Option (Int × Unit)):((List Int) × Unit)→Option (Int × Unit):=fun (x0,()) =>
  L0 (0,x0,((List.length x0):Int),0)
def zdZ:((List Int) × Unit)→Option (Int × Unit):=znu (zqH K0)
abbrev zuB:Fun:=⟨253,(ch [(.sl tI)]),(ch [tI]),0,zdZ⟩
theorem zF5:Sq zuB:=ml0 (d:=false) (S:=fun K=>znu (zqH K)) Tryz.func253 (by kernel_rfl) (fun K=>tr1 (T:=znu) (zBz K K) fun (x0,())=>by kernel_rfl) rfl
abbrev vR:Type:=(List Int) × (Option ((Int × Unit)→Option (Bool × Unit))) × Int × Int
abbrev zsd:vR→St:=fun (v0,v1,v7,v8)=>St.mk [(0,.dat (.sl tI) v0),(1,.dat (.fn (.pair tI .unit) (.pair .bool .unit)) v1),(7,.dat tI v7),(8,.dat tI v8)] []
def zeY (k0:vR→Option (Int × Unit)):vR→Option (Int × Unit):=fun (v0,v1,v7,v8) =>
  bif decide (v8 < v7) then inR v8 ((List.length v0):Int) (Option.bind v1 fun q0=>Option.bind (q0 (ix (0:Int) v0 v8,())) fun q1=>bif q1.1 then some (v8,()) else k0 (v0,v1,v7,wI (v8 + 1))) else some ((-1),())
abbrev zju (K:Nat):vR→Option (Int × Unit):=zg zeY K
theorem zse (K:Nat):∀ n,evV Es0 K Tryz.f231 0 (ch [tI]) [1,0,1,0] [] zsd n = zg zeY n:=zp fun n0 (v0,v1,v7,v8)=>by kernel_rfl
def zgm (L0:vR→Option (Int × Unit)):((List Int) × ((Option ((Int × Unit)→Option (Bool × Unit))) × Unit))→Option (Int × Unit):=fun (x0,x1,()) =>
  L0 (x0,x1,((List.length x0):Int),0)
def zb5:((List Int) × ((Option ((Int × Unit)→Option (Bool × Unit))) × Unit))→Option (Int × Unit):=zgm (zju K0)
abbrev zlM:Fun:=⟨231,(ch [(.sl tI),(.fn (ch [tI]) (ch [.bool]))]),(ch [tI]),0,zb5⟩
theorem zuC:Sq zlM:=ml0 (d:=false) (S:=fun K=>zgm (zju K)) Tryz.func231 (by kernel_rfl) (fun K=>tr1 (T:=zgm) (zse K K) fun (x0,x1,())=>by kernel_rfl) rfl
def zgn:(Int × Unit)→Option (Bool × Unit):=fun (x0,()) =>
  bif decide (x0 ≥ 97) then bif decide (x0 ≤ 122) then some (true,()) else some (false,()) else some (false,())
abbrev zuD:Fun:=⟨256,(ch [(.int .u8)]),(ch [.bool]),0,zgn⟩
theorem zF6:Sq zuD:=ms0 (d:=false) (K:=0) Tryz.func256 (by kernel_rfl) (funext fun (x0,())=>by kernel_rfl)
def zjv:(Int × ((Option (Option ((Int × Unit)→Option (Bool × Unit)))) × Unit))→Option (Bool × Unit):=fun (x0,x1,()) =>
  Option.bind x1 fun q0=>Option.bind q0 fun q1=>Option.bind (q1 (x0,())) fun q2=>bif q2.1 then some (false,()) else some (true,())
abbrev zuE:Fun:=⟨298,(ch [(.int .u8),(.ptr (.fn (ch [(.int .u8)]) (ch [.bool])))]),(ch [.bool]),0,zjv⟩
theorem zF7:Sq zuE:=ms0 (d:=false) (K:=0) Tryz.func298 (by kernel_rfl) (funext fun (x0,x1,())=>by kernel_rfl)
abbrev vz:Type:=(List Int) × (Option ((Int × Unit)→Option (Bool × Unit))) × Int × Int
abbrev zqI:vz→St:=fun (v0,v1,v7,v8)=>St.mk [(0,.dat (.sl (.int IntKind.u8)) v0),(1,.dat (.fn (.pair (.int IntKind.u8) .unit) (.pair .bool .unit)) v1),(7,.dat tI v7),(8,.dat tI v8)] []
def zd0 (k0:vz→Option (Int × Unit)):vz→Option (Int × Unit):=fun (v0,v1,v7,v8) =>
  bif decide (v8 < v7) then inR v8 ((List.length v0):Int) (Option.bind v1 fun q0=>Option.bind (q0 (ix (ze (.int IntKind.u8)) v0 v8,())) fun q1=>bif q1.1 then some (v8,()) else k0 (v0,v1,v7,wI (v8 + 1))) else some ((-1),())
abbrev zi3 (K:Nat):vz→Option (Int × Unit):=zg zd0 K
theorem zqJ (K:Nat):∀ n,evV Es0 K Tryz.f308 0 (ch [tI]) [1,0,1,0] [] zqI n = zg zd0 n:=zp fun n0 (v0,v1,v7,v8)=>by kernel_rfl
def zfR (L0:vz→Option (Int × Unit)):((List Int) × ((Option ((Int × Unit)→Option (Bool × Unit))) × Unit))→Option (Int × Unit):=fun (x0,x1,()) =>
  L0 (x0,x1,((List.length x0):Int),0)
def zbB:((List Int) × ((Option ((Int × Unit)→Option (Bool × Unit))) × Unit))→Option (Int × Unit):=zfR (zi3 K0)
abbrev zky:Fun:=⟨308,(ch [(.sl (.int .u8)),(.fn (ch [(.int .u8)]) (ch [.bool]))]),(ch [tI]),0,zbB⟩
theorem ztM:Sq zky:=ml0 (d:=false) (S:=fun K=>zfR (zi3 K)) Tryz.func308 (by kernel_rfl) (fun K=>tr1 (T:=zfR) (zqJ K K) fun (x0,x1,())=>by kernel_rfl) rfl
def zjw:(Int × Unit)→Option (Bool × Unit):=fun (x0,()) =>
  bif decide (x0 ≥ 48) then bif decide (x0 ≤ 57) then some (true,()) else some (false,()) else some (false,())
abbrev zuF:Fun:=⟨259,(ch [(.int .u8)]),(ch [.bool]),0,zjw⟩
theorem zF8:Sq zuF:=ms0 (d:=false) (K:=0) Tryz.func259 (by kernel_rfl) (funext fun (x0,())=>by kernel_rfl)
abbrev jO:Type:=(List qx) × (Option ((qx × Unit)→Option (Bool × Unit))) × Int × Int
abbrev znv:jO→St:=fun (v0,v1,v7,v8)=>St.mk [(0,.dat (.sl qC) v0),(1,.dat (.fn (.pair qC .unit) (.pair .bool .unit)) v1),(7,.dat tI v7),(8,.dat tI v8)] []
def za6 (k0:jO→Option (Int × Unit)):jO→Option (Int × Unit):=fun (v0,v1,v7,v8) =>
  bif decide (v8 < v7) then inR v8 ((List.length v0):Int) (Option.bind v1 fun q0=>Option.bind (q0 (ix qn v0 v8,())) fun q1=>bif q1.1 then some (v8,()) else k0 (v0,v1,v7,wI (v8 + 1))) else some ((-1),())
abbrev zgo (K:Nat):jO→Option (Int × Unit):=zg za6 K
theorem znw (K:Nat):∀ n,evV Es0 K Tryz.f260 0 (ch [tI]) [1,0,1,0] [] znv n = zg za6 n:=zp fun n0 (v0,v1,v7,v8)=>by kernel_rfl
def zdp (L0:jO→Option (Int × Unit)):((List qx) × ((Option ((qx × Unit)→Option (Bool × Unit))) × Unit))→Option (Int × Unit):=fun (x0,x1,()) =>
  L0 (x0,x1,((List.length x0):Int),0)
def yU:((List qx) × ((Option ((qx × Unit)→Option (Bool × Unit))) × Unit))→Option (Int × Unit):=zdp (zgo K0)
abbrev zhK:Fun:=⟨260,(ch [(.sl qC),(.fn (ch [qC]) (ch [.bool]))]),(ch [tI]),0,yU⟩
theorem zp4:Sq zhK:=ml0 (d:=false) (S:=fun K=>zdp (zgo K)) Tryz.func260 (by kernel_rfl) (fun K=>tr1 (T:=zdp) (znw K K) fun (x0,x1,())=>by kernel_rfl) rfl
abbrev yp:Type:=(List qx) × Int × Int × List ByteArray
abbrev ztN:yp→St:=fun (v7,v8,v9,o0)=>St.mk [(3,.ow 0),(7,.dat (.sl qC) v7),(8,.dat tI v8),(9,.dat tI v9)] [.row .str o0 false]
def yq (k0:yp→Option ((List ByteArray) × Unit)):yp→Option ((List ByteArray) × Unit):=fun (v7,v8,v9,o0) =>
  bif decide (v9 < v8) then inR v9 ((List.length v7):Int) (bif decide (List.length o0 + List.length (zj (List.replicate 1 (ze .str)) 0 (ix qn v7 v9).1) ≤ lim) then k0 (v7,v8,wI (v9 + 1),o0 ++ zj (List.replicate 1 (ze .str)) 0 (ix qn v7 v9).1) else none) else some (o0,())
abbrev zkz (K:Nat):yp→Option ((List ByteArray) × Unit):=zg yq K
theorem ztO (K:Nat):∀ n,evV Es0 K Tryz.f190 0 (ch [(.sl .str)]) [1,1,0,1,0] [] ztN n = zg yq n:=zp fun n0 (v7,v8,v9,o0)=>by kernel_rfl
def zht (L0:yp→Option ((List ByteArray) × Unit)):(zf × Unit)→Option ((List ByteArray) × Unit):=fun (x0,()) =>
  L0 (x0.2.2.1,((List.length x0.2.2.1):Int),0,[])
def zhu:(zf × Unit)→Option ((List ByteArray) × Unit):=zht (zkz K0)
abbrev zmE:Fun:=⟨190,(ch [zu]),(ch [(.sl .str)]),0,zhu⟩
theorem zwh:Sq zmE:=ml0 (d:=false) (S:=fun K=>zht (zkz K)) Tryz.func190 (by kernel_rfl) (fun K=>tr1 (T:=zht) (ztO K K) fun (x0,())=>by kernel_rfl) rfl
abbrev zd1:Type:=(List ByteArray) × (List ByteArray) × Int × Int × List (ByteArray × Int)
abbrev zBA:zd1→St:=fun (v0,v7,v8,v9,o0)=>St.mk [(0,.dat (.sl .str) v0),(3,.om 0),(7,.dat (.sl .str) v7),(8,.dat tI v8),(9,.dat tI v9)] [.mp .str tI o0]
def zd2 (k0:zd1→Option (Bool × Unit)):zd1→Option (Bool × Unit):=fun (v0,v7,v8,v9,o0) =>
  bif decide (v9 < v8) then inR v9 ((List.length v7):Int) (k0 (v0,v7,v8,wI (v9 + 1),jL .str o0 (List.getD v7 (Int.toNat v9) (ze .str)) (wI (zaA .str (0:Int) o0 (List.getD v7 (Int.toNat v9) (ze .str)) + 1)))) else bif ((List.length o0):Int) == ((List.length v0):Int) then some (true,()) else some (false,())
abbrev zqK (K:Nat):zd1→Option (Bool × Unit):=zg zd2 K
theorem zBB (K:Nat):∀ n,evV Es0 K Tryz.f189 0 (ch [.bool]) [1,1,0,1,0] [] zBA n = zg zd2 n:=zp fun n0 (v0,v7,v8,v9,o0)=>by kernel_rfl
def znx (L0:zd1→Option (Bool × Unit)):((List ByteArray) × Unit)→Option (Bool × Unit):=fun (x0,()) =>
  L0 (x0,x0,((List.length x0):Int),0,[])
def zny:((List ByteArray) × Unit)→Option (Bool × Unit):=znx (zqK K0)
abbrev zuG:Fun:=⟨189,(ch [(.sl .str)]),(ch [.bool]),0,zny⟩
theorem zF9:Sq zuG:=ml0 (d:=false) (S:=fun K=>znx (zqK K)) Tryz.func189 (by kernel_rfl) (fun K=>tr1 (T:=znx) (zBB K K) fun (x0,())=>by kernel_rfl) rfl
def zjx:(Int × Unit)→Option (zy × (Int × Unit)):=fun (x0,()) =>
  bif decide (x0 < 0) then some ((0,0,()),1,()) else bif decide (x0 ≥ 64) then some ((0,0,()),1,()) else bif decide (x0 < 0) then none else some ((0,wU (1 * 2 ^ min (Int.toNat x0) (IntKind.bits IntKind.u64)),()),0,())
abbrev zuH:Fun:=⟨191,(ch [tI]),(ch [zq,tI]),0,zjx⟩
theorem zGa:Sq zuH:=ms0 (d:=false) (K:=0) Tryz.func191 (by kernel_rfl) (funext fun (x0,())=>by kernel_rfl)
abbrev y0:Type:=(List zy) × Int × Int × zy
abbrev zuI:y0→St:=fun (v0,v7,v8,o0)=>St.mk [(0,.dat (.sl zq) v0),(3,.bp 0 []),(7,.dat tI v7),(8,.dat tI v8)] [.bx (.dat zq o0) false]
def y3 (k0:y0→Option (Int × Unit)):y0→Option (Int × Unit):=fun (v0,v7,v8,o0) =>
  bif decide (v8 < v7) then inR v8 ((List.length v0):Int) (bif eqI zq o0 (ix je v0 v8) then some (v8,()) else k0 (v0,v7,wI (v8 + 1),o0)) else some ((-1),())
abbrev zlN (K:Nat):y0→Option (Int × Unit):=zg y3 K
theorem zuJ (K:Nat):∀ n,evV Es0 K Tryz.f261 0 (ch [tI]) [1,0,1,0] [] zuI n = zg y3 n:=zp fun n0 (v0,v7,v8,o0)=>by kernel_rfl
def ziH (L0:y0→Option (Int × Unit)):((List zy) × (zy × Unit))→Option (Int × Unit):=fun (x0,x1,()) =>
  L0 (x0,((List.length x0):Int),0,x1)
def ziI:((List zy) × zy × Unit)→Option (Int × Unit):=ziH (zlN K0)
abbrev znz:Fun:=⟨261,(ch [(.sl zq),zq]),(ch [tI]),0,ziI⟩
theorem zxT:Sq znz:=ml0 (d:=false) (S:=fun K=>ziH (zlN K)) Tryz.func261 (by kernel_rfl) (fun K=>tr1 (T:=ziH) (zuJ K K) fun (x0,x1,())=>by kernel_rfl) rfl
def ziJ:(zy × ((Option Int) × Unit))→Option (Bool × Unit):=fun (x0,x1,()) =>
  Option.bind x1 fun q0=>bif wU (↑(BitVec.toNat (BitVec.ofInt (IntKind.bits IntKind.u64) x0.2.1 &&& ~~~BitVec.ofInt (IntKind.bits IntKind.u64) q0)):Int) != 0 then some (true,()) else some (false,())
abbrev znA:Fun:=⟨193,(ch [zq,(.ptr tU)]),(ch [.bool]),0,ziJ⟩
theorem zxU:Sq znA:=ms0 (d:=false) (K:=0) Tryz.func193 (by kernel_rfl) (funext fun (x0,x1,())=>by kernel_rfl)
def zjy:(zaw × Unit)→Option ((List Int) × Unit):=fun (x0,()) =>
  some ([x0.1,x0.2.1,x0.2.2.1,x0.2.2.2.1,x0.2.2.2.2.1],())
abbrev zo3:Fun:=⟨195,(ch [zb3]),(ch [(.sl tI)]),0,zjy⟩
theorem zzF:Sq zo3:=ms0 (d:=false) (K:=0) Tryz.func195 (by kernel_rfl) (funext fun (x0,())=>by kernel_rfl)
def zbC:(zl × ((Option (Option ((zl × Unit)→Option (Bool × Unit)))) × Unit))→Option (Bool × Unit):=fun (x0,x1,()) =>
  Option.bind x1 fun q0=>Option.bind q0 fun q1=>Option.bind (q1 (x0,())) fun q2=>bif q2.1 then some (false,()) else some (true,())
abbrev zkA:Fun:=⟨197,(ch [zm,(.ptr (.fn (ch [zm]) (ch [.bool])))]),(ch [.bool]),0,zbC⟩
theorem ztP:Sq zkA:=ms0 (d:=false) (K:=0) Tryz.func197 (by kernel_rfl) (funext fun (x0,x1,())=>by kernel_rfl)
abbrev vh:Type:=(List zl) × (Option ((zl × Unit)→Option (Bool × Unit))) × Int × Int
abbrev zp5:vh→St:=fun (v0,v1,v7,v8)=>St.mk [(0,.dat (.sl zm) v0),(1,.dat (.fn (.pair zm .unit) (.pair .bool .unit)) v1),(7,.dat tI v7),(8,.dat tI v8)] []
def zdq (k0:vh→Option (Int × Unit)):vh→Option (Int × Unit):=fun (v0,v1,v7,v8) =>
  bif decide (v8 < v7) then inR v8 ((List.length v0):Int) (Option.bind v1 fun q0=>Option.bind (q0 (ix za v0 v8,())) fun q1=>bif q1.1 then some (v8,()) else k0 (v0,v1,v7,wI (v8 + 1))) else some ((-1),())
abbrev zhL (K:Nat):vh→Option (Int × Unit):=zg zdq K
theorem zp6 (K:Nat):∀ n,evV Es0 K Tryz.f262 0 (ch [tI]) [1,0,1,0] [] zp5 n = zg zdq n:=zp fun n0 (v0,v1,v7,v8)=>by kernel_rfl
def zeZ (L0:vh→Option (Int × Unit)):((List zl) × ((Option ((zl × Unit)→Option (Bool × Unit))) × Unit))→Option (Int × Unit):=fun (x0,x1,()) =>
  L0 (x0,x1,((List.length x0):Int),0)
def zaE:((List zl) × ((Option ((zl × Unit)→Option (Bool × Unit))) × Unit))→Option (Int × Unit):=zeZ (zhL K0)
abbrev zjz:Fun:=⟨262,(ch [(.sl zm),(.fn (ch [zm]) (ch [.bool]))]),(ch [tI]),0,zaE⟩
theorem zsf:Sq zjz:=ml0 (d:=false) (S:=fun K=>zeZ (zhL K)) Tryz.func262 (by kernel_rfl) (fun K=>tr1 (T:=zeZ) (zp6 K K) fun (x0,x1,())=>by kernel_rfl) rfl
abbrev vA:Type:=(List qS) × (Option ((qS × Unit)→Option (Bool × Unit))) × Int × Int
abbrev zqL:vA→St:=fun (v0,v1,v7,v8)=>St.mk [(0,.dat (.sl qk) v0),(1,.dat (.fn (.pair qk .unit) (.pair .bool .unit)) v1),(7,.dat tI v7),(8,.dat tI v8)] []
def zd3 (k0:vA→Option (Int × Unit)):vA→Option (Int × Unit):=fun (v0,v1,v7,v8) =>
  bif decide (v8 < v7) then inR v8 ((List.length v0):Int) (Option.bind v1 fun q0=>Option.bind (q0 (ix zgS v0 v8,())) fun q1=>bif q1.1 then some (v8,()) else k0 (v0,v1,v7,wI (v8 + 1))) else some ((-1),())
abbrev zi4 (K:Nat):vA→Option (Int × Unit):=zg zd3 K
theorem zqM (K:Nat):∀ n,evV Es0 K Tryz.f263 0 (ch [tI]) [1,0,1,0] [] zqL n = zg zd3 n:=zp fun n0 (v0,v1,v7,v8)=>by kernel_rfl
def zfS (L0:vA→Option (Int × Unit)):((List qS) × ((Option ((qS × Unit)→Option (Bool × Unit))) × Unit))→Option (Int × Unit):=fun (x0,x1,()) =>
  L0 (x0,x1,((List.length x0):Int),0)
def zbD:((List qS) × ((Option ((qS × Unit)→Option (Bool × Unit))) × Unit))→Option (Int × Unit):=zfS (zi4 K0)
abbrev zkB:Fun:=⟨263,(ch [(.sl qk),(.fn (ch [qk]) (ch [.bool]))]),(ch [tI]),0,zbD⟩
theorem ztQ:Sq zkB:=ml0 (d:=false) (S:=fun K=>zfS (zi4 K)) Tryz.func263 (by kernel_rfl) (fun K=>tr1 (T:=zfS) (zqM K K) fun (x0,x1,())=>by kernel_rfl) rfl
def zgp:(z7 × Unit)→Option (Bool × Unit):=fun (x0,()) =>
  bif decide (x0.1 ≥ 0) then bif decide (x0.1 ≤ 127) then bif decide (x0.2.1 ≥ 0) then bif decide (x0.2.1 ≤ 127) then some (true,()) else some (false,()) else some (false,()) else some (false,()) else some (false,())
abbrev zuK:Fun:=⟨264,(ch [zM]),(ch [.bool]),0,zgp⟩
theorem zGb:Sq zuK:=ms0 (d:=false) (K:=0) Tryz.func264 (by kernel_rfl) (funext fun (x0,())=>by kernel_rfl)
def zjA:(Int × Unit)→Option (Bool × Unit):=fun (x0,()) =>
  bif decide (x0 ≥ 0) then bif decide (x0 < 6) then some (true,()) else some (false,()) else some (false,())
abbrev zuL:Fun:=⟨265,(ch [tI]),(ch [.bool]),0,zjA⟩
theorem zGc:Sq zuL:=ms0 (d:=false) (K:=0) Tryz.func265 (by kernel_rfl) (funext fun (x0,())=>by kernel_rfl)
def zgU:(z9 × ((Option z7) × ((Option Int) × Unit)))→Option (Bool × Unit):=fun (x0,x1,x2,()) =>
  bif x0.1 then Option.bind x1 fun q0=>bif eqI zM x0.2.1 q0 then Option.bind x2 fun q1=>bif x0.2.2.2.1 == q1 then some (true,()) else some (false,()) else some (false,()) else some (false,())
abbrev zqN:Fun:=⟨267,(ch [zT,(.ptr zM),(.ptr tI)]),(ch [.bool]),0,zgU⟩
theorem zBC:Sq zqN:=ms0 (d:=false) (K:=0) Tryz.func267 (by kernel_rfl) (funext fun (x0,x1,x2,())=>by kernel_rfl)
abbrev vB:Type:=(List z9) × (Option ((z9 × Unit)→Option (Bool × Unit))) × Int × Int
abbrev zqO:vB→St:=fun (v0,v1,v7,v8)=>St.mk [(0,.dat (.sl zT) v0),(1,.dat (.fn (.pair zT .unit) (.pair .bool .unit)) v1),(7,.dat tI v7),(8,.dat tI v8)] []
def zd4 (k0:vB→Option (Int × Unit)):vB→Option (Int × Unit):=fun (v0,v1,v7,v8) =>
  bif decide (v8 < v7) then inR v8 ((List.length v0):Int) (Option.bind v1 fun q0=>Option.bind (q0 (ix qh v0 v8,())) fun q1=>bif q1.1 then some (v8,()) else k0 (v0,v1,v7,wI (v8 + 1))) else some ((-1),())
abbrev zi5 (K:Nat):vB→Option (Int × Unit):=zg zd4 K
theorem zqP (K:Nat):∀ n,evV Es0 K Tryz.f266 0 (ch [tI]) [1,0,1,0] [] zqO n = zg zd4 n:=zp fun n0 (v0,v1,v7,v8)=>by kernel_rfl
def zfT (L0:vB→Option (Int × Unit)):((List z9) × ((Option ((z9 × Unit)→Option (Bool × Unit))) × Unit))→Option (Int × Unit):=fun (x0,x1,()) =>
  L0 (x0,x1,((List.length x0):Int),0)
def yr:((List z9) × ((Option ((z9 × Unit)→Option (Bool × Unit))) × Unit))→Option (Int × Unit):=zfT (zi5 K0)
abbrev zkC:Fun:=⟨266,(ch [(.sl zT),(.fn (ch [zT]) (ch [.bool]))]),(ch [tI]),0,yr⟩
theorem ztR:Sq zkC:=ml0 (d:=false) (S:=fun K=>zfT (zi5 K)) Tryz.func266 (by kernel_rfl) (fun K=>tr1 (T:=zfT) (zqP K K) fun (x0,x1,())=>by kernel_rfl) rfl
abbrev vC:Type:=(List qa) × (Option ((qa × Unit)→Option (Bool × Unit))) × Int × Int
abbrev zqQ:vC→St:=fun (v0,v1,v7,v8)=>St.mk [(0,.dat (.sl zG) v0),(1,.dat (.fn (.pair zG .unit) (.pair .bool .unit)) v1),(7,.dat tI v7),(8,.dat tI v8)] []
def zd5 (k0:vC→Option (Int × Unit)):vC→Option (Int × Unit):=fun (v0,v1,v7,v8) =>
  bif decide (v8 < v7) then inR v8 ((List.length v0):Int) (Option.bind v1 fun q0=>Option.bind (q0 (ix zz v0 v8,())) fun q1=>bif q1.1 then some (v8,()) else k0 (v0,v1,v7,wI (v8 + 1))) else some ((-1),())
abbrev zi6 (K:Nat):vC→Option (Int × Unit):=zg zd5 K
theorem zqR (K:Nat):∀ n,evV Es0 K Tryz.f268 0 (ch [tI]) [1,0,1,0] [] zqQ n = zg zd5 n:=zp fun n0 (v0,v1,v7,v8)=>by kernel_rfl
def zfU (L0:vC→Option (Int × Unit)):((List qa) × ((Option ((qa × Unit)→Option (Bool × Unit))) × Unit))→Option (Int × Unit):=fun (x0,x1,()) =>
  L0 (x0,x1,((List.length x0):Int),0)
def zbE:((List qa) × ((Option ((qa × Unit)→Option (Bool × Unit))) × Unit))→Option (Int × Unit):=zfU (zi6 K0)
abbrev zkD:Fun:=⟨268,(ch [(.sl zG),(.fn (ch [zG]) (ch [.bool]))]),(ch [tI]),0,zbE⟩
theorem ztS:Sq zkD:=ml0 (d:=false) (S:=fun K=>zfU (zi6 K)) Tryz.func268 (by kernel_rfl) (fun K=>tr1 (T:=zfU) (zqR K K) fun (x0,x1,())=>by kernel_rfl) rfl
def zsg:(qa × Unit)→Option (zBu × Unit):=fun (x0,()) =>
  some (x0.2.2,())
abbrev zzG:Fun:=⟨269,(ch [zG]),(ch [zv7]),0,zsg⟩
theorem zKs:Sq zzG:=ms0 (d:=false) (K:=0) Tryz.func269 (by kernel_rfl) (funext fun (x0,())=>by kernel_rfl)
def ze0:(Int × Unit)→Option (Bool × Unit):=fun (x0,()) =>
  bif decide (x0 ≥ 0) then bif decide (x0 ≤ 127) then some (true,()) else some (false,()) else some (false,())
abbrev zzH:Fun:=⟨300,(ch [tI]),(ch [.bool]),0,ze0⟩
theorem zKt:Sq zzH:=ms0 (d:=false) (K:=0) Tryz.func300 (by kernel_rfl) (funext fun (x0,())=>by kernel_rfl)
abbrev vD:Type:=(List qq) × (Option ((qq × Unit)→Option (Bool × Unit))) × Int × Int
abbrev zqS:vD→St:=fun (v0,v1,v7,v8)=>St.mk [(0,.dat (.sl zX) v0),(1,.dat (.fn (.pair zX .unit) (.pair .bool .unit)) v1),(7,.dat tI v7),(8,.dat tI v8)] []
def zd6 (k0:vD→Option (Int × Unit)):vD→Option (Int × Unit):=fun (v0,v1,v7,v8) =>
  bif decide (v8 < v7) then inR v8 ((List.length v0):Int) (Option.bind v1 fun q0=>Option.bind (q0 (ix zaC v0 v8,())) fun q1=>bif q1.1 then some (v8,()) else k0 (v0,v1,v7,wI (v8 + 1))) else some ((-1),())
abbrev zi7 (K:Nat):vD→Option (Int × Unit):=zg zd6 K
theorem zqT (K:Nat):∀ n,evV Es0 K Tryz.f271 0 (ch [tI]) [1,0,1,0] [] zqS n = zg zd6 n:=zp fun n0 (v0,v1,v7,v8)=>by kernel_rfl
def zfV (L0:vD→Option (Int × Unit)):((List qq) × ((Option ((qq × Unit)→Option (Bool × Unit))) × Unit))→Option (Int × Unit):=fun (x0,x1,()) =>
  L0 (x0,x1,((List.length x0):Int),0)
def zbF:((List qq) × ((Option ((qq × Unit)→Option (Bool × Unit))) × Unit))→Option (Int × Unit):=zfV (zi7 K0)
abbrev zkE:Fun:=⟨271,(ch [(.sl zX),(.fn (ch [zX]) (ch [.bool]))]),(ch [tI]),0,zbF⟩
theorem ztT:Sq zkE:=ml0 (d:=false) (S:=fun K=>zfV (zi7 K)) Tryz.func271 (by kernel_rfl) (fun K=>tr1 (T:=zfV) (zqT K K) fun (x0,x1,())=>by kernel_rfl) rfl
def zi8:(Int × Unit)→Option (Bool × Unit):=fun (x0,()) =>
  bif decide (x0 ≥ 0) then bif decide (x0 ≤ 127) then some (true,()) else some (false,()) else some (false,())
abbrev zDa:Fun:=⟨301,(ch [tI]),(ch [.bool]),0,zi8⟩
theorem zLV:Sq zDa:=ms0 (d:=false) (K:=0) Tryz.func301 (by kernel_rfl) (funext fun (x0,())=>by kernel_rfl)
def zjB:(Int × Unit)→Option (Bool × Unit):=fun (x0,()) =>
  bif decide (x0 ≥ 32) then bif decide (x0 ≤ 126) then some (true,()) else some (false,()) else some (false,())
abbrev zuM:Fun:=⟨302,(ch [(.int .u8)]),(ch [.bool]),0,zjB⟩
theorem zGd:Sq zuM:=ms0 (d:=false) (K:=0) Tryz.func302 (by kernel_rfl) (funext fun (x0,())=>by kernel_rfl)
abbrev jD:Type:=ByteArray × Int
abbrev zmW:jD→St:=fun (v0,v1)=>St.mk [(0,.dat .str v0),(1,.dat (.int IntKind.u8) v1)] []
def zN (k0:jD→Option (ByteArray × Unit)):jD→Option (ByteArray × Unit):=fun (v0,v1) =>
  bif decide ((↑(ByteArray.size v0):Int) > 0) then inR (wI ((↑(ByteArray.size v0):Int) - 1)) (↑(ByteArray.size v0):Int) (bif (↑(UInt8.toNat (List.getD (Array.toList (ByteArray.data v0)) (Int.toNat (wI ((↑(ByteArray.size v0):Int) - 1))) 0)):Int) == v1 then bif decide (0 ≤ wI ((↑(ByteArray.size v0):Int) - 1)) then bif decide (wI ((↑(ByteArray.size v0):Int) - 1) ≤ (↑(ByteArray.size v0):Int)) then k0 (ByteArray.extract v0 0 (Int.toNat (wI ((↑(ByteArray.size v0):Int) - 1))),v1) else none else none else some (v0,())) else some (v0,())
abbrev zfY (K:Nat):jD→Option (ByteArray × Unit):=zg zN K
theorem zmX (K:Nat):∀ n,evV Es0 K Tryz.f310 0 (ch [.str]) [1,0,0] [] zmW n = zg zN n:=zp fun n0 (v0,v1)=>by kernel_rfl
def zbM (L0:jD→Option (ByteArray × Unit)):(ByteArray × (Int × Unit))→Option (ByteArray × Unit):=fun (x0,x1,()) =>
  L0 (x0,x1)
def zbN:(ByteArray × Int × Unit)→Option (ByteArray × Unit):=zbM (zfY K0)
abbrev zhn:Fun:=⟨310,(ch [.str,(.int .u8)]),(ch [.str]),0,zbN⟩
theorem zoy:Sq zhn:=ml0 (d:=false) (S:=fun K=>zbM (zfY K)) Tryz.func310 (by kernel_rfl) (fun K=>tr1 (T:=zbM) (zmX K K) fun (x0,x1,())=>by kernel_rfl) rfl
abbrev jP:Type:=ByteArray × Int
abbrev znB:jP→St:=fun (v0,v1)=>St.mk [(0,.dat .str v0),(1,.dat (.int IntKind.u8) v1)] []
def zR (k0:jP→Option (ByteArray × Unit)):jP→Option (ByteArray × Unit):=fun (v0,v1) =>
  bif decide ((↑(ByteArray.size v0):Int) > 0) then bif decide (0 < (↑(ByteArray.size v0):Int)) then bif (↑(UInt8.toNat (List.getD (Array.toList (ByteArray.data v0)) (Int.toNat 0) 0)):Int) == v1 then bif decide (1 ≤ (↑(ByteArray.size v0):Int)) then k0 (ByteArray.extract v0 (Int.toNat 1) (ByteArray.size v0),v1) else none else some (v0,()) else none else some (v0,())
abbrev zgq (K:Nat):jP→Option (ByteArray × Unit):=zg zR K
theorem znC (K:Nat):∀ n,evV Es0 K Tryz.f309 0 (ch [.str]) [1,0,0] [] znB n = zg zR n:=zp fun n0 (v0,v1)=>by kernel_rfl
def zdr (L0:jP→Option (ByteArray × Unit)):(ByteArray × (Int × Unit))→Option (ByteArray × Unit):=fun (x0,x1,()) =>
  L0 (x0,x1)
def zds:(ByteArray × Int × Unit)→Option (ByteArray × Unit):=zdr (zgq K0)
abbrev zhM:Fun:=⟨309,(ch [.str,(.int .u8)]),(ch [.str]),0,zds⟩
theorem zp7:Sq zhM:=ml0 (d:=false) (S:=fun K=>zdr (zgq K)) Tryz.func309 (by kernel_rfl) (fun K=>tr1 (T:=zdr) (znC K K) fun (x0,x1,())=>by kernel_rfl) rfl
abbrev vi:Type:=(List zt) × (Option ((zt × Unit)→Option (Bool × Unit))) × Int × Int
abbrev zp8:vi→St:=fun (v0,v1,v7,v8)=>St.mk [(0,.dat (.sl zw) v0),(1,.dat (.fn (.pair zw .unit) (.pair .bool .unit)) v1),(7,.dat tI v7),(8,.dat tI v8)] []
def zdt (k0:vi→Option (Int × Unit)):vi→Option (Int × Unit):=fun (v0,v1,v7,v8) =>
  bif decide (v8 < v7) then inR v8 ((List.length v0):Int) (Option.bind v1 fun q0=>Option.bind (q0 (ix zQ v0 v8,())) fun q1=>bif q1.1 then some (v8,()) else k0 (v0,v1,v7,wI (v8 + 1))) else some ((-1),())
abbrev zhN (K:Nat):vi→Option (Int × Unit):=zg zdt K
theorem zp9 (K:Nat):∀ n,evV Es0 K Tryz.f274 0 (ch [tI]) [1,0,1,0] [] zp8 n = zg zdt n:=zp fun n0 (v0,v1,v7,v8)=>by kernel_rfl
def ze1 (L0:vi→Option (Int × Unit)):((List zt) × ((Option ((zt × Unit)→Option (Bool × Unit))) × Unit))→Option (Int × Unit):=fun (x0,x1,()) =>
  L0 (x0,x1,((List.length x0):Int),0)
def zaF:((List zt) × ((Option ((zt × Unit)→Option (Bool × Unit))) × Unit))→Option (Int × Unit):=ze1 (zhN K0)
abbrev zjC:Fun:=⟨274,(ch [(.sl zw),(.fn (ch [zw]) (ch [.bool]))]),(ch [tI]),0,zaF⟩
theorem zsh:Sq zjC:=ml0 (d:=false) (S:=fun K=>ze1 (zhN K)) Tryz.func274 (by kernel_rfl) (fun K=>tr1 (T:=ze1) (zp9 K K) fun (x0,x1,())=>by kernel_rfl) rfl
def zgV:(Int × Unit)→Option (Bool × Unit):=fun (x0,()) =>
  bif decide (x0 ≥ 0) then bif decide (x0 ≤ 127) then some (true,()) else some (false,()) else some (false,())
abbrev zzI:Fun:=⟨275,(ch [tI]),(ch [.bool]),0,zgV⟩
theorem zKu:Sq zzI:=ms0 (d:=false) (K:=0) Tryz.func275 (by kernel_rfl) (funext fun (x0,())=>by kernel_rfl)
def qU:(Int × Unit)→Option (Bool × Unit):=fun (x0,()) =>
  bif decide (x0 ≥ 0) then bif decide (x0 < 4) then some (true,()) else some (false,()) else some (false,())
abbrev zuN:Fun:=⟨79,(ch [tI]),(ch [.bool]),0,qU⟩
theorem zGe:Sq zuN:=ms0 (d:=false) (K:=0) Tryz.func79 (by kernel_rfl) (funext fun (x0,())=>by kernel_rfl)
def zgr:(zjn × Unit)→Option (Bool × Unit):=fun (x0,()) =>
  bif eqI zdJ x0 (x0.1,(ze zdJ).2.1,-1,(ze zdJ).2.2.2) then some (true,()) else some (false,())
abbrev zuO:Fun:=⟨277,(ch [zdJ]),(ch [.bool]),0,zgr⟩
theorem zGf:Sq zuO:=ms0 (d:=false) (K:=0) Tryz.func277 (by kernel_rfl) (funext fun (x0,())=>by kernel_rfl)
def zaQ:(Int × Unit)→Option (Bool × Unit):=fun (x0,()) =>
  bif decide (x0 < 0) then some (true,()) else bif decide (x0 > 2) then some (true,()) else some (false,())
abbrev zqU:Fun:=⟨209,(ch [tI]),(ch [.bool]),0,zaQ⟩
theorem zBD:Sq zqU:=ms0 (d:=false) (K:=0) Tryz.func209 (by kernel_rfl) (funext fun (x0,())=>by kernel_rfl)
def zdK:(Int × (Int × Unit))→Option (Int × (Int × Unit)):=fun (x0,x1,()) =>
  some (wU (wU (wU (Int.fdiv x0 (2 ^ min (Int.toNat 32) (IntKind.bits IntKind.u64)) * Int.fdiv x1 (2 ^ min (Int.toNat 32) (IntKind.bits IntKind.u64))) + Int.fdiv (wU (wU (Int.fdiv x0 (2 ^ min (Int.toNat 32) (IntKind.bits IntKind.u64)) * wU (↑(BitVec.toNat (BitVec.ofInt (IntKind.bits IntKind.u64) x1 &&& BitVec.ofInt (IntKind.bits IntKind.u64) 4294967295)):Int)) + Int.fdiv (wU (wU (↑(BitVec.toNat (BitVec.ofInt (IntKind.bits IntKind.u64) x0 &&& BitVec.ofInt (IntKind.bits IntKind.u64) 4294967295)):Int) * wU (↑(BitVec.toNat (BitVec.ofInt (IntKind.bits IntKind.u64) x1 &&& BitVec.ofInt (IntKind.bits IntKind.u64) 4294967295)):Int))) (2 ^ min (Int.toNat 32) (IntKind.bits IntKind.u64)))) (2 ^ min (Int.toNat 32) (IntKind.bits IntKind.u64))) + Int.fdiv (wU (wU (↑(BitVec.toNat (BitVec.ofInt (IntKind.bits IntKind.u64) (wU (wU (Int.fdiv x0 (2 ^ min (Int.toNat 32) (IntKind.bits IntKind.u64)) * wU (↑(BitVec.toNat (BitVec.ofInt (IntKind.bits IntKind.u64) x1 &&& BitVec.ofInt (IntKind.bits IntKind.u64) 4294967295)):Int)) + Int.fdiv (wU (wU (↑(BitVec.toNat (BitVec.ofInt (IntKind.bits IntKind.u64) x0 &&& BitVec.ofInt (IntKind.bits IntKind.u64) 4294967295)):Int) * wU (↑(BitVec.toNat (BitVec.ofInt (IntKind.bits IntKind.u64) x1 &&& BitVec.ofInt (IntKind.bits IntKind.u64) 4294967295)):Int))) (2 ^ min (Int.toNat 32) (IntKind.bits IntKind.u64)))) &&& BitVec.ofInt (IntKind.bits IntKind.u64) 4294967295)):Int) + wU (wU (↑(BitVec.toNat (BitVec.ofInt (IntKind.bits IntKind.u64) x0 &&& BitVec.ofInt (IntKind.bits IntKind.u64) 4294967295)):Int) * Int.fdiv x1 (2 ^ min (Int.toNat 32) (IntKind.bits IntKind.u64))))) (2 ^ min (Int.toNat 32) (IntKind.bits IntKind.u64))),wU (x0 * x1),())
abbrev zmF:Fun:=⟨316,(ch [tU,tU]),(ch [tU,tU]),0,zdK⟩
theorem zwi:Sq zmF:=ms0 (d:=false) (K:=0) Tryz.func316 (by kernel_rfl) (funext fun (x0,x1,())=>by kernel_rfl)
def zlO:(Int × Unit)→Option (Bool × Unit):=fun (x0,()) =>
  bif decide (x0 ≥ 0) then bif decide (x0 ≤ 127) then some (true,()) else some (false,()) else some (false,())
abbrev zDb:Fun:=⟨279,(ch [tI]),(ch [.bool]),0,zlO⟩
theorem zLW:Sq zDb:=ms0 (d:=false) (K:=0) Tryz.func279 (by kernel_rfl) (funext fun (x0,())=>by kernel_rfl)
def ze2:(Int × Unit)→Option (Bool × Unit):=fun (x0,()) =>
  bif decide (x0 ≥ 0) then bif decide (x0 ≤ 127) then some (true,()) else some (false,()) else some (false,())
abbrev zzJ:Fun:=⟨280,(ch [tI]),(ch [.bool]),0,ze2⟩
theorem zKv:Sq zzJ:=ms0 (d:=false) (K:=0) Tryz.func280 (by kernel_rfl) (funext fun (x0,())=>by kernel_rfl)
def zfl:(zb × (z7 × Unit))→Option (Bool × Unit):=fun (x0,x1,()) =>
  bif decide (x1.1 ≥ 0) then bif decide (x1.1 < ((List.length x0.2.1):Int)) then bif decide (x1.2.1 ≥ 0) then inR x1.1 ((List.length x0.2.1):Int) (bif decide (x1.2.1 < ((List.length (ix za x0.2.1 x1.1).1):Int)) then inR x1.1 ((List.length x0.2.1):Int) (inR x1.2.1 ((List.length (ix za x0.2.1 x1.1).1):Int) (bif (List.getD (ix za x0.2.1 x1.1).1 (Int.toNat x1.2.1) (ze qk)).1 then some (true,()) else some (false,()))) else some (false,())) else some (false,()) else some (false,()) else some (false,())
abbrev zsG:Fun:=⟨78,(ch [zn,zM]),(ch [.bool]),0,zfl⟩
theorem zDv:Sq zsG:=ms0 (d:=false) (K:=0) Tryz.func78 (by kernel_rfl) (funext fun (x0,x1,())=>by kernel_rfl)
def zbP:(qT × (Int × Unit))→Option (Bool × Unit):=fun (x0,x1,()) =>
  bif decide (x1 ≥ 0) then bif decide (x1 < ((List.length x0.1.1):Int)) then some (true,()) else some (false,()) else some (false,())
abbrev zsH:Fun:=⟨122,(ch [qo,tI]),(ch [.bool]),0,zbP⟩
theorem zDw:Sq zsH:=ms0 (d:=false) (K:=0) Tryz.func122 (by kernel_rfl) (funext fun (x0,x1,())=>by kernel_rfl)
def qV:(qT × (Int × Unit))→Option (Bool × Unit):=fun (x0,x1,()) =>
  bif decide (x1 ≥ 0) then bif decide (x1 < ((List.length x0.1.2.2.1):Int)) then some (true,()) else some (false,()) else some (false,())
abbrev zo4:Fun:=⟨123,(ch [qo,tI]),(ch [.bool]),0,qV⟩
theorem zzK:Sq zo4:=ms0 (d:=false) (K:=0) Tryz.func123 (by kernel_rfl) (funext fun (x0,x1,())=>by kernel_rfl)
def zbG:(zo × ((Option (Option ((zo × Unit)→Option (Bool × Unit)))) × Unit))→Option (Bool × Unit):=fun (x0,x1,()) =>
  Option.bind x1 fun q0=>Option.bind q0 fun q1=>Option.bind (q1 (x0,())) fun q2=>bif q2.1 then some (false,()) else some (true,())
abbrev zkF:Fun:=⟨214,(ch [zr,(.ptr (.fn (ch [zr]) (ch [.bool])))]),(ch [.bool]),0,zbG⟩
theorem ztU:Sq zkF:=ms0 (d:=false) (K:=0) Tryz.func214 (by kernel_rfl) (funext fun (x0,x1,())=>by kernel_rfl)
abbrev vj:Type:=(List zo) × (Option ((zo × Unit)→Option (Bool × Unit))) × Int × Int
abbrev zqa:vj→St:=fun (v0,v1,v7,v8)=>St.mk [(0,.dat (.sl zr) v0),(1,.dat (.fn (.pair zr .unit) (.pair .bool .unit)) v1),(7,.dat tI v7),(8,.dat tI v8)] []
def zdu (k0:vj→Option (Int × Unit)):vj→Option (Int × Unit):=fun (v0,v1,v7,v8) =>
  bif decide (v8 < v7) then inR v8 ((List.length v0):Int) (Option.bind v1 fun q0=>Option.bind (q0 (ix zH v0 v8,())) fun q1=>bif q1.1 then some (v8,()) else k0 (v0,v1,v7,wI (v8 + 1))) else some ((-1),())
abbrev zhO (K:Nat):vj→Option (Int × Unit):=zg zdu K
theorem zqb (K:Nat):∀ n,evV Es0 K Tryz.f281 0 (ch [tI]) [1,0,1,0] [] zqa n = zg zdu n:=zp fun n0 (v0,v1,v7,v8)=>by kernel_rfl
def ze3 (L0:vj→Option (Int × Unit)):((List zo) × ((Option ((zo × Unit)→Option (Bool × Unit))) × Unit))→Option (Int × Unit):=fun (x0,x1,()) =>
  L0 (x0,x1,((List.length x0):Int),0)
def zaG:((List zo) × ((Option ((zo × Unit)→Option (Bool × Unit))) × Unit))→Option (Int × Unit):=ze3 (zhO K0)
abbrev zjD:Fun:=⟨281,(ch [(.sl zr),(.fn (ch [zr]) (ch [.bool]))]),(ch [tI]),0,zaG⟩
theorem zsi:Sq zjD:=ml0 (d:=false) (S:=fun K=>ze3 (zhO K)) Tryz.func281 (by kernel_rfl) (fun K=>tr1 (T:=ze3) (zqb K K) fun (x0,x1,())=>by kernel_rfl) rfl
def zbH:(zF × ((Option (Option ((zF × Unit)→Option (Bool × Unit)))) × Unit))→Option (Bool × Unit):=fun (x0,x1,()) =>
  Option.bind x1 fun q0=>Option.bind q0 fun q1=>Option.bind (q1 (x0,())) fun q2=>bif q2.1 then some (false,()) else some (true,())
abbrev zkG:Fun:=⟨216,(ch [zv,(.ptr (.fn (ch [zv]) (ch [.bool])))]),(ch [.bool]),0,zbH⟩
theorem ztV:Sq zkG:=ms0 (d:=false) (K:=0) Tryz.func216 (by kernel_rfl) (funext fun (x0,x1,())=>by kernel_rfl)
abbrev vk:Type:=(List zF) × (Option ((zF × Unit)→Option (Bool × Unit))) × Int × Int
abbrev zqc:vk→St:=fun (v0,v1,v7,v8)=>St.mk [(0,.dat (.sl zv) v0),(1,.dat (.fn (.pair zv .unit) (.pair .bool .unit)) v1),(7,.dat tI v7),(8,.dat tI v8)] []
def zdv (k0:vk→Option (Int × Unit)):vk→Option (Int × Unit):=fun (v0,v1,v7,v8) =>
  bif decide (v8 < v7) then inR v8 ((List.length v0):Int) (Option.bind v1 fun q0=>Option.bind (q0 (ix vP v0 v8,())) fun q1=>bif q1.1 then some (v8,()) else k0 (v0,v1,v7,wI (v8 + 1))) else some ((-1),())
abbrev zhP (K:Nat):vk→Option (Int × Unit):=zg zdv K
theorem zqd (K:Nat):∀ n,evV Es0 K Tryz.f282 0 (ch [tI]) [1,0,1,0] [] zqc n = zg zdv n:=zp fun n0 (v0,v1,v7,v8)=>by kernel_rfl
def ze4 (L0:vk→Option (Int × Unit)):((List zF) × ((Option ((zF × Unit)→Option (Bool × Unit))) × Unit))→Option (Int × Unit):=fun (x0,x1,()) =>
  L0 (x0,x1,((List.length x0):Int),0)
def zaH:((List zF) × ((Option ((zF × Unit)→Option (Bool × Unit))) × Unit))→Option (Int × Unit):=ze4 (zhP K0)
abbrev zjE:Fun:=⟨282,(ch [(.sl zv),(.fn (ch [zv]) (ch [.bool]))]),(ch [tI]),0,zaH⟩
theorem zsj:Sq zjE:=ml0 (d:=false) (S:=fun K=>ze4 (zhP K)) Tryz.func282 (by kernel_rfl) (fun K=>tr1 (T:=ze4) (zqd K K) fun (x0,x1,())=>by kernel_rfl) rfl
def zdL:(Int × ((Option (Option ((Int × Unit)→Option (Bool × Unit)))) × Unit))→Option (Bool × Unit):=fun (x0,x1,()) =>
  Option.bind x1 fun q0=>Option.bind q0 fun q1=>Option.bind (q1 (x0,())) fun q2=>bif q2.1 then some (false,()) else some (true,())
abbrev zmG:Fun:=⟨217,(ch [tI,(.ptr (.fn (ch [tI]) (ch [.bool])))]),(ch [.bool]),0,zdL⟩
theorem zwj:Sq zmG:=ms0 (d:=false) (K:=0) Tryz.func217 (by kernel_rfl) (funext fun (x0,x1,())=>by kernel_rfl)
def zhQ:(zy × (zy × Unit))→Option (Bool × Unit):=fun (x0,x1,()) =>
  bif decide (x0.1 ≤ x1.1) then bif wU (↑(BitVec.toNat (BitVec.ofInt (IntKind.bits IntKind.u64) x0.2.1 &&& ~~~BitVec.ofInt (IntKind.bits IntKind.u64) x1.2.1)):Int) == 0 then some (true,()) else some (false,()) else some (false,())
abbrev zwL:Fun:=⟨159,(ch [zq,zq]),(ch [.bool]),0,zhQ⟩
theorem zIe:Sq zwL:=ms0 (d:=false) (K:=0) Tryz.func159 (by kernel_rfl) (funext fun (x0,x1,())=>by kernel_rfl)
def zfZ:(z9 × ((Option (Option ((z7 × Unit)→Option (Bool × Unit)))) × Unit))→Option (Bool × Unit):=fun (x0,x1,()) =>
  bif x0.1 then Option.bind x1 fun q0=>Option.bind q0 fun q1=>Option.bind (q1 (x0.2.1,())) fun q2=>bif q2.1 then Option.bind x1 fun q3=>Option.bind q3 fun q4=>Option.bind (q4 (x0.2.2.1,())) fun q5=>bif q5.1 then some (true,()) else some (false,()) else some (false,()) else some (true,())
abbrev zo5:Fun:=⟨130,(ch [zT,(.ptr (.fn (ch [zM]) (ch [.bool])))]),(ch [.bool]),0,zfZ⟩
theorem zzL:Sq zo5:=ms0 (d:=false) (K:=0) Tryz.func130 (by kernel_rfl) (funext fun (x0,x1,())=>by kernel_rfl)
end
end Go.Proofs.YtlklokhlgcfcdaaGreatDoor
end
section
namespace Go.Proofs.YtlklokhlgcfcdaaGreatDoor
open Go.Ev
noncomputable section
def zb6:(z9 × ((Option (Option ((z9 × Unit)→Option (Bool × Unit)))) × Unit))→Option (Bool × Unit):=fun (x0,x1,()) =>
  Option.bind x1 fun q0=>Option.bind q0 fun q1=>Option.bind (q1 (x0,())) fun q2=>bif q2.1 then some (false,()) else some (true,())
abbrev zlP:Fun:=⟨220,(ch [zT,(.ptr (.fn (ch [zT]) (ch [.bool])))]),(ch [.bool]),0,zb6⟩
theorem zuP:Sq zlP:=ms0 (d:=false) (K:=0) Tryz.func220 (by kernel_rfl) (funext fun (x0,x1,())=>by kernel_rfl)
def zb7:(qa × ((Option (Option ((z7 × Unit)→Option (Bool × Unit)))) × Unit))→Option (Bool × Unit):=fun (x0,x1,()) =>
  bif x0.2.2.1 != 2 then some (true,()) else Option.bind x1 fun q0=>Option.bind q0 fun q1=>Option.bind (q1 (x0.2.2.2.2.1,())) fun q2=>bif q2.1 then some (true,()) else some (false,())
abbrev zo6:Fun:=⟨132,(ch [zG,(.ptr (.fn (ch [zM]) (ch [.bool])))]),(ch [.bool]),0,zb7⟩
theorem zzM:Sq zo6:=ms0 (d:=false) (K:=0) Tryz.func132 (by kernel_rfl) (funext fun (x0,x1,())=>by kernel_rfl)
def zb8:(qa × ((Option (Option ((qa × Unit)→Option (Bool × Unit)))) × Unit))→Option (Bool × Unit):=fun (x0,x1,()) =>
  Option.bind x1 fun q0=>Option.bind q0 fun q1=>Option.bind (q1 (x0,())) fun q2=>bif q2.1 then some (false,()) else some (true,())
abbrev zlQ:Fun:=⟨221,(ch [zG,(.ptr (.fn (ch [zG]) (ch [.bool])))]),(ch [.bool]),0,zb8⟩
theorem zuQ:Sq zlQ:=ms0 (d:=false) (K:=0) Tryz.func221 (by kernel_rfl) (funext fun (x0,x1,())=>by kernel_rfl)
def zdM:(z7 × ((Option (Option ((z7 × Unit)→Option (Bool × Unit)))) × Unit))→Option (Bool × Unit):=fun (x0,x1,()) =>
  Option.bind x1 fun q0=>Option.bind q0 fun q1=>Option.bind (q1 (x0,())) fun q2=>bif q2.1 then some (false,()) else some (true,())
abbrev zmH:Fun:=⟨223,(ch [zM,(.ptr (.fn (ch [zM]) (ch [.bool])))]),(ch [.bool]),0,zdM⟩
theorem zwk:Sq zmH:=ms0 (d:=false) (K:=0) Tryz.func223 (by kernel_rfl) (funext fun (x0,x1,())=>by kernel_rfl)
abbrev vS:Type:=(List z7) × (Option ((z7 × Unit)→Option (Bool × Unit))) × Int × Int
abbrev zsk:vS→St:=fun (v0,v1,v7,v8)=>St.mk [(0,.dat (.sl yo) v0),(1,.dat (.fn (.pair yo .unit) (.pair .bool .unit)) v1),(7,.dat tI v7),(8,.dat tI v8)] []
def ze5 (k0:vS→Option (Int × Unit)):vS→Option (Int × Unit):=fun (v0,v1,v7,v8) =>
  bif decide (v8 < v7) then inR v8 ((List.length v0):Int) (Option.bind v1 fun q0=>Option.bind (q0 (ix qF v0 v8,())) fun q1=>bif q1.1 then some (v8,()) else k0 (v0,v1,v7,wI (v8 + 1))) else some ((-1),())
abbrev zjF (K:Nat):vS→Option (Int × Unit):=zg ze5 K
theorem zsl (K:Nat):∀ n,evV Es0 K Tryz.f283 0 (ch [tI]) [1,0,1,0] [] zsk n = zg ze5 n:=zp fun n0 (v0,v1,v7,v8)=>by kernel_rfl
def zgs (L0:vS→Option (Int × Unit)):((List z7) × ((Option ((z7 × Unit)→Option (Bool × Unit))) × Unit))→Option (Int × Unit):=fun (x0,x1,()) =>
  L0 (x0,x1,((List.length x0):Int),0)
def zb9:((List vJ) × ((Option ((vJ × Unit)→Option (Bool × Unit))) × Unit))→Option (Int × Unit):=zgs (zjF K0)
abbrev zlR:Fun:=⟨283,(ch [(.sl zM),(.fn (ch [zM]) (ch [.bool]))]),(ch [tI]),0,zb9⟩
theorem zuR:Sq zlR:=ml0 (d:=false) (S:=fun K=>zgs (zjF K)) Tryz.func283 (by kernel_rfl) (fun K=>tr1 (T:=zgs) (zsl K K) fun (x0,x1,())=>by kernel_rfl) rfl
def zca:(qq × ((Option (Option ((qq × Unit)→Option (Bool × Unit)))) × Unit))→Option (Bool × Unit):=fun (x0,x1,()) =>
  Option.bind x1 fun q0=>Option.bind q0 fun q1=>Option.bind (q1 (x0,())) fun q2=>bif q2.1 then some (false,()) else some (true,())
abbrev zlS:Fun:=⟨224,(ch [zX,(.ptr (.fn (ch [zX]) (ch [.bool])))]),(ch [.bool]),0,zca⟩
theorem zuS:Sq zlS:=ms0 (d:=false) (K:=0) Tryz.func224 (by kernel_rfl) (funext fun (x0,x1,())=>by kernel_rfl)
def zbI:(zt × ((Option (Option ((zt × Unit)→Option (Bool × Unit)))) × Unit))→Option (Bool × Unit):=fun (x0,x1,()) =>
  Option.bind x1 fun q0=>Option.bind q0 fun q1=>Option.bind (q1 (x0,())) fun q2=>bif q2.1 then some (false,()) else some (true,())
abbrev zkH:Fun:=⟨225,(ch [zw,(.ptr (.fn (ch [zw]) (ch [.bool])))]),(ch [.bool]),0,zbI⟩
theorem ztW:Sq zkH:=ms0 (d:=false) (K:=0) Tryz.func225 (by kernel_rfl) (funext fun (x0,x1,())=>by kernel_rfl)
def vT:(zt × Unit)→Option (Bool × Unit):=fun (x0,()) =>
  bif x0.1 then some (true,()) else some (false,())
abbrev zo7:Fun:=⟨141,(ch [zw]),(ch [.bool]),0,vT⟩
theorem zzN:Sq zo7:=ms0 (d:=false) (K:=0) Tryz.func141 (by kernel_rfl) (funext fun (x0,())=>by kernel_rfl)
def ze6:((Option zb4) × Unit)→Option (Bool × Unit):=fun (x0,()) =>
  bif Option.isSome x0 then Option.bind x0 fun q0=>bif Option.isSome q0.2.1 then some (true,()) else some (false,()) else some (false,())
abbrev znD:Fun:=⟨226,(ch [(.ptr vQ)]),(ch [.bool]),0,ze6⟩
theorem zxV:Sq znD:=ms0 (d:=false) (K:=0) Tryz.func226 (by kernel_rfl) (funext fun (x0,())=>by kernel_rfl)
def zjG:(zo × Unit)→Option (Bool × Unit):=fun (x0,()) =>
  bif x0.1 then some (true,()) else some (false,())
abbrev zuT:Fun:=⟨285,(ch [zr]),(ch [.bool]),0,zjG⟩
theorem zGg:Sq zuT:=ms0 (d:=false) (K:=0) Tryz.func285 (by kernel_rfl) (funext fun (x0,())=>by kernel_rfl)
def ze7:((Option zeW) × Unit)→Option (Bool × Unit):=fun (x0,()) =>
  bif Option.isSome x0 then Option.bind x0 fun q0=>bif Option.isSome q0.2.1 then some (true,()) else some (false,()) else some (false,())
abbrev znE:Fun:=⟨286,(ch [(.ptr yT)]),(ch [.bool]),0,ze7⟩
theorem zxW:Sq znE:=ms0 (d:=false) (K:=0) Tryz.func286 (by kernel_rfl) (funext fun (x0,())=>by kernel_rfl)
def zic:(zo × Unit)→Option (Int × Unit):=fun (x0,()) =>
  bif x0.2.2.2.1 == 2 then some (x0.2.2.2.2.1,()) else some (x0.2.2.2.2.2.1,())
abbrev zsI:Fun:=⟨145,(ch [zr]),(ch [tI]),0,zic⟩
theorem zDx:Sq zsI:=ms0 (d:=false) (K:=0) Tryz.func145 (by kernel_rfl) (funext fun (x0,())=>by kernel_rfl)
def zfI:(Int × (Int × Unit))→Option (Int × (Int × Unit)):=fun (x0,x1,()) =>
  bif decide (0 ≤ x0) then bif decide (0 ≤ x1) then bif decide (x1 < 18446744073709551616) then bif extB true x0 x1 != 0 then some (0,7,()) else bif decide (extA true x0 x1 > 4611686018427387904) then some (0,7,()) else some (extA true x0 x1,0,()) else none else none else none
abbrev zwM:Fun:=⟨147,(ch [tU,tU]),(ch [tU,tI]),0,zfI⟩
theorem zIf:Sq zwM:=ms0 (d:=false) (K:=0) Tryz.func147 (by kernel_rfl) (funext fun (x0,x1,())=>by kernel_rfl)
def zid:(zt × Unit)→Option (Bool × Unit):=fun (x0,()) =>
  bif x0.1 then some (true,()) else some (false,())
abbrev zsJ:Fun:=⟨229,(ch [zw]),(ch [.bool]),0,zid⟩
theorem zDy:Sq zsJ:=ms0 (d:=false) (K:=0) Tryz.func229 (by kernel_rfl) (funext fun (x0,())=>by kernel_rfl)
def zkZ:(zl × Unit)→Option ((List Int) × Unit):=fun (x0,()) =>
  some (x0.2.2.2.2.2.2.2.1,())
abbrev zqV:Fun:=⟨84,(ch [zm]),(ch [(.arr 4 tU)]),0,zkZ⟩
theorem zBE:Sq zqV:=ms0 (d:=false) (K:=0) Tryz.func84 (by kernel_rfl) (funext fun (x0,())=>by kernel_rfl)
def zk0:(zl × Unit)→Option ((List Int) × Unit):=fun (x0,()) =>
  some (x0.2.2.2.2.2.2.2.2.1,())
abbrev zqW:Fun:=⟨85,(ch [zm]),(ch [(.arr 4 tU)]),0,zk0⟩
theorem zBF:Sq zqW:=ms0 (d:=false) (K:=0) Tryz.func85 (by kernel_rfl) (funext fun (x0,())=>by kernel_rfl)
def za7:(Int × (Int × Unit))→Option (Int × (Int × Unit)):=fun (x0,x1,()) =>
  bif decide (0 ≤ x0) then bif decide (0 ≤ x1) then bif decide (x1 < 18446744073709551616) then bif extB false x0 x1 != 0 then some (0,6,()) else some (extA false x0 x1,0,()) else none else none else none
abbrev zuU:Fun:=⟨86,(ch [tU,tU]),(ch [tU,tI]),0,za7⟩
theorem zGh:Sq zuU:=ms0 (d:=false) (K:=0) Tryz.func86 (by kernel_rfl) (funext fun (x0,x1,())=>by kernel_rfl)
def zie:(zy × Unit)→Option (Bool × Unit):=fun (x0,()) =>
  bif x0.1 == 0 then some (true,()) else bif x0.1 == 1 then some (true,()) else bif x0.1 == 2 then some (true,()) else bif x0.1 == 3 then some (true,()) else some (false,())
abbrev zsK:Fun:=⟨235,(ch [zq]),(ch [.bool]),0,zie⟩
theorem zDz:Sq zsK:=ms0 (d:=false) (K:=0) Tryz.func235 (by kernel_rfl) (funext fun (x0,())=>by kernel_rfl)
def zlq:(zy × (zy × Unit))→Option (Int × Unit):=fun (x0,x1,()) =>
  bif decide (x0.1 < x1.1) then some ((-1),()) else bif x0.1 == x1.1 then bif decide (x0.2.1 < x1.2.1) then some ((-1),()) else bif eqI zq x0 x1 then some (0,()) else some (1,()) else bif eqI zq x0 x1 then some (0,()) else some (1,())
abbrev zwN:Fun:=⟨236,(ch [zq,zq]),(ch [tI]),0,zlq⟩
theorem zIg:Sq zwN:=ms0 (d:=false) (K:=0) Tryz.func236 (by kernel_rfl) (funext fun (x0,x1,())=>by kernel_rfl)
abbrev zcb:Type:=ByteArray × Int
abbrev zzO:zcb→St:=fun (v0,v3)=>St.mk [(0,.dat .str v0),(3,.dat tI v3)] []
def zf0 (k0:zcb→Option (Bool × Unit)):zcb→Option (Bool × Unit):=fun (v0,v3) =>
  bif decide (v3 < (↑(ByteArray.size v0):Int)) then inR v3 (↑(ByteArray.size v0):Int) (bif decide ((↑(UInt8.toNat (List.getD (Array.toList (ByteArray.data v0)) (Int.toNat v3) 0)):Int) ≥ 97) then inR v3 (↑(ByteArray.size v0):Int) (bif decide ((↑(UInt8.toNat (List.getD (Array.toList (ByteArray.data v0)) (Int.toNat v3) 0)):Int) ≤ 122) then k0 (v0,wI (v3 + 1)) else bif v3 == 0 then some (false,()) else inR v3 (↑(ByteArray.size v0):Int) (bif decide ((↑(UInt8.toNat (List.getD (Array.toList (ByteArray.data v0)) (Int.toNat v3) 0)):Int) < 48) then some (false,()) else inR v3 (↑(ByteArray.size v0):Int) (bif decide ((↑(UInt8.toNat (List.getD (Array.toList (ByteArray.data v0)) (Int.toNat v3) 0)):Int) > 57) then some (false,()) else k0 (v0,wI (v3 + 1))))) else bif v3 == 0 then some (false,()) else inR v3 (↑(ByteArray.size v0):Int) (bif decide ((↑(UInt8.toNat (List.getD (Array.toList (ByteArray.data v0)) (Int.toNat v3) 0)):Int) < 48) then some (false,()) else inR v3 (↑(ByteArray.size v0):Int) (bif decide ((↑(UInt8.toNat (List.getD (Array.toList (ByteArray.data v0)) (Int.toNat v3) 0)):Int) > 57) then some (false,()) else k0 (v0,wI (v3 + 1))))) else some (true,())
abbrev zjH (K:Nat):zcb→Option (Bool × Unit):=zg zf0 K
theorem zzP (K:Nat):∀ n,evV Es0 K Tryz.f237 0 (ch [.bool]) [1,1,0,1,0] [] zzO n = zg zf0 n:=zp fun n0 (v0,v3)=>by kernel_rfl
def zif (L0:zcb→Option (Bool × Unit)):(ByteArray × Unit)→Option (Bool × Unit):=fun (x0,()) =>
  bif (↑(ByteArray.size x0):Int) == 0 then some (false,()) else bif decide ((↑(ByteArray.size x0):Int) > 12) then some (false,()) else L0 (x0,0)
def zB:(ByteArray × Unit)→Option (Bool × Unit):=zif (zjH K0)
abbrev zsL:Fun:=⟨237,(ch [.str]),(ch [.bool]),0,zB⟩
theorem zDA:Sq zsL:=ml0 (d:=false) (S:=fun K=>zif (zjH K)) Tryz.func237 (by kernel_rfl) (fun K=>tr1 (T:=zif) (zzP K K) fun (x0,())=>by kernel_rfl) rfl
def zgt:(Int × Unit)→Option (zy × Unit):=fun (x0,()) =>
  bif decide (wU x0 < 0) then none else some ((0,wU (1 * 2 ^ min (Int.toNat (wU x0)) (IntKind.bits IntKind.u64)),()),())
abbrev zuV:Fun:=⟨239,(ch [tI]),(ch [zq]),0,zgt⟩
theorem zGi:Sq zuV:=ms0 (d:=false) (K:=0) Tryz.func239 (by kernel_rfl) (funext fun (x0,())=>by kernel_rfl)
abbrev zcc:Type:=(List zy) × Int × zy
abbrev zzQ:zcc→St:=fun (v0,v5,o0)=>St.mk [(0,.dat (.sl zq) v0),(3,.bp 0 []),(5,.dat tI v5)] [.bx (.dat zq o0) false]
def zcd (k0:zcc→Option (Int × Unit)):zcc→Option (Int × Unit):=fun (v0,v5,o0) =>
  bif decide (v5 < ((List.length v0):Int)) then inR v5 ((List.length v0):Int) (bif eqI zq (ix je v0 v5) o0 then some (v5,()) else k0 (v0,wI (v5 + 1),o0)) else some ((-1),())
abbrev zo8 (K:Nat):zcc→Option (Int × Unit):=zg zcd K
theorem zzR (K:Nat):∀ n,evV Es0 K Tryz.f238 0 (ch [tI]) [1,0,1,0] [] zzQ n = zg zcd n:=zp fun n0 (v0,v5,o0)=>by kernel_rfl
def zl6 (L0:zcc→Option (Int × Unit)):((List zy) × (zy × Unit))→Option (Int × Unit):=fun (x0,x1,()) =>
  L0 (x0,0,x1)
def zig:((List zy) × zy × Unit)→Option (Int × Unit):=zl6 (zo8 K0)
abbrev zsM:Fun:=⟨238,(ch [(.sl zq),zq]),(ch [tI]),0,zig⟩
theorem zDB:Sq zsM:=ml0 (d:=false) (S:=fun K=>zl6 (zo8 K)) Tryz.func238 (by kernel_rfl) (fun K=>tr1 (T:=zl6) (zzR K K) fun (x0,x1,())=>by kernel_rfl) rfl
def zfJ:(zy × (Int × Unit))→Option (Bool × Unit):=fun (x0,x1,()) =>
  bif decide (wU x1 < 0) then none else bif Int.tmod (Int.fdiv x0.2.1 (2 ^ min (Int.toNat (wU x1)) (IntKind.bits IntKind.u64))) 2 == 1 then some (true,()) else some (false,())
abbrev zwO:Fun:=⟨160,(ch [zq,tI]),(ch [.bool]),0,zfJ⟩
theorem zIh:Sq zwO:=ms0 (d:=false) (K:=0) Tryz.func160 (by kernel_rfl) (funext fun (x0,x1,())=>by kernel_rfl)
abbrev zfm:Type:=(List z7) × Int × Int
abbrev zDC:zfm→St:=fun (v0,v1,v5)=>St.mk [(0,.dat (.sl yo) v0),(1,.dat tI v1),(5,.dat tI v5)] []
def zfn (k0:zfm→Option (Bool × Unit)):zfm→Option (Bool × Unit):=fun (v0,v1,v5) =>
  bif decide (v5 < ((List.length v0):Int)) then inR v5 ((List.length v0):Int) (bif (ix qF v0 v5).1 == v1 then some (true,()) else k0 (v0,v1,wI (v5 + 1))) else some (false,())
abbrev zsN (K:Nat):zfm→Option (Bool × Unit):=zg zfn K
theorem zDD (K:Nat):∀ n,evV Es0 K Tryz.f240 0 (ch [.bool]) [1,0,1,0] [] zDC n = zg zfn n:=zp fun n0 (v0,v1,v5)=>by kernel_rfl
def zqe (L0:zfm→Option (Bool × Unit)):((List z7) × (Int × Unit))→Option (Bool × Unit):=fun (x0,x1,()) =>
  L0 (x0,x1,0)
def zqf:((List z7) × Int × Unit)→Option (Bool × Unit):=zqe (zsN K0)
abbrev zwP:Fun:=⟨240,(ch [(.sl yo),tI]),(ch [.bool]),0,zqf⟩
theorem zIi:Sq zwP:=ml0 (d:=false) (S:=fun K=>zqe (zsN K)) Tryz.func240 (by kernel_rfl) (fun K=>tr1 (T:=zqe) (zDD K K) fun (x0,x1,())=>by kernel_rfl) rfl
def yg:(Int × Unit)→Option (Bool × Unit):=fun (x0,()) =>
  bif decide (x0 ≥ 0) then bif decide (x0 ≤ 12) then some (true,()) else some (false,()) else some (false,())
abbrev zsO:Fun:=⟨241,(ch [tI]),(ch [.bool]),0,yg⟩
theorem zDE:Sq zsO:=ms0 (d:=false) (K:=0) Tryz.func241 (by kernel_rfl) (funext fun (x0,())=>by kernel_rfl)
abbrev zce:Type:=Int × zf × zb
abbrev zzS:zce→St:=fun (v5,o0,o1)=>St.mk [(2,.bp 0 []),(3,.bp 1 []),(5,.dat tI v5)] [.bx (.dat zu o0) false,.bx (.dat zn o1) false]
def zf1 (k0:zce→Option (Bool × Unit)):zce→Option (Bool × Unit):=fun (v5,o0,o1) =>
  bif decide (v5 < ((List.length o1.2.1):Int)) then inR v5 ((List.length o1.2.1):Int) (inR v5 ((List.length o0.2.2.2.2.1):Int) (bif ((List.length (ix za o1.2.1 v5).1):Int) != (ix qe o0.2.2.2.2.1 v5).1 then some (false,()) else bif ((List.length (ix za o1.2.1 v5).2.1):Int) != (ix qe o0.2.2.2.2.1 v5).2.1 then some (false,()) else bif ((List.length (ix za o1.2.1 v5).2.2.1):Int) != (ix qe o0.2.2.2.2.1 v5).2.2.1 then some (false,()) else bif ((List.length (ix za o1.2.1 v5).2.2.2.1):Int) != (ix qe o0.2.2.2.2.1 v5).2.2.2.1 then some (false,()) else bif ((List.length (ix za o1.2.1 v5).2.2.2.2.1):Int) != (ix qe o0.2.2.2.2.1 v5).2.2.2.2.1 then some (false,()) else bif ((List.length (ix za o1.2.1 v5).2.2.2.2.2.1):Int) != ((List.length o0.2.2.1):Int) then some (false,()) else bif ((List.length (ix za o1.2.1 v5).2.2.2.2.2.2.1):Int) != ((List.length o0.2.2.1):Int) then some (false,()) else k0 (wI (v5 + 1),o0,o1))) else some (true,())
abbrev zjI (K:Nat):zce→Option (Bool × Unit):=zg zf1 K
theorem zzT (K:Nat):∀ n,evV Es0 K Tryz.f98 0 (ch [.bool]) [1,1,0,1,0] [] zzS n = zg zf1 n:=zp fun n0 (v5,o0,o1)=>by kernel_rfl
def zih (L0:zce→Option (Bool × Unit)):(zf × (zb × Unit))→Option (Bool × Unit):=fun (x0,x1,()) =>
  bif ((List.length x1.2.1):Int) != ((List.length x0.1):Int) then some (false,()) else bif ((List.length x1.2.2.2.1):Int) != x0.2.2.2.2.2.1 then some (false,()) else bif decide (((List.length x1.2.2.2.2.1):Int) > x0.2.2.2.2.2.2.1) then some (false,()) else bif ((List.length x1.2.2.2.2.2.1):Int) != ((List.length x0.2.1):Int) then some (false,()) else bif decide (x1.1 > 4611686018427387904) then some (false,()) else L0 (0,x0,x1)
def zii:(zf × zb × Unit)→Option (Bool × Unit):=zih (zjI K0)
abbrev zsP:Fun:=⟨98,(ch [zu,zn]),(ch [.bool]),0,zii⟩
theorem zDF:Sq zsP:=ml0 (d:=false) (S:=fun K=>zih (zjI K)) Tryz.func98 (by kernel_rfl) (fun K=>tr1 (T:=zih) (zzT K K) fun (x0,x1,())=>by kernel_rfl) rfl
def zij:(Int × (Int × Unit))→Option (Int × (Int × Unit)):=fun (x0,x1,()) =>
  bif x0 != 0 then bif x0 == 0 then none else bif decide (x1 > wU (Int.tdiv 4611686018427387904 x0)) then some (0,7,()) else some (wU (x0 * x1),0,()) else some (wU (x0 * x1),0,())
abbrev zsQ:Fun:=⟨307,(ch [tU,tU]),(ch [tU,tI]),0,zij⟩
theorem zDG:Sq zsQ:=ms0 (d:=false) (K:=0) Tryz.func307 (by kernel_rfl) (funext fun (x0,x1,())=>by kernel_rfl)
def zhR:(Int × Unit)→Option (Bool × Unit):=fun (x0,()) =>
  bif decide (x0 ≥ 0) then bif decide (x0 < 128) then some (true,()) else some (false,()) else some (false,())
abbrev zwQ:Fun:=⟨291,(ch [tI]),(ch [.bool]),0,zhR⟩
theorem zIj:Sq zwQ:=ms0 (d:=false) (K:=0) Tryz.func291 (by kernel_rfl) (funext fun (x0,())=>by kernel_rfl)
abbrev zfo:Type:=(List zo) × Int × Int × Int
abbrev zDH:zfo→St:=fun (v0,v1,v2,v7)=>St.mk [(0,.dat (.sl zr) v0),(1,.dat tI v1),(2,.dat tI v2),(7,.dat tI v7)] []
def zfp (k0:zfo→Option (Bool × Unit)):zfo→Option (Bool × Unit):=fun (v0,v1,v2,v7) =>
  bif decide (v7 < v1) then inR v7 ((List.length v0):Int) (bif (ix zH v0 v7).1 then inR v7 ((List.length v0):Int) (bif (ix zH v0 v7).2.2.2.2.2.2.2.2.2.1 == v2 then some (true,()) else k0 (v0,v1,v2,wI (v7 + 1))) else k0 (v0,v1,v2,wI (v7 + 1))) else some (false,())
abbrev zsR (K:Nat):zfo→Option (Bool × Unit):=zg zfp K
theorem zDI (K:Nat):∀ n,evV Es0 K Tryz.f243 0 (ch [.bool]) [1,0,1,0] [] zDH n = zg zfp n:=zp fun n0 (v0,v1,v2,v7)=>by kernel_rfl
def zqg (L0:zfo→Option (Bool × Unit)):((List zo) × (Int × (Int × Unit)))→Option (Bool × Unit):=fun (x0,x1,x2,()) =>
  L0 (x0,x1,x2,0)
def zlr:((List zo) × Int × Int × Unit)→Option (Bool × Unit):=zqg (zsR K0)
abbrev zwR:Fun:=⟨243,(ch [(.sl zr),tI,tI]),(ch [.bool]),0,zlr⟩
theorem zIk:Sq zwR:=ml0 (d:=false) (S:=fun K=>zqg (zsR K)) Tryz.func243 (by kernel_rfl) (fun K=>tr1 (T:=zqg) (zDI K K) fun (x0,x1,x2,())=>by kernel_rfl) rfl
def zdw:(Int × Unit)→Option (Bool × Unit):=fun (x0,()) =>
  bif decide (x0 ≥ 0) then bif decide (x0 < 128) then some (true,()) else some (false,()) else some (false,())
abbrev zwS:Fun:=⟨292,(ch [tI]),(ch [.bool]),0,zdw⟩
theorem zIl:Sq zwS:=ms0 (d:=false) (K:=0) Tryz.func292 (by kernel_rfl) (funext fun (x0,())=>by kernel_rfl)
def zgW:(zF × (zF × Unit))→Option (Bool × Unit):=fun (x0,x1,()) =>
  bif decide (x0.1 > x1.1) then some (true,()) else bif x0.1 == x1.1 then bif decide (x0.2.1 > x1.2.1) then some (true,()) else some (false,()) else some (false,())
abbrev zqX:Fun:=⟨245,(ch [zv,zv]),(ch [.bool]),0,zgW⟩
theorem zBG:Sq zqX:=ms0 (d:=false) (K:=0) Tryz.func245 (by kernel_rfl) (funext fun (x0,x1,())=>by kernel_rfl)
def zfq:(zb × (z7 × Unit))→Option (Bool × Unit):=fun (x0,x1,()) =>
  bif decide (x1.1 < 0) then some (false,()) else bif decide (x1.1 ≥ ((List.length x0.2.1):Int)) then some (false,()) else bif decide (x1.2.1 < 0) then some (false,()) else inR x1.1 ((List.length x0.2.1):Int) (bif decide (x1.2.1 ≥ ((List.length (ix za x0.2.1 x1.1).1):Int)) then some (false,()) else inR x1.1 ((List.length x0.2.1):Int) (inR x1.2.1 ((List.length (ix za x0.2.1 x1.1).1):Int) (bif (List.getD (ix za x0.2.1 x1.1).1 (Int.toNat x1.2.1) (ze qk)).1 then some (true,()) else some (false,()))))
abbrev zsS:Fun:=⟨168,(ch [zn,zM]),(ch [.bool]),0,zfq⟩
theorem zDJ:Sq zsS:=ms0 (d:=false) (K:=0) Tryz.func168 (by kernel_rfl) (funext fun (x0,x1,())=>by kernel_rfl)
def jU:(zf × (Int × Unit))→Option (Bool × Unit):=fun (x0,x1,()) =>
  bif decide (x1 ≥ 0) then bif decide (x1 < ((List.length x0.2.2.1):Int)) then some (true,()) else some (false,()) else some (false,())
abbrev zwT:Fun:=⟨103,(ch [zu,tI]),(ch [.bool]),0,jU⟩
theorem zIm:Sq zwT:=ms0 (d:=false) (K:=0) Tryz.func103 (by kernel_rfl) (funext fun (x0,x1,())=>by kernel_rfl)
def qH:(z7 × Unit)→Option (Bool × Unit):=fun (x0,()) =>
  bif decide (x0.1 ≥ 0) then bif decide (x0.1 < 128) then bif decide (x0.2.1 ≥ 0) then bif decide (x0.2.1 < 128) then some (true,()) else some (false,()) else some (false,()) else some (false,()) else some (false,())
abbrev zsT:Fun:=⟨246,(ch [zM]),(ch [.bool]),0,qH⟩
theorem zDK:Sq zsT:=ms0 (d:=false) (K:=0) Tryz.func246 (by kernel_rfl) (funext fun (x0,())=>by kernel_rfl)
def zhS:(Int × Unit)→Option (Bool × Unit):=fun (x0,()) =>
  bif decide (x0 ≥ 0) then bif decide (x0 < 128) then some (true,()) else some (false,()) else some (false,())
abbrev zwU:Fun:=⟨247,(ch [tI]),(ch [.bool]),0,zhS⟩
theorem zIn:Sq zwU:=ms0 (d:=false) (K:=0) Tryz.func247 (by kernel_rfl) (funext fun (x0,())=>by kernel_rfl)
def zfK:(Int × Unit)→Option (Bool × Unit):=fun (x0,()) =>
  bif decide (x0 ≥ 0) then bif decide (x0 < 128) then some (true,()) else some (false,()) else some (false,())
abbrev zwV:Fun:=⟨248,(ch [tI]),(ch [.bool]),0,zfK⟩
theorem zIo:Sq zwV:=ms0 (d:=false) (K:=0) Tryz.func248 (by kernel_rfl) (funext fun (x0,())=>by kernel_rfl)
def zls:(Int × Unit)→Option (Bool × Unit):=fun (x0,()) =>
  bif decide (x0 ≥ 32) then bif decide (x0 ≤ 126) then some (true,()) else some (false,()) else some (false,())
abbrev zwW:Fun:=⟨293,(ch [(.int .u8)]),(ch [.bool]),0,zls⟩
theorem zIp:Sq zwW:=ms0 (d:=false) (K:=0) Tryz.func293 (by kernel_rfl) (funext fun (x0,())=>by kernel_rfl)
def jp:(Int × Unit)→Option (Bool × Unit):=fun (x0,()) =>
  bif decide (x0 ≥ 0) then bif decide (x0 < 128) then some (true,()) else some (false,()) else some (false,())
abbrev zwX:Fun:=⟨294,(ch [tI]),(ch [.bool]),0,jp⟩
theorem zIq:Sq zwX:=ms0 (d:=false) (K:=0) Tryz.func294 (by kernel_rfl) (funext fun (x0,())=>by kernel_rfl)
def jq:(zjn × Unit)→Option (Bool × Unit):=fun (x0,()) =>
  bif decide (x0.1 ≥ 0) then bif decide (x0.1 < 4) then bif decide (x0.2.1 ≤ 4611686018427387904) then bif decide (x0.2.2.1 ≥ -1) then bif decide (x0.2.2.1 < 128) then some (true,()) else some (false,()) else some (false,()) else some (false,()) else some (false,()) else some (false,())
abbrev zwY:Fun:=⟨295,(ch [zdJ]),(ch [.bool]),0,jq⟩
theorem zIr:Sq zwY:=ms0 (d:=false) (K:=0) Tryz.func295 (by kernel_rfl) (funext fun (x0,())=>by kernel_rfl)
def zik:(zo × (Int × Unit))→Option (Int × Unit):=fun (x0,x1,()) =>
  bif x0.1 then bif x0.2.2.2.1 == 2 then bif x0.2.2.2.2.1 == x1 then some (x0.2.2.2.2.2.2.2.2.1,()) else bif x0.2.2.2.1 != 2 then bif x0.2.2.2.2.2.1 == x1 then some (x0.2.2.2.2.2.2.2.2.1,()) else some (0,()) else some (0,()) else bif x0.2.2.2.1 != 2 then bif x0.2.2.2.2.2.1 == x1 then some (x0.2.2.2.2.2.2.2.2.1,()) else some (0,()) else some (0,()) else some (0,())
abbrev zsU:Fun:=⟨251,(ch [zr,tI]),(ch [tU]),0,zik⟩
theorem zDL:Sq zsU:=ms0 (d:=false) (K:=0) Tryz.func251 (by kernel_rfl) (funext fun (x0,x1,())=>by kernel_rfl)
def vl:(Int × (Int × Unit))→Option (Int × (Int × Unit)):=fun (x0,x1,()) =>
  bif decide (x0 > 4611686018427387904) then some (0,7,()) else bif decide (x1 > wU (4611686018427387904 - x0)) then some (0,7,()) else some (wU (x0 + x1),0,())
abbrev zuW:Fun:=⟨47,(ch [tU,tU]),(ch [tU,tI]),0,vl⟩
theorem zGj:Sq zuW:=ms0 (d:=false) (K:=0) Tryz.func47 (by kernel_rfl) (funext fun (x0,x1,())=>by kernel_rfl)
def zfr:(Int × (Int × Unit))→Option (Int × (Int × Unit)):=fun (x0,x1,()) =>
  bif decide (x1 > x0) then some (0,6,()) else some (wU (x0 - x1),0,())
abbrev zsV:Fun:=⟨179,(ch [tU,tU]),(ch [tU,tI]),0,zfr⟩
theorem zDM:Sq zsV:=ms0 (d:=false) (K:=0) Tryz.func179 (by kernel_rfl) (funext fun (x0,x1,())=>by kernel_rfl)
def za8:(zb × (Int × (zl × Unit)))→Option (zb × Unit):=fun (x0,x1,x2,()) =>
  bif decide ((0:Nat) + List.length x0.2.1 ≤ lim) then inR x1 ((List.length ([] ++ x0.2.1)):Int) (some ((u1 x0 (List.set ([] ++ x0.2.1) (Int.toNat x1) x2)),())) else none
abbrev zuX:Fun:=⟨49,(ch [zn,tI,zm]),(ch [zn]),0,za8⟩
theorem zGk:Sq zuX:=ms0 (d:=false) (K:=0) Tryz.func49 (by kernel_rfl) (funext fun (x0,x1,x2,())=>by kernel_rfl)
def zsW:Unit→Option (zf × Unit):=fun () =>
  some (([(0,0,()),(0,1,()),(1,1,())],[0,1,2],[(ByteArray.mk #[97,110,110],ByteArray.mk #[97],1,true,()),(ByteArray.mk #[98,111,98],ByteArray.mk #[98],0,false,())],[(0,0,())],[(2,2,2,2,2,1000,()),(2,2,2,2,2,1000,()),(2,2,2,2,2,1000,())],4,6,2,3,()),())
abbrev zsX:Fun:=⟨36,.unit,(ch [zu]),0,zsW⟩
theorem zDN:Sq zsX:=ms0 (d:=false) (K:=0) Tryz.func36 (by kernel_rfl) (funext fun ()=>by kernel_rfl)
def zsY:(zf × (zaw × Unit))→Option (zl × Unit):=fun (x0,x1,()) =>
  bif decide (0 ≤ x1.1) then bif decide (x1.1 ≤ x1.1) then bif decide (x1.1 ≤ (↑lim:Int)) then bif decide (0 ≤ x1.2.1) then bif decide (x1.2.1 ≤ x1.2.1) then bif decide (x1.2.1 ≤ (↑lim:Int)) then bif decide (0 ≤ x1.2.2.1) then bif decide (x1.2.2.1 ≤ x1.2.2.1) then bif decide (x1.2.2.1 ≤ (↑lim:Int)) then bif decide (0 ≤ x1.2.2.2.1) then bif decide (x1.2.2.2.1 ≤ x1.2.2.2.1) then bif decide (x1.2.2.2.1 ≤ (↑lim:Int)) then bif decide (0 ≤ x1.2.2.2.2.1) then bif decide (x1.2.2.2.2.1 ≤ x1.2.2.2.2.1) then bif decide (x1.2.2.2.2.1 ≤ (↑lim:Int)) then bif decide (((List.length x0.2.2.1):Int) ≤ ((List.length x0.2.2.1):Int)) then bif decide (((List.length x0.2.2.1):Int) ≤ (↑lim:Int)) then bif decide (((List.length x0.2.2.1):Int) ≤ ((List.length x0.2.2.1):Int)) then bif decide (((List.length x0.2.2.1):Int) ≤ (↑lim:Int)) then some ((List.replicate (Int.toNat x1.1) (ze qk),List.replicate (Int.toNat x1.2.1) (ze zT),List.replicate (Int.toNat x1.2.2.1) (ze zG),List.replicate (Int.toNat x1.2.2.2.1) (ze zX),List.replicate (Int.toNat x1.2.2.2.2.1) (ze zw),List.replicate (Int.toNat ((List.length x0.2.2.1):Int)) (ze (.arr 4 tU)),List.replicate (Int.toNat ((List.length x0.2.2.1):Int)) (ze zM),[0,0,0,0],[0,0,0,0],()),()) else none else none else none else none else none else none else none else none else none else none else none else none else none else none else none else none else none else none else none
abbrev zsZ:Fun:=⟨70,(ch [zu,zb3]),(ch [zm]),3,zsY⟩
theorem zDO:Sq zsZ:=ms0 (d:=true) (K:=0) Tryz.func70 (by kernel_rfl) (funext fun (x0,x1,())=>by kernel_rfl)
abbrev zd7:Type:=(List (List Int)) × (List (List Int)) × Int × Int
abbrev zqY:zd7→St:=fun (v0,v1,v5,v6)=>St.mk [(0,.dat (.sl (.sl tI)) v0),(1,.dat (.sl (.sl tI)) v1),(5,.dat tI v5),(6,.dat tI v6)] []
abbrev yJ:Type:=(List (List Int)) × (List (List Int)) × Int
abbrev zqZ:yJ→St:=fun (v0,v1,v5)=>St.mk [(0,.dat (.sl (.sl tI)) v0),(1,.dat (.sl (.sl tI)) v1),(5,.dat tI v5)] []
def zd8 (k0:yJ→Option (Bool × Unit)) (k1:zd7→Option (Bool × Unit)):zd7→Option (Bool × Unit):=fun (v0,v1,v5,v6) =>
  inR v5 ((List.length v0):Int) (bif decide (v6 < ((List.length (List.getD v0 (Int.toNat v5) ([]:List Int))):Int)) then inR v5 ((List.length v0):Int) (inR v6 ((List.length (List.getD v0 (Int.toNat v5) ([]:List Int))):Int) (inR v5 ((List.length v1):Int) (inR v6 ((List.length (List.getD v1 (Int.toNat v5) ([]:List Int))):Int) (bif List.getD (List.getD v0 (Int.toNat v5) ([]:List Int)) (Int.toNat v6) (0:Int) != List.getD (List.getD v1 (Int.toNat v5) ([]:List Int)) (Int.toNat v6) (0:Int) then some (false,()) else k1 (v0,v1,v5,wI (v6 + 1)))))) else k0 (v0,v1,wI (v5 + 1)))
abbrev zgX (K:Nat) (k0:yJ→Option (Bool × Unit)):zd7→Option (Bool × Unit):=zg (fun k1=>zd8 k0 k1) K
theorem zBH (K:Nat) (n0:Nat):∀ n,evV Es0 K Tryz.f26 0 (ch [.bool]) [1,1,0,1,0,0,1,0,0,1,1,0] [n0] zqY n = zg (fun k1=>zd8 (evV Es0 K Tryz.f26 0 (ch [.bool]) [1,1,0,1,0] [] zqZ n0) k1) n:=zp fun n1 (v0,v1,v5,v6)=>by kernel_rfl
def zaR (L1:zd7→Option (Bool × Unit)) (k0:yJ→Option (Bool × Unit)):yJ→Option (Bool × Unit):=fun (v0,v1,v5) =>
  bif decide (v5 < ((List.length v0):Int)) then inR v5 ((List.length v0):Int) (inR v5 ((List.length v1):Int) (bif ((List.length (List.getD v0 (Int.toNat v5) ([]:List Int))):Int) != ((List.length (List.getD v1 (Int.toNat v5) ([]:List Int))):Int) then some (false,()) else L1 (v0,v1,v5,0))) else some (true,())
abbrev zq0 (K:Nat):yJ→Option (Bool × Unit):=zg (fun k0=>zaR (zgX K k0) k0) K
theorem zBI (K:Nat):∀ n,evV Es0 K Tryz.f26 0 (ch [.bool]) [1,1,0,1,0] [] zqZ n = zg (fun k0=>zaR (zgX K k0) k0) n:=qB (B:=fun L1 k0=>zaR L1 k0) (V1:=fun n0=>evV Es0 K Tryz.f26 0 (ch [.bool]) [1,1,0,1,0,0,1,0,0,1,1,0] [n0] zqY K) (W1:=fun k0=>(zgX K k0)) (fun n0=>zBH K n0 K) fun n0 (v0,v1,v5)=>by kernel_rfl
def znF (L0:yJ→Option (Bool × Unit)):((List (List Int)) × ((List (List Int)) × Unit))→Option (Bool × Unit):=fun (x0,x1,()) =>
  bif ((List.length x0):Int) != ((List.length x1):Int) then some (false,()) else L0 (x0,x1,0)
def znG:((List (List Int)) × (List (List Int)) × Unit)→Option (Bool × Unit):=znF (zq0 K0)
abbrev zuY:Fun:=⟨26,(ch [(.sl (.sl tI)),(.sl (.sl tI))]),(ch [.bool]),0,znG⟩
theorem zGl:Sq zuY:=ml0 (d:=false) (S:=fun K=>znF (zq0 K)) Tryz.func26 (by kernel_rfl) (fun K=>tr1 (T:=znF) (zBI K K) fun (x0,x1,())=>by kernel_rfl) rfl
abbrev zd9:Type:=(List zo) × (List zo) × Int
abbrev zBJ:zd9→St:=fun (v0,v1,v5)=>St.mk [(0,.dat (.sl zr) v0),(1,.dat (.sl zr) v1),(5,.dat tI v5)] []
def zea (k0:zd9→Option (Bool × Unit)):zd9→Option (Bool × Unit):=fun (v0,v1,v5) =>
  bif decide (v5 < ((List.length v0):Int)) then inR v5 ((List.length v0):Int) (inR v5 ((List.length v1):Int) (bif !eqI zr (ix zH v0 v5) (ix zH v1 v5) then some (false,()) else k0 (v0,v1,wI (v5 + 1)))) else some (true,())
abbrev zq1 (K:Nat):zd9→Option (Bool × Unit):=zg zea K
theorem zBK (K:Nat):∀ n,evV Es0 K Tryz.f27 0 (ch [.bool]) [1,1,0,1,0] [] zBJ n = zg zea n:=zp fun n0 (v0,v1,v5)=>by kernel_rfl
def znH (L0:zd9→Option (Bool × Unit)):((List zo) × ((List zo) × Unit))→Option (Bool × Unit):=fun (x0,x1,()) =>
  bif ((List.length x0):Int) != ((List.length x1):Int) then some (false,()) else L0 (x0,x1,0)
def znI:((List zo) × (List zo) × Unit)→Option (Bool × Unit):=znH (zq1 K0)
abbrev zuZ:Fun:=⟨27,(ch [(.sl zr),(.sl zr)]),(ch [.bool]),0,znI⟩
theorem zGm:Sq zuZ:=ml0 (d:=false) (S:=fun K=>znH (zq1 K)) Tryz.func27 (by kernel_rfl) (fun K=>tr1 (T:=znH) (zBK K K) fun (x0,x1,())=>by kernel_rfl) rfl
abbrev zeb:Type:=(List zF) × (List zF) × Int
abbrev zBL:zeb→St:=fun (v0,v1,v5)=>St.mk [(0,.dat (.sl zv) v0),(1,.dat (.sl zv) v1),(5,.dat tI v5)] []
def zec (k0:zeb→Option (Bool × Unit)):zeb→Option (Bool × Unit):=fun (v0,v1,v5) =>
  bif decide (v5 < ((List.length v0):Int)) then inR v5 ((List.length v0):Int) (inR v5 ((List.length v1):Int) (bif !eqI zv (ix vP v0 v5) (ix vP v1 v5) then some (false,()) else k0 (v0,v1,wI (v5 + 1)))) else some (true,())
abbrev zq2 (K:Nat):zeb→Option (Bool × Unit):=zg zec K
theorem zBM (K:Nat):∀ n,evV Es0 K Tryz.f28 0 (ch [.bool]) [1,1,0,1,0] [] zBL n = zg zec n:=zp fun n0 (v0,v1,v5)=>by kernel_rfl
def znJ (L0:zeb→Option (Bool × Unit)):((List zF) × ((List zF) × Unit))→Option (Bool × Unit):=fun (x0,x1,()) =>
  bif ((List.length x0):Int) != ((List.length x1):Int) then some (false,()) else L0 (x0,x1,0)
def znK:((List zF) × (List zF) × Unit)→Option (Bool × Unit):=znJ (zq2 K0)
abbrev zu0:Fun:=⟨28,(ch [(.sl zv),(.sl zv)]),(ch [.bool]),0,znK⟩
theorem zGn:Sq zu0:=ml0 (d:=false) (S:=fun K=>znJ (zq2 K)) Tryz.func28 (by kernel_rfl) (fun K=>tr1 (T:=znJ) (zBM K K) fun (x0,x1,())=>by kernel_rfl) rfl
abbrev yt:Type:=(List qS) × (List qS) × Int
abbrev ztX:yt→St:=fun (v0,v1,v5)=>St.mk [(0,.dat (.sl qk) v0),(1,.dat (.sl qk) v1),(5,.dat tI v5)] []
def yu (k0:yt→Option (Bool × Unit)):yt→Option (Bool × Unit):=fun (v0,v1,v5) =>
  bif decide (v5 < ((List.length v0):Int)) then inR v5 ((List.length v0):Int) (inR v5 ((List.length v1):Int) (bif !eqI qk (ix zgS v0 v5) (ix zgS v1 v5) then some (false,()) else k0 (v0,v1,wI (v5 + 1)))) else some (true,())
abbrev zkI (K:Nat):yt→Option (Bool × Unit):=zg yu K
theorem ztY (K:Nat):∀ n,evV Es0 K Tryz.f56 0 (ch [.bool]) [1,1,0,1,0] [] ztX n = zg yu n:=zp fun n0 (v0,v1,v5)=>by kernel_rfl
def zhv (L0:yt→Option (Bool × Unit)):((List qS) × ((List qS) × Unit))→Option (Bool × Unit):=fun (x0,x1,()) =>
  bif ((List.length x0):Int) != ((List.length x1):Int) then some (false,()) else L0 (x0,x1,0)
def zhw:((List qS) × (List qS) × Unit)→Option (Bool × Unit):=zhv (zkI K0)
abbrev zmI:Fun:=⟨56,(ch [(.sl qk),(.sl qk)]),(ch [.bool]),0,zhw⟩
theorem zwl:Sq zmI:=ml0 (d:=false) (S:=fun K=>zhv (zkI K)) Tryz.func56 (by kernel_rfl) (fun K=>tr1 (T:=zhv) (ztY K K) fun (x0,x1,())=>by kernel_rfl) rfl
abbrev yw:Type:=(List z9) × (List z9) × Int
abbrev ztZ:yw→St:=fun (v0,v1,v5)=>St.mk [(0,.dat (.sl zT) v0),(1,.dat (.sl zT) v1),(5,.dat tI v5)] []
def yx (k0:yw→Option (Bool × Unit)):yw→Option (Bool × Unit):=fun (v0,v1,v5) =>
  bif decide (v5 < ((List.length v0):Int)) then inR v5 ((List.length v0):Int) (inR v5 ((List.length v1):Int) (bif !eqI zT (ix qh v0 v5) (ix qh v1 v5) then some (false,()) else k0 (v0,v1,wI (v5 + 1)))) else some (true,())
abbrev zkJ (K:Nat):yw→Option (Bool × Unit):=zg yx K
theorem zt0 (K:Nat):∀ n,evV Es0 K Tryz.f57 0 (ch [.bool]) [1,1,0,1,0] [] ztZ n = zg yx n:=zp fun n0 (v0,v1,v5)=>by kernel_rfl
def zhx (L0:yw→Option (Bool × Unit)):((List z9) × ((List z9) × Unit))→Option (Bool × Unit):=fun (x0,x1,()) =>
  bif ((List.length x0):Int) != ((List.length x1):Int) then some (false,()) else L0 (x0,x1,0)
def zhy:((List z9) × (List z9) × Unit)→Option (Bool × Unit):=zhx (zkJ K0)
abbrev zmJ:Fun:=⟨57,(ch [(.sl zT),(.sl zT)]),(ch [.bool]),0,zhy⟩
theorem zwm:Sq zmJ:=ml0 (d:=false) (S:=fun K=>zhx (zkJ K)) Tryz.func57 (by kernel_rfl) (fun K=>tr1 (T:=zhx) (zt0 K K) fun (x0,x1,())=>by kernel_rfl) rfl
abbrev zed:Type:=(List qa) × (List qa) × Int
abbrev zBN:zed→St:=fun (v0,v1,v5)=>St.mk [(0,.dat (.sl zG) v0),(1,.dat (.sl zG) v1),(5,.dat tI v5)] []
def zee (k0:zed→Option (Bool × Unit)):zed→Option (Bool × Unit):=fun (v0,v1,v5) =>
  bif decide (v5 < ((List.length v0):Int)) then inR v5 ((List.length v0):Int) (inR v5 ((List.length v1):Int) (bif !eqI zG (ix zz v0 v5) (ix zz v1 v5) then some (false,()) else k0 (v0,v1,wI (v5 + 1)))) else some (true,())
abbrev zq3 (K:Nat):zed→Option (Bool × Unit):=zg zee K
theorem zBO (K:Nat):∀ n,evV Es0 K Tryz.f58 0 (ch [.bool]) [1,1,0,1,0] [] zBN n = zg zee n:=zp fun n0 (v0,v1,v5)=>by kernel_rfl
def znL (L0:zed→Option (Bool × Unit)):((List qa) × ((List qa) × Unit))→Option (Bool × Unit):=fun (x0,x1,()) =>
  bif ((List.length x0):Int) != ((List.length x1):Int) then some (false,()) else L0 (x0,x1,0)
def znM:((List qa) × (List qa) × Unit)→Option (Bool × Unit):=znL (zq3 K0)
abbrev zu1:Fun:=⟨58,(ch [(.sl zG),(.sl zG)]),(ch [.bool]),0,znM⟩
theorem zGo:Sq zu1:=ml0 (d:=false) (S:=fun K=>znL (zq3 K)) Tryz.func58 (by kernel_rfl) (fun K=>tr1 (T:=znL) (zBO K K) fun (x0,x1,())=>by kernel_rfl) rfl
abbrev zef:Type:=(List qq) × (List qq) × Int
abbrev zBP:zef→St:=fun (v0,v1,v5)=>St.mk [(0,.dat (.sl zX) v0),(1,.dat (.sl zX) v1),(5,.dat tI v5)] []
def zeg (k0:zef→Option (Bool × Unit)):zef→Option (Bool × Unit):=fun (v0,v1,v5) =>
  bif decide (v5 < ((List.length v0):Int)) then inR v5 ((List.length v0):Int) (inR v5 ((List.length v1):Int) (bif !eqI zX (ix zaC v0 v5) (ix zaC v1 v5) then some (false,()) else k0 (v0,v1,wI (v5 + 1)))) else some (true,())
abbrev zq4 (K:Nat):zef→Option (Bool × Unit):=zg zeg K
theorem zBQ (K:Nat):∀ n,evV Es0 K Tryz.f59 0 (ch [.bool]) [1,1,0,1,0] [] zBP n = zg zeg n:=zp fun n0 (v0,v1,v5)=>by kernel_rfl
def znN (L0:zef→Option (Bool × Unit)):((List qq) × ((List qq) × Unit))→Option (Bool × Unit):=fun (x0,x1,()) =>
  bif ((List.length x0):Int) != ((List.length x1):Int) then some (false,()) else L0 (x0,x1,0)
def znO:((List qq) × (List qq) × Unit)→Option (Bool × Unit):=znN (zq4 K0)
abbrev zu2:Fun:=⟨59,(ch [(.sl zX),(.sl zX)]),(ch [.bool]),0,znO⟩
theorem zGp:Sq zu2:=ml0 (d:=false) (S:=fun K=>znN (zq4 K)) Tryz.func59 (by kernel_rfl) (fun K=>tr1 (T:=znN) (zBQ K K) fun (x0,x1,())=>by kernel_rfl) rfl
abbrev zeh:Type:=(List zt) × (List zt) × Int
abbrev zBR:zeh→St:=fun (v0,v1,v5)=>St.mk [(0,.dat (.sl zw) v0),(1,.dat (.sl zw) v1),(5,.dat tI v5)] []
def zei (k0:zeh→Option (Bool × Unit)):zeh→Option (Bool × Unit):=fun (v0,v1,v5) =>
  bif decide (v5 < ((List.length v0):Int)) then inR v5 ((List.length v0):Int) (inR v5 ((List.length v1):Int) (bif !eqI zw (ix zQ v0 v5) (ix zQ v1 v5) then some (false,()) else k0 (v0,v1,wI (v5 + 1)))) else some (true,())
abbrev zq5 (K:Nat):zeh→Option (Bool × Unit):=zg zei K
theorem zBS (K:Nat):∀ n,evV Es0 K Tryz.f60 0 (ch [.bool]) [1,1,0,1,0] [] zBR n = zg zei n:=zp fun n0 (v0,v1,v5)=>by kernel_rfl
def znP (L0:zeh→Option (Bool × Unit)):((List zt) × ((List zt) × Unit))→Option (Bool × Unit):=fun (x0,x1,()) =>
  bif ((List.length x0):Int) != ((List.length x1):Int) then some (false,()) else L0 (x0,x1,0)
def znQ:((List zt) × (List zt) × Unit)→Option (Bool × Unit):=znP (zq5 K0)
abbrev zu3:Fun:=⟨60,(ch [(.sl zw),(.sl zw)]),(ch [.bool]),0,znQ⟩
theorem zGq:Sq zu3:=ml0 (d:=false) (S:=fun K=>znP (zq5 K)) Tryz.func60 (by kernel_rfl) (fun K=>tr1 (T:=znP) (zBS K K) fun (x0,x1,())=>by kernel_rfl) rfl
abbrev L1:List Fun:=znq :: znr :: zqE :: zoX :: zns :: zoY :: zoZ :: zo0 :: zo1 :: znt :: zsE :: zqF :: zsF :: zqG :: zjt :: zo2 :: zlL :: zuB :: zlM :: zuD :: zuE :: zky :: zuF :: zhK :: zmE :: zuG :: zuH :: znz :: znA :: zo3 :: zkA :: zjz :: zkB :: zuK :: zuL :: zqN :: zkC :: zkD :: zzG :: zzH :: zkE :: zDa :: zuM :: zhn :: zhM :: zjC :: zzI :: zuN :: zuO :: zqU :: zmF :: zDb :: zzJ :: zsG :: zsH :: zo4 :: zkF :: zjD :: zkG :: zjE :: zmG :: zwL :: zo5 :: zlP :: zo6 :: zlQ :: zmH :: zlR :: zlS :: zkH :: zo7 :: znD :: zuT :: znE :: zsI :: zwM :: zsJ :: zqV :: zqW :: zuU :: zsK :: zwN :: zsL :: zuV :: zsM :: zwO :: zwP :: zsO :: zsP :: zsQ :: zwQ :: zwR :: zwS :: zqX :: zsS :: zwT :: zsT :: zwU :: zwV :: zwW :: zwX :: zwY :: zsU :: zuW :: zsV :: zuX :: zsX :: zsZ :: zuY :: zuZ :: zu0 :: zmI :: zmJ :: zu1 :: zu2 :: zu3 :: L0
theorem h1:Sds Tryz.prog E0 L1:=⟨zxP,zxQ,zBv,zzz,zxR,zzA,zzB,zzC,zzD,zxS,zDt,zBw,zDu,zBx,zsc,zzE,zuA,zF5,zuC,zF6,zF7,ztM,zF8,zp4,zwh,zF9,zGa,zxT,zxU,zzF,ztP,zsf,ztQ,zGb,zGc,zBC,ztR,ztS,zKs,zKt,ztT,zLV,zGd,zoy,zp7,zsh,zKu,zGe,zGf,zBD,zwi,zLW,zKv,zDv,zDw,zzK,ztU,zsi,ztV,zsj,zwj,zIe,zzL,zuP,zzM,zuQ,zwk,zuR,zuS,ztW,zzN,zxV,zGg,zxW,zDx,zIf,zDy,zBE,zBF,zGh,zDz,zIg,zDA,zGi,zDB,zIh,zIi,zDE,zDF,zDG,zIj,zIk,zIl,zBG,zDJ,zIm,zDK,zIn,zIo,zIp,zIq,zIr,zDL,zGj,zDM,zGk,zDN,zDO,zGl,zGm,zGn,zwl,zwm,zGo,zGp,zGq,h0⟩
theorem ms1 {d:Bool} {F:Fun} {f:Go.Func} {K:Nat} (hf:Tryz.prog.funcs[F.id]? = some f) (ho:jl f = true) (h:evF (En E0 d L1) K f F.md F.a F.r = F.spec):Sd Tryz.prog E0 F:=mkS h1 hf ho h
theorem ml1 {d:Bool} {F:Fun} {f:Go.Func} {S:Nat→F.a.I→Option F.r.I} (hf:Tryz.prog.funcs[F.id]? = some f) (ho:jl f = true) (h:∀ K,evF (En E0 d L1) K f F.md F.a F.r = S K) (e:S K0 = F.spec):Sd Tryz.prog E0 F:=mkS h1 hf ho ((h K0).trans e)
abbrev Es1:Env:=En E0 false L1
abbrev Ed1:Env:=En E0 true L1
abbrev zcf:Type:=Int × Int × Int × Int × List zl × Nat × List (List Int) × Nat × List zo × List zF × List Int × List zl × Nat × List (List Int) × Nat × List zo × List zF × List Int
abbrev zo9:zcf→St:=fun (v44,v45,o0_0,o1_0,o2,c2,o3,c3,o4,o5,o6,o7,c7,o8,c8,o9,o10,o11)=>St.mk [(1,.bp 0 []),(2,.bp 1 []),(43,.ow 2),(44,.dat tI v44),(45,.dat tI v45)] [.bx (.fld (.pair tU (.pair (.sl zm) (.pair (.sl (.sl tI)) (.pair (.sl zr) (.pair (.sl zv) (.pair (.sl tI) .unit)))))) [.dat tU o0_0,.ow 2,.ow 3,.ow 4,.ow 5,.ow 6]) false,.bx (.fld (.pair tU (.pair (.sl zm) (.pair (.sl (.sl tI)) (.pair (.sl zr) (.pair (.sl zv) (.pair (.sl tI) .unit)))))) [.dat tU o1_0,.ow 7,.ow 8,.ow 9,.ow 10,.ow 11]) false,.drow zm o2 c2,.drow (.sl tI) o3 c3,.row zr o4 false,.row zv o5 false,.row tI o6 false,.drow zm o7 c7,.drow (.sl tI) o8 c8,.row zr o9 false,.row zv o10 false,.row tI o11 false]
abbrev zcg:Type:=Int × Int × Int × (List zl) × Int × List (List Int) × Nat × List zo × List zF × List Int × List zl × Nat × List (List Int) × Nat × List zo × List zF × List Int
abbrev zzU:zcg→St:=fun (v25,v26,o0_0,o0_1,o1_0,o2,c2,o3,o4,o5,o6,c6,o7,c7,o8,o9,o10)=>St.mk [(1,.bp 0 []),(2,.bp 1 []),(24,.ow 2),(25,.dat tI v25),(26,.dat tI v26)] [.bx (.fld (.pair tU (.pair (.sl zm) (.pair (.sl (.sl tI)) (.pair (.sl zr) (.pair (.sl zv) (.pair (.sl tI) .unit)))))) [.dat tU o0_0,.dat (.sl zm) o0_1,.ow 2,.ow 3,.ow 4,.ow 5]) false,.bx (.fld (.pair tU (.pair (.sl zm) (.pair (.sl (.sl tI)) (.pair (.sl zr) (.pair (.sl zv) (.pair (.sl tI) .unit)))))) [.dat tU o1_0,.ow 6,.ow 7,.ow 8,.ow 9,.ow 10]) false,.drow (.sl tI) o2 c2,.row zr o3 false,.row zv o4 false,.row tI o5 false,.drow zm o6 c6,.drow (.sl tI) o7 c7,.row zr o8 false,.row zv o9 false,.row tI o10 false]
def zch (k1:zcf→Option (zb × Unit)):zcf→Option (zb × Unit):=fun (v44,v45,o0_0,o1_0,o2,c2,o3,c3,o4,o5,o6,o7,c7,o8,c8,o9,o10,o11) =>
  bif decide (v45 < v44) then inR v45 ((List.length o2):Int) (bif decide (c2 ≤ Int.toNat v45) then Option.bind (zjp ((ix za o2 v45).1,())) fun q6=>Option.bind (zjq ((ix za o2 v45).2.1,())) fun q7=>Option.bind (zjr ((ix za o2 v45).2.2.1,())) fun q8=>Option.bind (zjs ((ix za o2 v45).2.2.2.1,())) fun q9=>Option.bind (za5 ((ix za o2 v45).2.2.2.2.1,())) fun q10=>Option.bind (zl5 ((ix za o2 v45).2.2.2.2.2.1,())) fun q11=>Option.bind (zkY ((ix za o2 v45).2.2.2.2.2.2.1,())) fun q12=>inR v45 ((List.length o2):Int) (bif decide (Int.toNat v45 = c2) then k1 (v44,wI (v45 + 1),o0_0,o1_0,List.set o2 (Int.toNat v45) (q6.1,q7.1,q8.1,q9.1,q10.1,q11.1,q12.1,(ix za o2 v45).2.2.2.2.2.2.2.1,(ix za o2 v45).2.2.2.2.2.2.2.2.1,()),c2 + 1,o3,c3,o4,o5,o6,o7,c7,o8,c8,o9,o10,o11) else none) else none) else bif decide (c2 = List.length o2) then bif decide (c3 = List.length o3) then some ((o0_0,o2,o3,o4,o5,o6,()),()) else none else none
abbrev zci (K:Nat):zcf→Option (zb × Unit):=zg zch K
theorem zzV (K:Nat):∀ n,evV Ed1 K Tryz.f5 3 (ch [zn]) [1,1,1,1,1,0,1,0] [] zo9 n = zg zch n:=zp fun n1 (v44,v45,o0_0,o1_0,o2,c2,o3,c3,o4,o5,o6,o7,c7,o8,c8,o9,o10,o11)=>by kernel_rfl
def zab (L1:zcf→Option (zb × Unit)) (k0:zcg→Option (zb × Unit)):zcg→Option (zb × Unit):=fun (v25,v26,o0_0,o0_1,o1_0,o2,c2,o3,o4,o5,o6,c6,o7,c7,o8,o9,o10) =>
  bif decide (v26 < v25) then inR v26 ((List.length o2):Int) (bif decide (c2 ≤ Int.toNat v26) then Option.bind (zgT (List.getD o2 (Int.toNat v26) ([]:List Int),())) fun q4=>inR v26 ((List.length o2):Int) (bif decide (Int.toNat v26 = c2) then k0 (v25,wI (v26 + 1),o0_0,o0_1,o1_0,List.set o2 (Int.toNat v26) q4.1,c2 + 1,o3,o4,o5,o6,c6,o7,c7,o8,o9,o10) else none) else none) else Option.bind (ziG (o0_1,())) fun q5=>L1 (((List.length q5.1):Int),0,o0_0,o1_0,q5.1,0,o2,c2,o3,o4,o5,o6,c6,o7,c7,o8,o9,o10)
abbrev zjJ (K:Nat):zcg→Option (zb × Unit):=zg (fun k0=>zab (zci K) k0) K
theorem zzW (K:Nat):∀ n,evV Ed1 K Tryz.f5 3 (ch [zn]) [1,1,1,0,1,0] [] zzU n = zg (fun k0=>zab (zci K) k0) n:=qB (B:=fun L1 k0=>zab L1 k0) (V1:=fun n0=>evV Ed1 K Tryz.f5 3 (ch [zn]) [1,1,1,1,1,0,1,0] [] zo9 K) (W1:=fun k0=>(zci K)) (fun n0=>zzV K K) fun n0 (v25,v26,o0_0,o0_1,o1_0,o2,c2,o3,o4,o5,o6,c6,o7,c7,o8,o9,o10)=>by kernel_rfl
def zil (L0:zcg→Option (zb × Unit)):(zb × Unit)→Option (zb × Unit):=fun (x0,()) =>
  Option.bind (za4 (x0.2.2.2.1,())) fun q0=>Option.bind (ziF (x0.2.2.2.2.1,())) fun q1=>Option.bind (zgT (x0.2.2.2.2.2.1,())) fun q2=>Option.bind (zjo (x0.2.2.1,())) fun q3=>L0 (((List.length q3.1):Int),0,x0.1,x0.2.1,0,q3.1,0,q0.1,q1.1,q2.1,[],0,[],0,[],[],[])
def qA:(zb × Unit)→Option (zb × Unit):=zil (zjJ K0)
abbrev zs0:Fun:=⟨5,(ch [zn]),(ch [zn]),3,qA⟩
theorem zDP:Sq zs0:=ml1 (d:=true) (S:=fun K=>zil (zjJ K)) Tryz.func5 (by kernel_rfl) (fun K=>tr1 (T:=zil) (zzW K K) fun (x0,())=>by kernel_rfl) rfl
def ze8:(zy × Unit)→Option (Bool × Unit):=fun (x0,()) =>
  Option.bind (zib (x0,())) fun q0=>bif q0.1 then some (false,()) else some (true,())
abbrev znR:Fun:=⟨180,(ch [zq]),(ch [.bool]),0,ze8⟩
theorem zxX:Sq znR:=ms1 (d:=false) (K:=0) Tryz.func180 (by kernel_rfl) (funext fun (x0,())=>by kernel_rfl)
def yl:((List zy) × ((Option ((zy × Unit)→Option (Bool × Unit))) × Unit))→Option (Bool × Unit):=fun (x0,x1,()) =>
  Option.bind (zaD (x0,x1,())) fun q0=>bif decide (q0.1 ≥ 0) then some (true,()) else some (false,())
abbrev zho:Fun:=⟨183,(ch [(.sl zq),(.fn (ch [zq]) (ch [.bool]))]),(ch [.bool]),0,yl⟩
theorem zoz:Sq zho:=ms1 (d:=false) (K:=0) Tryz.func183 (by kernel_rfl) (funext fun (x0,x1,())=>by kernel_rfl)
def zax:(Int × (Int × Unit))→Option (Int × Unit):=fun (x0,x1,()) =>
  Option.bind (zaa (x0,())) fun q0=>bif q0.1 then Option.bind (zaa (x1,())) fun q1=>bif q1.1 then some (0,()) else some ((-1),()) else Option.bind (zaa (x1,())) fun q2=>bif q2.1 then some (1,()) else bif decide (x0 < x1) then some ((-1),()) else bif decide (x0 > x1) then some (1,()) else some (0,())
abbrev zmK:Fun:=⟨254,(ch [tI,tI]),(ch [tI]),0,zax⟩
theorem zwn:Sq zmK:=ms1 (d:=false) (K:=0) Tryz.func254 (by kernel_rfl) (funext fun (x0,x1,())=>by kernel_rfl)
end
end Go.Proofs.YtlklokhlgcfcdaaGreatDoor
end
section
namespace Go.Proofs.YtlklokhlgcfcdaaGreatDoor
open Go.Ev
noncomputable section
def vU:(Int × (Int × Unit))→Option (Int × Unit):=fun (x0,x1,()) =>
  Option.bind (vy (x0,())) fun q0=>bif q0.1 then Option.bind (vy (x1,())) fun q1=>bif q1.1 then some (0,()) else some ((-1),()) else Option.bind (vy (x1,())) fun q2=>bif q2.1 then some (1,()) else bif decide (x0 < x1) then some ((-1),()) else bif decide (x0 > x1) then some (1,()) else some (0,())
abbrev zjK:Fun:=⟨255,(ch [tU,tU]),(ch [tI]),0,vU⟩
theorem zsm:Sq zjK:=ms1 (d:=false) (K:=0) Tryz.func255 (by kernel_rfl) (funext fun (x0,x1,())=>by kernel_rfl)
def zcj:(Int × ((Option zf) × Unit))→Option (Bool × Unit):=fun (x0,x1,()) =>
  Option.bind x1 fun q0=>Option.bind (qt (x0,0,wI (((List.length q0.1):Int) - 1),())) fun q1=>bif q1.1 then some (false,()) else some (true,())
abbrev zpa:Fun:=⟨185,(ch [tI,(.ptr zu)]),(ch [.bool]),0,zcj⟩
theorem zzX:Sq zpa:=ms1 (d:=false) (K:=0) Tryz.func185 (by kernel_rfl) (funext fun (x0,x1,())=>by kernel_rfl)
def qK:((List Int) × ((Option ((Int × Unit)→Option (Bool × Unit))) × Unit))→Option (Bool × Unit):=fun (x0,x1,()) =>
  Option.bind (zb5 (x0,x1,())) fun q0=>bif decide (q0.1 ≥ 0) then some (true,()) else some (false,())
abbrev zi9:Fun:=⟨151,(ch [(.sl tI),(.fn (ch [tI]) (ch [.bool]))]),(ch [.bool]),0,qK⟩
theorem zq6:Sq zi9:=ms1 (d:=false) (K:=0) Tryz.func151 (by kernel_rfl) (funext fun (x0,x1,())=>by kernel_rfl)
def vm:((List Int) × ((Option ((Int × Unit)→Option (Bool × Unit))) × Unit))→Option (Bool × Unit):=fun (x0,x1,()) =>
  Option.bind (zbB (x0,x1,())) fun q0=>bif decide (q0.1 ≥ 0) then some (true,()) else some (false,())
abbrev zhT:Fun:=⟨299,(ch [(.sl (.int .u8)),(.fn (ch [(.int .u8)]) (ch [.bool]))]),(ch [.bool]),0,vm⟩
theorem zqh:Sq zhT:=ms1 (d:=false) (K:=0) Tryz.func299 (by kernel_rfl) (funext fun (x0,x1,())=>by kernel_rfl)
def zgY:(Int × Unit)→Option (Bool × Unit):=fun (x0,()) =>
  Option.bind (zgn (x0,())) fun q0=>bif q0.1 then some (true,()) else Option.bind (zjw (x0,())) fun q1=>bif q1.1 then some (true,()) else some (false,())
abbrev zq7:Fun:=⟨258,(ch [(.int .u8)]),(ch [.bool]),0,zgY⟩
theorem zBT:Sq zq7:=ms1 (d:=false) (K:=0) Tryz.func258 (by kernel_rfl) (funext fun (x0,())=>by kernel_rfl)
def zaI:((List qx) × ((Option ((qx × Unit)→Option (Bool × Unit))) × Unit))→Option (Bool × Unit):=fun (x0,x1,()) =>
  Option.bind (yU (x0,x1,())) fun q0=>bif decide (q0.1 ≥ 0) then some (true,()) else some (false,())
abbrev zf2:Fun:=⟨188,(ch [(.sl qC),(.fn (ch [qC]) (ch [.bool]))]),(ch [.bool]),0,zaI⟩
theorem zmY:Sq zf2:=ms1 (d:=false) (K:=0) Tryz.func188 (by kernel_rfl) (funext fun (x0,x1,())=>by kernel_rfl)
def zbJ:((List zy) × (zy × Unit))→Option (Bool × Unit):=fun (x0,x1,()) =>
  Option.bind (ziI (x0,x1,())) fun q0=>bif decide (q0.1 ≥ 0) then some (true,()) else some (false,())
abbrev zkK:Fun:=⟨192,(ch [(.sl zq),zq]),(ch [.bool]),0,zbJ⟩
theorem zt1:Sq zkK:=ms1 (d:=false) (K:=0) Tryz.func192 (by kernel_rfl) (funext fun (x0,x1,())=>by kernel_rfl)
def ze9:(Int × Unit)→Option (Bool × Unit):=fun (x0,()) =>
  Option.bind (qt (x0,0,12,())) fun q0=>bif q0.1 then some (false,()) else some (true,())
abbrev znS:Fun:=⟨194,(ch [tI]),(ch [.bool]),0,ze9⟩
theorem zxY:Sq znS:=ms1 (d:=false) (K:=0) Tryz.func194 (by kernel_rfl) (funext fun (x0,())=>by kernel_rfl)
def y4:(zf × Unit)→Option (Bool × Unit):=fun (x0,()) =>
  Option.bind (qt (x0.2.2.2.2.2.1,0,24,())) fun q0=>bif q0.1 then Option.bind (qt (x0.2.2.2.2.2.2.1,0,48,())) fun q1=>bif q1.1 then Option.bind (qt (x0.2.2.2.2.2.2.2.1,1,4,())) fun q2=>bif q2.1 then Option.bind (qt (x0.2.2.2.2.2.2.2.2.1,1,16,())) fun q3=>bif q3.1 then some (true,()) else some (false,()) else some (false,()) else some (false,()) else some (false,())
abbrev zu4:Fun:=⟨109,(ch [zu]),(ch [.bool]),0,y4⟩
theorem zGr:Sq zu4:=ms1 (d:=false) (K:=0) Tryz.func109 (by kernel_rfl) (funext fun (x0,())=>by kernel_rfl)
def j3:((List zl) × ((Option ((zl × Unit)→Option (Bool × Unit))) × Unit))→Option (Bool × Unit):=fun (x0,x1,()) =>
  Option.bind (zaE (x0,x1,())) fun q0=>bif decide (q0.1 ≥ 0) then some (true,()) else some (false,())
abbrev zhp:Fun:=⟨196,(ch [(.sl zm),(.fn (ch [zm]) (ch [.bool]))]),(ch [.bool]),0,j3⟩
theorem zoA:Sq zhp:=ms1 (d:=false) (K:=0) Tryz.func196 (by kernel_rfl) (funext fun (x0,x1,())=>by kernel_rfl)
def zdx:((List qS) × ((Option ((qS × Unit)→Option (Bool × Unit))) × Unit))→Option (Bool × Unit):=fun (x0,x1,()) =>
  Option.bind (zbD (x0,x1,())) fun q0=>bif decide (q0.1 ≥ 0) then some (true,()) else some (false,())
abbrev zhU:Fun:=⟨198,(ch [(.sl qk),(.fn (ch [qk]) (ch [.bool]))]),(ch [.bool]),0,zdx⟩
theorem zqi:Sq zhU:=ms1 (d:=false) (K:=0) Tryz.func198 (by kernel_rfl) (funext fun (x0,x1,())=>by kernel_rfl)
def zjL:(z9 × Unit)→Option (Bool × Unit):=fun (x0,()) =>
  bif x0.1 then Option.bind (zgp (x0.2.1,())) fun q0=>bif q0.1 then Option.bind (zgp (x0.2.2.1,())) fun q1=>bif q1.1 then Option.bind (zjA (x0.2.2.2.1,())) fun q2=>bif q2.1 then some (false,()) else some (true,()) else some (true,()) else some (true,()) else bif !eqI zT x0 (ze zT) then some (true,()) else some (false,())
abbrev zu5:Fun:=⟨200,(ch [zT]),(ch [.bool]),0,zjL⟩
theorem zGs:Sq zu5:=ms1 (d:=false) (K:=0) Tryz.func200 (by kernel_rfl) (funext fun (x0,())=>by kernel_rfl)
def zjM:((List z9) × (z7 × (Int × Unit)))→Option (Int × Unit):=fun (x0,x1,x2,()) =>
  Option.bind (yr (x0,some fun z=>zgU (z.1,some x1,some x2,()),())) fun q0=>some (q0.1,())
abbrev zu6:Fun:=⟨201,(ch [(.sl zT),zM,tI]),(ch [tI]),0,zjM⟩
theorem zGt:Sq zu6:=ms1 (d:=false) (K:=0) Tryz.func201 (by kernel_rfl) (funext fun (x0,x1,x2,())=>by kernel_rfl)
def jt:((List qa) × ((Option ((qa × Unit)→Option (Bool × Unit))) × Unit))→Option (Bool × Unit):=fun (x0,x1,()) =>
  Option.bind (zbE (x0,x1,())) fun q0=>bif decide (q0.1 ≥ 0) then some (true,()) else some (false,())
abbrev zhV:Fun:=⟨202,(ch [(.sl zG),(.fn (ch [zG]) (ch [.bool]))]),(ch [.bool]),0,jt⟩
theorem zqj:Sq zhV:=ms1 (d:=false) (K:=0) Tryz.func202 (by kernel_rfl) (funext fun (x0,x1,())=>by kernel_rfl)
def zck:(zBu × Unit)→Option (Bool × Unit):=fun (x0,()) =>
  bif x0.1 == 1 then Option.bind (ze0 (x0.2.1,())) fun q0=>bif q0.1 then bif eqI zM x0.2.2.1 (ze zM) then some (true,()) else some (false,()) else some (false,()) else bif x0.1 == 3 then Option.bind (ze0 (x0.2.1,())) fun q1=>bif q1.1 then bif eqI zM x0.2.2.1 (ze zM) then some (true,()) else some (false,()) else some (false,()) else bif x0.1 == 2 then bif x0.2.1 == 0 then Option.bind (ze0 (x0.2.2.1.1,())) fun q2=>bif q2.1 then Option.bind (ze0 (x0.2.2.1.2.1,())) fun q3=>bif q3.1 then some (true,()) else some (false,()) else some (false,()) else some (false,()) else some (false,())
abbrev zlT:Fun:=⟨270,(ch [zv7]),(ch [.bool]),0,zck⟩
theorem zu7:Sq zlT:=ms1 (d:=false) (K:=0) Tryz.func270 (by kernel_rfl) (funext fun (x0,())=>by kernel_rfl)
def ju:((List qq) × ((Option ((qq × Unit)→Option (Bool × Unit))) × Unit))→Option (Bool × Unit):=fun (x0,x1,()) =>
  Option.bind (zbF (x0,x1,())) fun q0=>bif decide (q0.1 ≥ 0) then some (true,()) else some (false,())
abbrev zhW:Fun:=⟨204,(ch [(.sl zX),(.fn (ch [zX]) (ch [.bool]))]),(ch [.bool]),0,ju⟩
theorem zqk:Sq zhW:=ms1 (d:=false) (K:=0) Tryz.func204 (by kernel_rfl) (funext fun (x0,x1,())=>by kernel_rfl)
def zk1:(qq × Unit)→Option (Bool × Unit):=fun (x0,()) =>
  Option.bind (zi8 (x0.2.1,())) fun q0=>bif q0.1 then Option.bind (zi8 (x0.2.2.1,())) fun q1=>bif q1.1 then Option.bind (zi8 (x0.2.2.2.1,())) fun q2=>bif q2.1 then some (true,()) else some (false,()) else some (false,()) else some (false,())
abbrev zq8:Fun:=⟨272,(ch [zX]),(ch [.bool]),0,zk1⟩
theorem zBU:Sq zq8:=ms1 (d:=false) (K:=0) Tryz.func272 (by kernel_rfl) (funext fun (x0,())=>by kernel_rfl)
def zgZ:(ByteArray × (ByteArray × Unit))→Option (ByteArray × Unit):=fun (x0,x1,()) =>
  bif ByteArray.toList x0 == ByteArray.toList (ByteArray.mk #[]) then some (x0,()) else bif ByteArray.toList x1 == ByteArray.toList (ByteArray.mk #[]) then some (x0,()) else bif (↑(ByteArray.size x1):Int) == 1 then bif decide (0 < (↑(ByteArray.size x1):Int)) then bif decide ((↑(UInt8.toNat (List.getD (Array.toList (ByteArray.data x1)) (Int.toNat 0) 0)):Int) < 128) then bif decide (0 < (↑(ByteArray.size x1):Int)) then Option.bind (zbN (x0,(↑(UInt8.toNat (List.getD (Array.toList (ByteArray.data x1)) (Int.toNat 0) 0)):Int),())) fun q0=>bif decide (0 < (↑(ByteArray.size x1):Int)) then Option.bind (zds (q0.1,(↑(UInt8.toNat (List.getD (Array.toList (ByteArray.data x1)) (Int.toNat 0) 0)):Int),())) fun q1=>some (q1.1,()) else none else none else none else none else none
abbrev zq9:Fun:=⟨303,(ch [.str,.str]),(ch [.str]),0,zgZ⟩
theorem zBV:Sq zq9:=ms1 (d:=false) (K:=0) Tryz.func303 (by kernel_rfl) (funext fun (x0,x1,())=>by kernel_rfl)
def jg:((List zt) × ((Option ((zt × Unit)→Option (Bool × Unit))) × Unit))→Option (Bool × Unit):=fun (x0,x1,()) =>
  Option.bind (zaF (x0,x1,())) fun q0=>bif decide (q0.1 ≥ 0) then some (true,()) else some (false,())
abbrev zhq:Fun:=⟨206,(ch [(.sl zw),(.fn (ch [zw]) (ch [.bool]))]),(ch [.bool]),0,jg⟩
theorem zoB:Sq zhq:=ms1 (d:=false) (K:=0) Tryz.func206 (by kernel_rfl) (funext fun (x0,x1,())=>by kernel_rfl)
def zhX:(zjn × Unit)→Option (Bool × Unit):=fun (x0,()) =>
  Option.bind (qU (x0.1,())) fun q0=>bif q0.1 then bif decide (x0.2.1 ≤ 4611686018427387904) then bif x0.2.2.1 == -1 then some (true,()) else Option.bind (zgV (x0.2.2.1,())) fun q1=>bif q1.1 then some (true,()) else some (false,()) else some (false,()) else some (false,())
abbrev zwZ:Fun:=⟨276,(ch [zdJ]),(ch [.bool]),0,zhX⟩
theorem zIs:Sq zwZ:=ms1 (d:=false) (K:=0) Tryz.func276 (by kernel_rfl) (funext fun (x0,())=>by kernel_rfl)
def zgu:(Int × (Int × Unit))→Option (Int × (Int × Unit)):=fun (x0,x1,()) =>
  Option.bind (zdK (x0,x1,())) fun q0=>bif q0.1 != 0 then some (0,7,()) else bif decide (q0.2.1 > 4611686018427387904) then some (0,7,()) else some (q0.2.1,0,())
abbrev zu8:Fun:=⟨304,(ch [tU,tU]),(ch [tU,tI]),0,zgu⟩
theorem zGu:Sq zu8:=ms1 (d:=false) (K:=0) Tryz.func304 (by kernel_rfl) (funext fun (x0,x1,())=>by kernel_rfl)
def zfa:(zo × ((Option qT) × Unit))→Option (Bool × Unit):=fun (x0,x1,()) =>
  bif x0.1 then Option.bind x1 fun q0=>Option.bind (zbP (q0,x0.2.1,())) fun q1=>bif q1.1 then Option.bind x1 fun q2=>Option.bind (qV (q2,x0.2.2.1,())) fun q3=>bif q3.1 then Option.bind x1 fun q4=>bif decide (x0.2.2.2.2.2.2.2.2.2.1 < ((List.length q4.2.1.2.2.2.2.1):Int)) then some (true,()) else some (false,()) else some (false,()) else some (false,()) else some (true,())
abbrev znT:Fun:=⟨121,(ch [zr,(.ptr qo)]),(ch [.bool]),0,zfa⟩
theorem zxZ:Sq znT:=ms1 (d:=false) (K:=0) Tryz.func121 (by kernel_rfl) (funext fun (x0,x1,())=>by kernel_rfl)
def j4:((List zo) × ((Option ((zo × Unit)→Option (Bool × Unit))) × Unit))→Option (Bool × Unit):=fun (x0,x1,()) =>
  Option.bind (zaG (x0,x1,())) fun q0=>bif decide (q0.1 ≥ 0) then some (true,()) else some (false,())
abbrev zhr:Fun:=⟨213,(ch [(.sl zr),(.fn (ch [zr]) (ch [.bool]))]),(ch [.bool]),0,j4⟩
theorem zoC:Sq zhr:=ms1 (d:=false) (K:=0) Tryz.func213 (by kernel_rfl) (funext fun (x0,x1,())=>by kernel_rfl)
def za9:(zF × ((Option qT) × Unit))→Option (Bool × Unit):=fun (x0,x1,()) =>
  Option.bind x1 fun q0=>bif decide (x0.2.1 < ((List.length q0.1.2.1):Int)) then Option.bind x1 fun q1=>inR x0.2.1 ((List.length q1.1.2.1):Int) (bif x0.2.2.1 == ix (0:Int) q1.1.2.1 x0.2.1 then Option.bind x1 fun q2=>Option.bind (qV (q2,x0.2.2.2.1,())) fun q3=>bif q3.1 then Option.bind x1 fun q4=>bif decide (x0.1 ≤ q4.2.1.1) then some (true,()) else some (false,()) else some (false,()) else some (false,())) else some (false,())
abbrev znU:Fun:=⟨125,(ch [zv,(.ptr qo)]),(ch [.bool]),0,za9⟩
theorem zx0:Sq znU:=ms1 (d:=false) (K:=0) Tryz.func125 (by kernel_rfl) (funext fun (x0,x1,())=>by kernel_rfl)
def j5:((List zF) × ((Option ((zF × Unit)→Option (Bool × Unit))) × Unit))→Option (Bool × Unit):=fun (x0,x1,()) =>
  Option.bind (zaH (x0,x1,())) fun q0=>bif decide (q0.1 ≥ 0) then some (true,()) else some (false,())
abbrev zhs:Fun:=⟨215,(ch [(.sl zv),(.fn (ch [zv]) (ch [.bool]))]),(ch [.bool]),0,j5⟩
theorem zoD:Sq zhs:=ms1 (d:=false) (K:=0) Tryz.func215 (by kernel_rfl) (funext fun (x0,x1,())=>by kernel_rfl)
def vq:(Int × ((Option qT) × Unit))→Option (Bool × Unit):=fun (x0,x1,()) =>
  bif x0 == -1 then some (true,()) else Option.bind x1 fun q0=>Option.bind (qV (q0,x0,())) fun q1=>bif q1.1 then some (true,()) else some (false,())
abbrev znV:Fun:=⟨127,(ch [tI,(.ptr qo)]),(ch [.bool]),0,vq⟩
theorem zx1:Sq znV:=ms1 (d:=false) (K:=0) Tryz.func127 (by kernel_rfl) (funext fun (x0,x1,())=>by kernel_rfl)
def zhY:(qT × (Int × (Int × Unit)))→Option (Bool × Unit):=fun (x0,x1,x2,()) =>
  Option.bind (zbP (x0,x1,())) fun q0=>bif q0.1 then Option.bind (zbP (x0,x2,())) fun q1=>bif q1.1 then inR x1 ((List.length x0.1.1):Int) (inR x2 ((List.length x0.1.1):Int) (Option.bind (zhQ (ix je x0.1.1 x1,ix je x0.1.1 x2,())) fun q2=>bif q2.1 then some (true,()) else some (false,()))) else some (false,()) else some (false,())
abbrev zw0:Fun:=⟨137,(ch [qo,tI,tI]),(ch [.bool]),0,zhY⟩
theorem zIt:Sq zw0:=ms1 (d:=false) (K:=0) Tryz.func137 (by kernel_rfl) (funext fun (x0,x1,x2,())=>by kernel_rfl)
def vn:((List z9) × ((Option ((z9 × Unit)→Option (Bool × Unit))) × Unit))→Option (Bool × Unit):=fun (x0,x1,()) =>
  Option.bind (yr (x0,x1,())) fun q0=>bif decide (q0.1 ≥ 0) then some (true,()) else some (false,())
abbrev zhZ:Fun:=⟨219,(ch [(.sl zT),(.fn (ch [zT]) (ch [.bool]))]),(ch [.bool]),0,vn⟩
theorem zql:Sq zhZ:=ms1 (d:=false) (K:=0) Tryz.func219 (by kernel_rfl) (funext fun (x0,x1,())=>by kernel_rfl)
def vE:((List z7) × ((Option ((z7 × Unit)→Option (Bool × Unit))) × Unit))→Option (Bool × Unit):=fun (x0,x1,()) =>
  Option.bind (zb9 (x0,x1,())) fun q0=>bif decide (q0.1 ≥ 0) then some (true,()) else some (false,())
abbrev zja:Fun:=⟨222,(ch [(.sl zM),(.fn (ch [zM]) (ch [.bool]))]),(ch [.bool]),0,vE⟩
theorem zra:Sq zja:=ms1 (d:=false) (K:=0) Tryz.func222 (by kernel_rfl) (funext fun (x0,x1,())=>by kernel_rfl)
def zba:(qa × ((Option qT) × Unit))→Option (Bool × Unit):=fun (x0,x1,()) =>
  bif x0.2.2.1 != 1 then some (true,()) else Option.bind x1 fun q0=>Option.bind (qV (q0,x0.2.2.2.1,())) fun q1=>bif q1.1 then some (true,()) else some (false,())
abbrev znW:Fun:=⟨134,(ch [zG,(.ptr qo)]),(ch [.bool]),0,zba⟩
theorem zx2:Sq znW:=ms1 (d:=false) (K:=0) Tryz.func134 (by kernel_rfl) (funext fun (x0,x1,())=>by kernel_rfl)
def qJ:(zt × ((Option qT) × Unit))→Option (Bool × Unit):=fun (x0,x1,()) =>
  bif x0.1 then Option.bind x1 fun q0=>Option.bind (qV (q0,x0.2.1,())) fun q1=>bif q1.1 then Option.bind x1 fun q2=>Option.bind (qV (q2,x0.2.2.1,())) fun q3=>bif q3.1 then some (true,()) else some (false,()) else some (false,()) else some (true,())
abbrev znX:Fun:=⟨139,(ch [zw,(.ptr qo)]),(ch [.bool]),0,qJ⟩
theorem zx3:Sq znX:=ms1 (d:=false) (K:=0) Tryz.func139 (by kernel_rfl) (funext fun (x0,x1,())=>by kernel_rfl)
def yK:((List zt) × ((Option ((zt × Unit)→Option (Bool × Unit))) × Unit))→Option ((Option zb4) × Unit):=fun (x0,x1,()) =>
  bif Option.isNone x1 then some (none,()) else Option.bind (za5 (x0,())) fun q0=>some (some (q0.1,x1,()),())
abbrev znY:Fun:=⟨140,(ch [(.sl zw),(.fn (ch [zw]) (ch [.bool]))]),(ch [(.ptr vQ)]),0,yK⟩
theorem zx4:Sq znY:=ms1 (d:=false) (K:=0) Tryz.func140 (by kernel_rfl) (funext fun (x0,x1,())=>by kernel_rfl)
def vV:((Option zb4) × (Int × Unit))→Option (Bool × Unit):=fun (x0,x1,()) =>
  Option.bind (ze6 (x0,())) fun q0=>bif q0.1 then bif decide (x1 ≥ 0) then Option.bind x0 fun q1=>bif decide (x1 < ((List.length q1.1):Int)) then Option.bind x0 fun q2=>Option.bind x0 fun q3=>inR x1 ((List.length q3.1):Int) (Option.bind q2.2.1 fun q4=>Option.bind (q4 (ix zQ q3.1 x1,())) fun q5=>bif q5.1 then some (true,()) else some (false,())) else some (false,()) else some (false,()) else some (false,())
abbrev zpb:Fun:=⟨142,(ch [(.ptr vQ),tI]),(ch [.bool]),0,vV⟩
theorem zzY:Sq zpb:=ms1 (d:=false) (K:=0) Tryz.func142 (by kernel_rfl) (funext fun (x0,x1,())=>by kernel_rfl)
def ziK:((List zo) × ((Option ((zo × Unit)→Option (Bool × Unit))) × Unit))→Option ((Option zeW) × Unit):=fun (x0,x1,()) =>
  bif Option.isNone x1 then some (none,()) else Option.bind (za4 (x0,())) fun q0=>some (some (q0.1,x1,()),())
abbrev znZ:Fun:=⟨284,(ch [(.sl zr),(.fn (ch [zr]) (ch [.bool]))]),(ch [(.ptr yT)]),0,ziK⟩
theorem zx5:Sq znZ:=ms1 (d:=false) (K:=0) Tryz.func284 (by kernel_rfl) (funext fun (x0,x1,())=>by kernel_rfl)
def zf3:((Option zeW) × (Int × Unit))→Option (Bool × Unit):=fun (x0,x1,()) =>
  Option.bind (ze7 (x0,())) fun q0=>bif q0.1 then bif decide (x1 ≥ 0) then Option.bind x0 fun q1=>bif decide (x1 < ((List.length q1.1):Int)) then Option.bind x0 fun q2=>Option.bind x0 fun q3=>inR x1 ((List.length q3.1):Int) (Option.bind q2.2.1 fun q4=>Option.bind (q4 (ix zH q3.1 x1,())) fun q5=>bif q5.1 then some (true,()) else some (false,())) else some (false,()) else some (false,()) else some (false,())
abbrev zpc:Fun:=⟨287,(ch [(.ptr yT),tI]),(ch [.bool]),0,zf3⟩
theorem zzZ:Sq zpc:=ms1 (d:=false) (K:=0) Tryz.func287 (by kernel_rfl) (funext fun (x0,x1,())=>by kernel_rfl)
abbrev zgv:Type:=Int × (List Int) × Int × Int
abbrev zGv:zgv→St:=fun (v4,v9,v10,v11)=>St.mk [(4,.dat tU v4),(9,.dat (.sl tU) v9),(10,.dat tI v10),(11,.dat tI v11)] []
def zgw (k0:zgv→Option (Int × (Int × Unit))):zgv→Option (Int × (Int × Unit)):=fun (v4,v9,v10,v11) =>
  bif decide (v11 < v10) then inR v11 ((List.length v9):Int) (Option.bind (zfI (v4,ix (0:Int) v9 v11,())) fun q0=>bif q0.2.1 != 0 then some (0,q0.2.1,()) else k0 (q0.1,v9,v10,wI (v11 + 1))) else some (v4,0,())
abbrev zu9 (K:Nat):zgv→Option (Int × (Int × Unit)):=zg zgw K
theorem zGw (K:Nat):∀ n,evV Es1 K Tryz.f82 0 (ch [tU,tI]) [1,1,0,1,0] [] zGv n = zg zgw n:=zp fun n0 (v4,v9,v10,v11)=>by kernel_rfl
def zsn (L0:zgv→Option (Int × (Int × Unit))):((List Int) × Unit)→Option (Int × (Int × Unit)):=fun (x0,()) =>
  L0 (0,x0,((List.length x0):Int),0)
def zg0:((List Int) × Unit)→Option (Int × Int × Unit):=zsn (zu9 K0)
abbrev zz0:Fun:=⟨82,(ch [(.sl tU)]),(ch [tU,tI]),0,zg0⟩
theorem zKw:Sq zz0:=ml1 (d:=false) (S:=fun K=>zsn (zu9 K)) Tryz.func82 (by kernel_rfl) (fun K=>tr1 (T:=zsn) (zGw K K) fun (x0,())=>by kernel_rfl) rfl
def zfs:((List Int) × (Int × (Int × ((Option ((Int × (Int × Unit))→Option (Int × (Int × Unit)))) × Unit))))→Option ((List Int) × (Int × Unit)):=fun (x0,x1,x2,x3,()) =>
  Option.bind (qU (x1,())) fun q0=>bif q0.1 then inR x1 (↑4:Int) (Option.bind x3 fun q1=>Option.bind (q1 (ix (0:Int) x0 x1,x2,())) fun q2=>bif q2.2.1 != 0 then some ([0,0,0,0],q2.2.1,()) else inR x1 (↑4:Int) (some (List.set x0 (Int.toNat x1) q2.1,0,()))) else some ([0,0,0,0],1,())
abbrev zs1:Fun:=⟨234,(ch [(.arr 4 tU),tI,tU,(.fn (ch [tU,tU]) (ch [tU,tI]))]),(ch [(.arr 4 tU),tI]),0,zfs⟩
theorem zDQ:Sq zs1:=ms1 (d:=false) (K:=0) Tryz.func234 (by kernel_rfl) (funext fun (x0,x1,x2,x3,())=>by kernel_rfl)
abbrev zbb:Type:=(List zy) × Int
abbrev zx6:zbb→St:=fun (v0,v3)=>St.mk [(0,.dat (.sl zq) v0),(3,.dat tI v3)] []
def zfb (k0:zbb→Option (Bool × Unit)):zbb→Option (Bool × Unit):=fun (v0,v3) =>
  bif decide (v3 < ((List.length v0):Int)) then inR v3 ((List.length v0):Int) (Option.bind (zie (ix je v0 v3,())) fun q0=>bif q0.1 then inR (wI (v3 - 1)) ((List.length v0):Int) (inR v3 ((List.length v0):Int) (Option.bind (zlq (List.getD v0 (Int.toNat (wI (v3 - 1))) (ze zq),ix je v0 v3,())) fun q1=>bif decide (q1.1 ≥ 0) then some (false,()) else k0 (v0,wI (v3 + 1)))) else some (false,())) else some (true,())
abbrev ziL (K:Nat):zbb→Option (Bool × Unit):=zg zfb K
theorem zx7 (K:Nat):∀ n,evV Es1 K Tryz.f161 0 (ch [.bool]) [1,1,0,1,0] [] zx6 n = zg zfb n:=zp fun n0 (v0,v3)=>by kernel_rfl
def zg1 (L0:zbb→Option (Bool × Unit)):((List zy) × Unit)→Option (Bool × Unit):=fun (x0,()) =>
  bif decide (((List.length x0):Int) < 1) then some (false,()) else bif decide (((List.length x0):Int) > 8) then some (false,()) else bif decide (0 < ((List.length x0):Int)) then bif !eqI zq (ix je x0 0) (ze zq) then some (false,()) else L0 (x0,1) else none
def zg2:((List zy) × Unit)→Option (Bool × Unit):=zg1 (ziL K0)
abbrev zrb:Fun:=⟨161,(ch [(.sl zq)]),(ch [.bool]),0,zg2⟩
theorem zBW:Sq zrb:=ml1 (d:=false) (S:=fun K=>zg1 (ziL K)) Tryz.func161 (by kernel_rfl) (fun K=>tr1 (T:=zg1) (zx7 K K) fun (x0,())=>by kernel_rfl) rfl
abbrev y5:Type:=(List qx) × Int × Int
abbrev zlU:y5→St:=fun (v0,v3,v4)=>St.mk [(0,.dat (.sl qC) v0),(3,.dat tI v3),(4,.dat tI v4)] []
abbrev jQ:Type:=(List qx) × Int
abbrev zlV:jQ→St:=fun (v0,v3)=>St.mk [(0,.dat (.sl qC) v0),(3,.dat tI v3)] []
def zcl (k0:jQ→Option (Bool × Unit)) (k1:y5→Option (Bool × Unit)):y5→Option (Bool × Unit):=fun (v0,v3,v4) =>
  bif decide (v4 < v3) then inR v4 ((List.length v0):Int) (inR v3 ((List.length v0):Int) (bif ByteArray.toList (ix qn v0 v4).1 == ByteArray.toList (ix qn v0 v3).1 then some (false,()) else k1 (v0,v3,wI (v4 + 1)))) else k0 (v0,wI (v3 + 1))
abbrev zcm (K:Nat) (k0:jQ→Option (Bool × Unit)):y5→Option (Bool × Unit):=zg (fun k1=>zcl k0 k1) K
theorem zva (K:Nat) (n0:Nat):∀ n,evV Es1 K Tryz.f162 0 (ch [.bool]) [1,1,0,1,0,0,1,0,0,1,1,0] [n0] zlU n = zg (fun k1=>zcl (evV Es1 K Tryz.f162 0 (ch [.bool]) [1,1,0,1,0] [] zlV n0) k1) n:=zp fun n1 (v0,v3,v4)=>by kernel_rfl
def y6 (L1:y5→Option (Bool × Unit)) (k0:jQ→Option (Bool × Unit)):jQ→Option (Bool × Unit):=fun (v0,v3) =>
  bif decide (v3 < ((List.length v0):Int)) then inR v3 ((List.length v0):Int) (Option.bind (zB ((ix qn v0 v3).1,())) fun q0=>bif q0.1 then inR v3 ((List.length v0):Int) (Option.bind (zB ((ix qn v0 v3).2.1,())) fun q1=>bif q1.1 then inR v3 ((List.length v0):Int) (bif decide ((ix qn v0 v3).2.2.1 < 0) then some (false,()) else inR v3 ((List.length v0):Int) (bif decide ((ix qn v0 v3).2.2.1 > 3) then some (false,()) else L1 (v0,v3,0))) else some (false,())) else some (false,())) else some (true,())
abbrev zgx (K:Nat):jQ→Option (Bool × Unit):=zg (fun k0=>y6 (zcm K k0) k0) K
theorem zvb (K:Nat):∀ n,evV Es1 K Tryz.f162 0 (ch [.bool]) [1,1,0,1,0] [] zlV n = zg (fun k0=>y6 (zcm K k0) k0) n:=qB (B:=fun L1 k0=>y6 L1 k0) (V1:=fun n0=>evV Es1 K Tryz.f162 0 (ch [.bool]) [1,1,0,1,0,0,1,0,0,1,1,0] [n0] zlU K) (W1:=fun k0=>(zcm K k0)) (fun n0=>zva K n0 K) fun n0 (v0,v3)=>by kernel_rfl
def zfc (L0:jQ→Option (Bool × Unit)):((List qx) × Unit)→Option (Bool × Unit):=fun (x0,()) =>
  bif decide (((List.length x0):Int) < 1) then some (false,()) else bif decide (((List.length x0):Int) > 8) then some (false,()) else L0 (x0,0)
def zfd:((List qx) × Unit)→Option (Bool × Unit):=zfc (zgx K0)
abbrev zn0:Fun:=⟨162,(ch [(.sl qC)]),(ch [.bool]),0,zfd⟩
theorem zx8:Sq zn0:=ml1 (d:=false) (S:=fun K=>zfc (zgx K)) Tryz.func162 (by kernel_rfl) (fun K=>tr1 (T:=zfc) (zvb K K) fun (x0,())=>by kernel_rfl) rfl
abbrev zbc:Type:=(List z7) × (List zy) × Int × Int
abbrev zn1:zbc→St:=fun (v0,v1,v8,v9)=>St.mk [(0,.dat (.sl yo) v0),(1,.dat (.sl zq) v1),(8,.dat tI v8),(9,.dat tI v9)] []
abbrev vt:Type:=(List z7) × (List zy) × Int
abbrev ziM:vt→St:=fun (v0,v1,v8)=>St.mk [(0,.dat (.sl yo) v0),(1,.dat (.sl zq) v1),(8,.dat tI v8)] []
abbrev zbd:Type:=(List z7) × (List zy) × Int × Int
abbrev zx9:zbd→St:=fun (v0,v1,v2,v7)=>St.mk [(0,.dat (.sl yo) v0),(1,.dat (.sl zq) v1),(2,.dat tI v2),(7,.dat tI v7)] []
def yL (k1:vt→Option (Bool × Unit)) (k2:zbc→Option (Bool × Unit)):zbc→Option (Bool × Unit):=fun (v0,v1,v8,v9) =>
  bif decide (v9 < 64) then inR v8 ((List.length v1):Int) (Option.bind (zfJ (ix je v1 v8,v9,())) fun q4=>bif q4.1 then Option.bind (zqf (v0,v9,())) fun q5=>bif q5.1 then k2 (v0,v1,v8,wI (v9 + 1)) else some (false,()) else k2 (v0,v1,v8,wI (v9 + 1))) else k1 (v0,v1,wI (v8 + 1))
abbrev ziN (K:Nat) (k1:vt→Option (Bool × Unit)):zbc→Option (Bool × Unit):=zg (fun k2=>yL k1 k2) K
theorem zya (K:Nat) (n1:Nat):∀ n,evV Es1 K Tryz.f163 0 (ch [.bool]) [1,1,1,0,1,0,0,1,0,0,1,0] [n1] zn1 n = zg (fun k2=>yL (evV Es1 K Tryz.f163 0 (ch [.bool]) [1,1,1,0,1,0] [] ziM n1) k2) n:=zp fun n2 (v0,v1,v8,v9)=>by kernel_rfl
def zbe (L2:zbc→Option (Bool × Unit)) (k1:vt→Option (Bool × Unit)):vt→Option (Bool × Unit):=fun (v0,v1,v8) =>
  bif decide (v8 < ((List.length v1):Int)) then L2 (v0,v1,v8,0) else some (true,())
abbrev zfe (K:Nat):vt→Option (Bool × Unit):=zg (fun k1=>zbe (ziN K k1) k1) K
theorem zyb (K:Nat):∀ n,evV Es1 K Tryz.f163 0 (ch [.bool]) [1,1,1,0,1,0] [] ziM n = zg (fun k1=>zbe (ziN K k1) k1) n:=qB (B:=fun L2 k1=>zbe L2 k1) (V1:=fun n1=>evV Es1 K Tryz.f163 0 (ch [.bool]) [1,1,1,0,1,0,0,1,0,0,1,0] [n1] zn1 K) (W1:=fun k1=>(ziN K k1)) (fun n1=>zya K n1 K) fun n1 (v0,v1,v8)=>by kernel_rfl
def zbf (L1:vt→Option (Bool × Unit)) (k0:zbd→Option (Bool × Unit)):zbd→Option (Bool × Unit):=fun (v0,v1,v2,v7) =>
  bif decide (v7 < ((List.length v0):Int)) then inR v7 ((List.length v0):Int) (bif decide ((ix qF v0 v7).1 < 0) then some (false,()) else inR v7 ((List.length v0):Int) (bif decide ((ix qF v0 v7).1 > 63) then some (false,()) else inR v7 ((List.length v0):Int) (bif decide ((ix qF v0 v7).2.1 < 0) then some (false,()) else inR v7 ((List.length v0):Int) (bif decide ((ix qF v0 v7).2.1 ≥ v2) then some (false,()) else bif decide (v7 > 0) then inR (wI (v7 - 1)) ((List.length v0):Int) (inR v7 ((List.length v0):Int) (bif decide ((List.getD v0 (Int.toNat (wI (v7 - 1))) (ze yo)).1 ≥ (ix qF v0 v7).1) then some (false,()) else inR v7 ((List.length v0):Int) (Option.bind (zgt ((ix qF v0 v7).1,())) fun q0=>Option.bind (zig (v1,q0.1,())) fun q1=>bif decide (q1.1 < 0) then some (false,()) else k0 (v0,v1,v2,wI (v7 + 1))))) else inR v7 ((List.length v0):Int) (Option.bind (zgt ((ix qF v0 v7).1,())) fun q2=>Option.bind (zig (v1,q2.1,())) fun q3=>bif decide (q3.1 < 0) then some (false,()) else k0 (v0,v1,v2,wI (v7 + 1))))))) else L1 (v0,v1,0)
abbrev ziO (K:Nat):zbd→Option (Bool × Unit):=zg (fun k0=>zbf (zfe K) k0) K
theorem zyc (K:Nat):∀ n,evV Es1 K Tryz.f163 0 (ch [.bool]) [1,1,0,1,0] [] zx9 n = zg (fun k0=>zbf (zfe K) k0) n:=qB (B:=fun L1 k0=>zbf L1 k0) (V1:=fun n0=>evV Es1 K Tryz.f163 0 (ch [.bool]) [1,1,1,0,1,0] [] ziM K) (W1:=fun k0=>(zfe K)) (fun n0=>zyb K K) fun n0 (v0,v1,v2,v7)=>by kernel_rfl
def zg3 (L0:zbd→Option (Bool × Unit)):((List z7) × ((List zy) × (Int × Unit)))→Option (Bool × Unit):=fun (x0,x1,x2,()) =>
  bif decide (((List.length x0):Int) > 8) then some (false,()) else L0 (x0,x1,x2,0)
def zg4:((List z7) × (List zy) × Int × Unit)→Option (Bool × Unit):=zg3 (ziO K0)
abbrev zrc:Fun:=⟨163,(ch [(.sl yo),(.sl zq),tI]),(ch [.bool]),0,zg4⟩
theorem zBX:Sq zrc:=ml1 (d:=false) (S:=fun K=>zg3 (ziO K)) Tryz.func163 (by kernel_rfl) (fun K=>tr1 (T:=zg3) (zyc K K) fun (x0,x1,x2,())=>by kernel_rfl) rfl
abbrev zbg:Type:=(List zaw) × Int × Int
abbrev zyd:zbg→St:=fun (v0,v3,v4)=>St.mk [(0,.dat (.sl zb3) v0),(3,.dat tU v3),(4,.dat tI v4)] []
def yM (k0:zbg→Option (Bool × Unit)):zbg→Option (Bool × Unit):=fun (v0,v3,v4) =>
  bif decide (v4 < ((List.length v0):Int)) then inR v4 ((List.length v0):Int) (Option.bind (yg ((ix qe v0 v4).1,())) fun q0=>bif q0.1 then Option.bind (yg ((ix qe v0 v4).2.1,())) fun q1=>bif q1.1 then Option.bind (yg ((ix qe v0 v4).2.2.1,())) fun q2=>bif q2.1 then Option.bind (yg ((ix qe v0 v4).2.2.2.1,())) fun q3=>bif q3.1 then Option.bind (yg ((ix qe v0 v4).2.2.2.2.1,())) fun q4=>bif q4.1 then bif decide ((ix qe v0 v4).2.2.2.2.2.1 > v3) then some (false,()) else k0 (v0,wU (v3 - (ix qe v0 v4).2.2.2.2.2.1),wI (v4 + 1)) else some (false,()) else some (false,()) else some (false,()) else some (false,()) else some (false,())) else bif decide (((List.length v0):Int) > 0) then bif decide (0 < ((List.length v0):Int)) then bif decide ((ix qe v0 0).1 > 0) then some (true,()) else some (false,()) else none else some (false,())
abbrev zn2 (K:Nat):zbg→Option (Bool × Unit):=zg yM K
theorem zye (K:Nat):∀ n,evV Es1 K Tryz.f164 0 (ch [.bool]) [1,1,0,1,0] [] zyd n = zg yM n:=zp fun n0 (v0,v3,v4)=>by kernel_rfl
def zk2 (L0:zbg→Option (Bool × Unit)):((List zaw) × Unit)→Option (Bool × Unit):=fun (x0,()) =>
  L0 (x0,4611686018427387904,0)
def zk3:((List zaw) × Unit)→Option (Bool × Unit):=zk2 (zn2 K0)
abbrev zrd:Fun:=⟨164,(ch [(.sl zb3)]),(ch [.bool]),0,zk3⟩
theorem zBY:Sq zrd:=ml1 (d:=false) (S:=fun K=>zk2 (zn2 K)) Tryz.func164 (by kernel_rfl) (fun K=>tr1 (T:=zk2) (zye K K) fun (x0,())=>by kernel_rfl) rfl
def zgy:(Int × (Int × (Int × Unit)))→Option (Int × (Int × Unit)):=fun (x0,x1,x2,()) =>
  bif decide (x0 < 1) then some (0,1,()) else bif decide (x0 > 2) then some (0,1,()) else bif x1 == 0 then some (0,1,()) else bif x2 == 0 then some (0,1,()) else Option.bind (zij (x1,x2,())) fun q0=>bif q0.2.1 == 0 then bif x0 == 2 then some (x1,q0.2.1,()) else some (q0.1,q0.2.1,()) else some (q0.1,q0.2.1,())
abbrev zvc:Fun:=⟨290,(ch [tI,tU,tU]),(ch [tU,tI]),0,zgy⟩
theorem zGx:Sq zvc:=ms1 (d:=false) (K:=0) Tryz.func290 (by kernel_rfl) (funext fun (x0,x1,x2,())=>by kernel_rfl)
abbrev zcn:Type:=(List qS) × Int
abbrev zz1:zcn→St:=fun (v0,v3)=>St.mk [(0,.dat (.sl qk) v0),(3,.dat tI v3)] []
def zco (k0:zcn→Option (Bool × Unit)):zcn→Option (Bool × Unit):=fun (v0,v3) =>
  bif decide (v3 < ((List.length v0):Int)) then inR v3 ((List.length v0):Int) (bif (ix zgS v0 v3).1 then inR v3 ((List.length v0):Int) (Option.bind (zB ((ix zgS v0 v3).2.1,())) fun q0=>bif q0.1 then inR v3 ((List.length v0):Int) (bif (ix zgS v0 v3).1 then k0 (v0,wI (v3 + 1)) else inR v3 ((List.length v0):Int) (bif !ByteArray.toList (ix zgS v0 v3).2.1 == ByteArray.toList (ByteArray.mk #[]) then some (false,()) else k0 (v0,wI (v3 + 1)))) else some (false,())) else inR v3 ((List.length v0):Int) (Option.bind (zB ((ix zgS v0 v3).2.1,())) fun q1=>bif q1.1 then some (false,()) else inR v3 ((List.length v0):Int) (bif (ix zgS v0 v3).1 then k0 (v0,wI (v3 + 1)) else inR v3 ((List.length v0):Int) (bif !ByteArray.toList (ix zgS v0 v3).2.1 == ByteArray.toList (ByteArray.mk #[]) then some (false,()) else k0 (v0,wI (v3 + 1)))))) else some (true,())
abbrev zpd (K:Nat):zcn→Option (Bool × Unit):=zg zco K
theorem zz2 (K:Nat):∀ n,evV Es1 K Tryz.f169 0 (ch [.bool]) [1,0,1,0] [] zz1 n = zg zco n:=zp fun n0 (v0,v3)=>by kernel_rfl
def zl7 (L0:zcn→Option (Bool × Unit)):((List qS) × Unit)→Option (Bool × Unit):=fun (x0,()) =>
  L0 (x0,0)
def zl8:((List qS) × Unit)→Option (Bool × Unit):=zl7 (zpd K0)
abbrev zs2:Fun:=⟨169,(ch [(.sl qk)]),(ch [.bool]),0,zl8⟩
theorem zDR:Sq zs2:=ml1 (d:=false) (S:=fun K=>zl7 (zpd K)) Tryz.func169 (by kernel_rfl) (fun K=>tr1 (T:=zl7) (zz2 K K) fun (x0,())=>by kernel_rfl) rfl
abbrev zcp:Type:=(List z9) × Int × Int × z9
abbrev zpe:zcp→St:=fun (v0,v3,v5,o0)=>St.mk [(0,.dat (.sl zT) v0),(3,.dat tI v3),(4,.bp 0 []),(5,.dat tI v5)] [.bx (.dat zT o0) false]
abbrev vW:Type:=(List z9) × Int
abbrev zpf:vW→St:=fun (v0,v3)=>St.mk [(0,.dat (.sl zT) v0),(3,.dat tI v3)] []
def zcq (k0:vW→Option (Bool × Unit)) (k1:zcp→Option (Bool × Unit)):zcp→Option (Bool × Unit):=fun (v0,v3,v5,o0) =>
  bif decide (v5 < v3) then bif o0.1 then inR v5 ((List.length v0):Int) (bif (ix qh v0 v5).1 then inR v5 ((List.length v0):Int) (bif eqI zM (ix qh v0 v5).2.1 o0.2.1 then inR v5 ((List.length v0):Int) (bif (ix qh v0 v5).2.2.2.1 == o0.2.2.2.1 then some (false,()) else k1 (v0,v3,wI (v5 + 1),o0)) else k1 (v0,v3,wI (v5 + 1),o0)) else k1 (v0,v3,wI (v5 + 1),o0)) else k1 (v0,v3,wI (v5 + 1),o0) else k0 (v0,wI (v3 + 1))
abbrev zcr (K:Nat) (k0:vW→Option (Bool × Unit)):zcp→Option (Bool × Unit):=zg (fun k1=>zcq k0 k1) K
theorem zz3 (K:Nat) (n0:Nat):∀ n,evV Es1 K Tryz.f170 0 (ch [.bool]) [1,0,1,0,0,1,0,0,1,1,1,0] [n0] zpe n = zg (fun k1=>zcq (evV Es1 K Tryz.f170 0 (ch [.bool]) [1,0,1,0] [] zpf n0) k1) n:=zp fun n1 (v0,v3,v5,o0)=>by kernel_rfl
def zac (L1:zcp→Option (Bool × Unit)) (k0:vW→Option (Bool × Unit)):vW→Option (Bool × Unit):=fun (v0,v3) =>
  bif decide (v3 < ((List.length v0):Int)) then inR v3 ((List.length v0):Int) (bif (ix qh v0 v3).1 then bif (ix qh v0 v3).1 then Option.bind (qH ((ix qh v0 v3).2.1,())) fun q0=>bif q0.1 then Option.bind (qH ((ix qh v0 v3).2.2.1,())) fun q1=>bif q1.1 then bif decide ((ix qh v0 v3).2.2.2.1 < 0) then some (false,()) else bif decide ((ix qh v0 v3).2.2.2.1 > 5) then some (false,()) else L1 (v0,v3,0,ix qh v0 v3) else some (false,()) else some (false,()) else L1 (v0,v3,0,ix qh v0 v3) else bif !eqI zT (ix qh v0 v3) (ze zT) then some (false,()) else bif (ix qh v0 v3).1 then Option.bind (qH ((ix qh v0 v3).2.1,())) fun q2=>bif q2.1 then Option.bind (qH ((ix qh v0 v3).2.2.1,())) fun q3=>bif q3.1 then bif decide ((ix qh v0 v3).2.2.2.1 < 0) then some (false,()) else bif decide ((ix qh v0 v3).2.2.2.1 > 5) then some (false,()) else L1 (v0,v3,0,ix qh v0 v3) else some (false,()) else some (false,()) else L1 (v0,v3,0,ix qh v0 v3)) else some (true,())
abbrev zpg (K:Nat):vW→Option (Bool × Unit):=zg (fun k0=>zac (zcr K k0) k0) K
theorem zz4 (K:Nat):∀ n,evV Es1 K Tryz.f170 0 (ch [.bool]) [1,0,1,0] [] zpf n = zg (fun k0=>zac (zcr K k0) k0) n:=qB (B:=fun L1 k0=>zac L1 k0) (V1:=fun n0=>evV Es1 K Tryz.f170 0 (ch [.bool]) [1,0,1,0,0,1,0,0,1,1,1,0] [n0] zpe K) (W1:=fun k0=>(zcr K k0)) (fun n0=>zz3 K n0 K) fun n0 (v0,v3)=>by kernel_rfl
def zl9 (L0:vW→Option (Bool × Unit)):((List z9) × Unit)→Option (Bool × Unit):=fun (x0,()) =>
  L0 (x0,0)
def zma:((List z9) × Unit)→Option (Bool × Unit):=zl9 (zpg K0)
abbrev zs3:Fun:=⟨170,(ch [(.sl zT)]),(ch [.bool]),0,zma⟩
theorem zDS:Sq zs3:=ml1 (d:=false) (S:=fun K=>zl9 (zpg K)) Tryz.func170 (by kernel_rfl) (fun K=>tr1 (T:=zl9) (zz4 K K) fun (x0,())=>by kernel_rfl) rfl
abbrev zcs:Type:=(List qa) × Int
abbrev zz5:zcs→St:=fun (v0,v3)=>St.mk [(0,.dat (.sl zG) v0),(3,.dat tI v3)] []
def zct (k0:zcs→Option (Bool × Unit)):zcs→Option (Bool × Unit):=fun (v0,v3) =>
  bif decide (v3 < ((List.length v0):Int)) then inR v3 ((List.length v0):Int) (bif (ix zz v0 v3).1 then bif (ix zz v0 v3).2.2.1 == 1 then Option.bind (zhS ((ix zz v0 v3).2.2.2.1,())) fun q0=>bif q0.1 then bif eqI zM (ix zz v0 v3).2.2.2.2.1 (ze zM) then bif (ix zz v0 v3).2.2.1 == 2 then bif (ix zz v0 v3).2.2.2.1 == 0 then Option.bind (qH ((ix zz v0 v3).2.2.2.2.1,())) fun q1=>bif q1.1 then Option.bind (zB ((ix zz v0 v3).2.1,())) fun q2=>bif q2.1 then k0 (v0,wI (v3 + 1)) else some (false,()) else Option.bind (zB ((ix zz v0 v3).2.1,())) fun q3=>bif q3.1 then k0 (v0,wI (v3 + 1)) else some (false,()) else Option.bind (zB ((ix zz v0 v3).2.1,())) fun q4=>bif q4.1 then k0 (v0,wI (v3 + 1)) else some (false,()) else Option.bind (zB ((ix zz v0 v3).2.1,())) fun q5=>bif q5.1 then k0 (v0,wI (v3 + 1)) else some (false,()) else bif (ix zz v0 v3).2.2.1 == 2 then bif (ix zz v0 v3).2.2.2.1 == 0 then Option.bind (qH ((ix zz v0 v3).2.2.2.2.1,())) fun q6=>bif q6.1 then Option.bind (zB ((ix zz v0 v3).2.1,())) fun q7=>bif q7.1 then k0 (v0,wI (v3 + 1)) else some (false,()) else Option.bind (zB ((ix zz v0 v3).2.1,())) fun q8=>bif q8.1 then some (false,()) else some (false,()) else Option.bind (zB ((ix zz v0 v3).2.1,())) fun q9=>bif q9.1 then some (false,()) else some (false,()) else Option.bind (zB ((ix zz v0 v3).2.1,())) fun q10=>bif q10.1 then some (false,()) else some (false,()) else bif (ix zz v0 v3).2.2.1 == 2 then bif (ix zz v0 v3).2.2.2.1 == 0 then Option.bind (qH ((ix zz v0 v3).2.2.2.2.1,())) fun q11=>bif q11.1 then Option.bind (zB ((ix zz v0 v3).2.1,())) fun q12=>bif q12.1 then k0 (v0,wI (v3 + 1)) else some (false,()) else Option.bind (zB ((ix zz v0 v3).2.1,())) fun q13=>bif q13.1 then some (false,()) else some (false,()) else Option.bind (zB ((ix zz v0 v3).2.1,())) fun q14=>bif q14.1 then some (false,()) else some (false,()) else Option.bind (zB ((ix zz v0 v3).2.1,())) fun q15=>bif q15.1 then some (false,()) else some (false,()) else bif (ix zz v0 v3).2.2.1 == 3 then Option.bind (zhS ((ix zz v0 v3).2.2.2.1,())) fun q16=>bif q16.1 then bif eqI zM (ix zz v0 v3).2.2.2.2.1 (ze zM) then bif (ix zz v0 v3).2.2.1 == 2 then bif (ix zz v0 v3).2.2.2.1 == 0 then Option.bind (qH ((ix zz v0 v3).2.2.2.2.1,())) fun q17=>bif q17.1 then Option.bind (zB ((ix zz v0 v3).2.1,())) fun q18=>bif q18.1 then k0 (v0,wI (v3 + 1)) else some (false,()) else Option.bind (zB ((ix zz v0 v3).2.1,())) fun q19=>bif q19.1 then k0 (v0,wI (v3 + 1)) else some (false,()) else Option.bind (zB ((ix zz v0 v3).2.1,())) fun q20=>bif q20.1 then k0 (v0,wI (v3 + 1)) else some (false,()) else Option.bind (zB ((ix zz v0 v3).2.1,())) fun q21=>bif q21.1 then k0 (v0,wI (v3 + 1)) else some (false,()) else bif (ix zz v0 v3).2.2.1 == 2 then bif (ix zz v0 v3).2.2.2.1 == 0 then Option.bind (qH ((ix zz v0 v3).2.2.2.2.1,())) fun q22=>bif q22.1 then Option.bind (zB ((ix zz v0 v3).2.1,())) fun q23=>bif q23.1 then k0 (v0,wI (v3 + 1)) else some (false,()) else Option.bind (zB ((ix zz v0 v3).2.1,())) fun q24=>bif q24.1 then some (false,()) else some (false,()) else Option.bind (zB ((ix zz v0 v3).2.1,())) fun q25=>bif q25.1 then some (false,()) else some (false,()) else Option.bind (zB ((ix zz v0 v3).2.1,())) fun q26=>bif q26.1 then some (false,()) else some (false,()) else bif (ix zz v0 v3).2.2.1 == 2 then bif (ix zz v0 v3).2.2.2.1 == 0 then Option.bind (qH ((ix zz v0 v3).2.2.2.2.1,())) fun q27=>bif q27.1 then Option.bind (zB ((ix zz v0 v3).2.1,())) fun q28=>bif q28.1 then k0 (v0,wI (v3 + 1)) else some (false,()) else Option.bind (zB ((ix zz v0 v3).2.1,())) fun q29=>bif q29.1 then some (false,()) else some (false,()) else Option.bind (zB ((ix zz v0 v3).2.1,())) fun q30=>bif q30.1 then some (false,()) else some (false,()) else Option.bind (zB ((ix zz v0 v3).2.1,())) fun q31=>bif q31.1 then some (false,()) else some (false,()) else bif (ix zz v0 v3).2.2.1 == 2 then bif (ix zz v0 v3).2.2.2.1 == 0 then Option.bind (qH ((ix zz v0 v3).2.2.2.2.1,())) fun q32=>bif q32.1 then Option.bind (zB ((ix zz v0 v3).2.1,())) fun q33=>bif q33.1 then k0 (v0,wI (v3 + 1)) else some (false,()) else Option.bind (zB ((ix zz v0 v3).2.1,())) fun q34=>bif q34.1 then some (false,()) else some (false,()) else Option.bind (zB ((ix zz v0 v3).2.1,())) fun q35=>bif q35.1 then some (false,()) else some (false,()) else Option.bind (zB ((ix zz v0 v3).2.1,())) fun q36=>bif q36.1 then some (false,()) else some (false,()) else bif !eqI zG (ix zz v0 v3) (ze zG) then some (false,()) else k0 (v0,wI (v3 + 1))) else some (true,())
abbrev zph (K:Nat):zcs→Option (Bool × Unit):=zg zct K
theorem zz6 (K:Nat):∀ n,evV Es1 K Tryz.f171 0 (ch [.bool]) [1,0,1,0] [] zz5 n = zg zct n:=zp fun n0 (v0,v3)=>by kernel_rfl
def zmb (L0:zcs→Option (Bool × Unit)):((List qa) × Unit)→Option (Bool × Unit):=fun (x0,()) =>
  L0 (x0,0)
def zmc:((List qa) × Unit)→Option (Bool × Unit):=zmb (zph K0)
abbrev zs4:Fun:=⟨171,(ch [(.sl zG)]),(ch [.bool]),0,zmc⟩
theorem zDT:Sq zs4:=ml1 (d:=false) (S:=fun K=>zmb (zph K)) Tryz.func171 (by kernel_rfl) (fun K=>tr1 (T:=zmb) (zz6 K K) fun (x0,())=>by kernel_rfl) rfl
abbrev zej:Type:=ByteArray × Int
abbrev zBZ:zej→St:=fun (v0,v3)=>St.mk [(0,.dat .str v0),(3,.dat tI v3)] []
def zg5 (k0:zej→Option (Bool × Unit)):zej→Option (Bool × Unit):=fun (v0,v3) =>
  bif decide (v3 < (↑(ByteArray.size v0):Int)) then inR v3 (↑(ByteArray.size v0):Int) (Option.bind (zls ((↑(UInt8.toNat (List.getD (Array.toList (ByteArray.data v0)) (Int.toNat v3) 0)):Int),())) fun q0=>bif q0.1 then k0 (v0,wI (v3 + 1)) else some (false,())) else some (true,())
abbrev zk4 (K:Nat):zej→Option (Bool × Unit):=zg zg5 K
theorem zB0 (K:Nat):∀ n,evV Es1 K Tryz.f249 0 (ch [.bool]) [1,1,0,1,0] [] zBZ n = zg zg5 n:=zp fun n0 (v0,v3)=>by kernel_rfl
def zjN (L0:zej→Option (Bool × Unit)):(ByteArray × Unit)→Option (Bool × Unit):=fun (x0,()) =>
  bif (↑(ByteArray.size x0):Int) == 0 then some (false,()) else bif decide ((↑(ByteArray.size x0):Int) > 40) then some (false,()) else bif decide (0 < (↑(ByteArray.size x0):Int)) then bif (↑(UInt8.toNat (List.getD (Array.toList (ByteArray.data x0)) (Int.toNat 0) 0)):Int) == 32 then some (false,()) else inR (wI ((↑(ByteArray.size x0):Int) - 1)) (↑(ByteArray.size x0):Int) (bif (↑(UInt8.toNat (List.getD (Array.toList (ByteArray.data x0)) (Int.toNat (wI ((↑(ByteArray.size x0):Int) - 1))) 0)):Int) == 32 then some (false,()) else L0 (x0,0)) else none
def zjO:(ByteArray × Unit)→Option (Bool × Unit):=zjN (zk4 K0)
abbrev zvd:Fun:=⟨249,(ch [.str]),(ch [.bool]),0,zjO⟩
theorem zGy:Sq zvd:=ml1 (d:=false) (S:=fun K=>zjN (zk4 K)) Tryz.func249 (by kernel_rfl) (fun K=>tr1 (T:=zjN) (zB0 K K) fun (x0,())=>by kernel_rfl) rfl
def zjP:(zt × Unit)→Option (Bool × Unit):=fun (x0,()) =>
  bif decide (x0.2.2.2.1.2.1 > 0) then Option.bind (jp (x0.2.1,())) fun q0=>bif q0.1 then Option.bind (jp (x0.2.2.1,())) fun q1=>bif q1.1 then bif x0.2.1 != x0.2.2.1 then Option.bind (jq (x0.2.2.2.1,())) fun q2=>bif q2.1 then Option.bind (jq (x0.2.2.2.2.1,())) fun q3=>bif q3.1 then some (true,()) else some (false,()) else some (false,()) else some (false,()) else some (false,()) else some (false,()) else bif decide (x0.2.2.2.1.2.2.1 ≥ 0) then Option.bind (jp (x0.2.1,())) fun q4=>bif q4.1 then Option.bind (jp (x0.2.2.1,())) fun q5=>bif q5.1 then bif x0.2.1 != x0.2.2.1 then Option.bind (jq (x0.2.2.2.1,())) fun q6=>bif q6.1 then Option.bind (jq (x0.2.2.2.2.1,())) fun q7=>bif q7.1 then some (true,()) else some (false,()) else some (false,()) else some (false,()) else some (false,()) else some (false,()) else bif decide (x0.2.2.2.2.1.2.1 > 0) then Option.bind (jp (x0.2.1,())) fun q8=>bif q8.1 then Option.bind (jp (x0.2.2.1,())) fun q9=>bif q9.1 then bif x0.2.1 != x0.2.2.1 then Option.bind (jq (x0.2.2.2.1,())) fun q10=>bif q10.1 then Option.bind (jq (x0.2.2.2.2.1,())) fun q11=>bif q11.1 then some (true,()) else some (false,()) else some (false,()) else some (false,()) else some (false,()) else some (false,()) else bif decide (x0.2.2.2.2.1.2.2.1 ≥ 0) then Option.bind (jp (x0.2.1,())) fun q12=>bif q12.1 then Option.bind (jp (x0.2.2.1,())) fun q13=>bif q13.1 then bif x0.2.1 != x0.2.2.1 then Option.bind (jq (x0.2.2.2.1,())) fun q14=>bif q14.1 then Option.bind (jq (x0.2.2.2.2.1,())) fun q15=>bif q15.1 then some (true,()) else some (false,()) else some (false,()) else some (false,()) else some (false,()) else some (false,()) else Option.bind (jp (x0.2.1,())) fun q16=>bif q16.1 then Option.bind (jp (x0.2.2.1,())) fun q17=>bif q17.1 then bif x0.2.1 != x0.2.2.1 then Option.bind (jq (x0.2.2.2.1,())) fun q18=>bif q18.1 then Option.bind (jq (x0.2.2.2.2.1,())) fun q19=>bif q19.1 then some (false,()) else some (false,()) else some (false,()) else some (false,()) else some (false,()) else some (false,())
abbrev zve:Fun:=⟨250,(ch [zw]),(ch [.bool]),0,zjP⟩
theorem zGz:Sq zve:=ms1 (d:=false) (K:=0) Tryz.func250 (by kernel_rfl) (funext fun (x0,())=>by kernel_rfl)
abbrev zft:Type:=Int × zy × zy
abbrev zDU:zft→St:=fun (v5,o0,o1)=>St.mk [(2,.bp 0 []),(3,.bp 1 []),(5,.dat tI v5)] [.bx (.dat zq o0) false,.bx (.dat zq o1) false]
def zfu (k0:zft→Option (Bool × Unit)):zft→Option (Bool × Unit):=fun (v5,o0,o1) =>
  bif decide (v5 < 64) then Option.bind (zfJ (o0,v5,())) fun q0=>bif q0.1 then Option.bind (zfJ (o1,v5,())) fun q1=>bif q1.1 then k0 (wI (v5 + 1),o0,o1) else some (false,()) else k0 (wI (v5 + 1),o0,o1) else bif decide (o0.1 ≤ o1.1) then some (true,()) else some (false,())
abbrev zs5 (K:Nat):zft→Option (Bool × Unit):=zg zfu K
theorem zDV (K:Nat):∀ n,evV Es1 K Tryz.f96 0 (ch [.bool]) [1,0,1,0] [] zDU n = zg zfu n:=zp fun n0 (v5,o0,o1)=>by kernel_rfl
def zqm (L0:zft→Option (Bool × Unit)):(zy × (zy × Unit))→Option (Bool × Unit):=fun (x0,x1,()) =>
  L0 (0,x0,x1)
def zqn:(zy × zy × Unit)→Option (Bool × Unit):=zqm (zs5 K0)
abbrev zw1:Fun:=⟨96,(ch [zq,zq]),(ch [.bool]),0,zqn⟩
theorem zIu:Sq zw1:=ml1 (d:=false) (S:=fun K=>zqm (zs5 K)) Tryz.func96 (by kernel_rfl) (fun K=>tr1 (T:=zqm) (zDV K K) fun (x0,x1,())=>by kernel_rfl) rfl
def zjQ:(zf × (zl × (Int × Unit)))→Option (Bool × Unit):=fun (x0,x1,x2,()) =>
  inR x2 ((List.length x1.2.2.2.2.1):Int) (bif (ix zQ x1.2.2.2.2.1 x2).1 then Option.bind (jU (x0,(ix zQ x1.2.2.2.2.1 x2).2.1,())) fun q0=>bif q0.1 then Option.bind (jU (x0,(ix zQ x1.2.2.2.2.1 x2).2.2.1,())) fun q1=>bif q1.1 then bif decide ((ix zQ x1.2.2.2.2.1 x2).2.2.2.1.2.2.1 ≥ ((List.length x1.2.2.1):Int)) then some (false,()) else bif decide ((ix zQ x1.2.2.2.2.1 x2).2.2.2.2.1.2.2.1 ≥ ((List.length x1.2.2.1):Int)) then some (false,()) else bif decide ((ix zQ x1.2.2.2.2.1 x2).2.2.2.1.2.2.1 < 0) then some (true,()) else inR (ix zQ x1.2.2.2.2.1 x2).2.2.2.1.2.2.1 ((List.length x1.2.2.1):Int) (bif (List.getD x1.2.2.1 (Int.toNat (ix zQ x1.2.2.2.2.1 x2).2.2.2.1.2.2.1) (ze zG)).1 then bif (List.getD x1.2.2.1 (Int.toNat (ix zQ x1.2.2.2.2.1 x2).2.2.2.1.2.2.1) (ze zG)).2.2.1 == 3 then bif (List.getD x1.2.2.1 (Int.toNat (ix zQ x1.2.2.2.2.1 x2).2.2.2.1.2.2.1) (ze zG)).2.2.2.1 == x2 then some (true,()) else some (false,()) else some (false,()) else some (false,())) else some (false,()) else some (false,()) else some (true,()))
abbrev zvf:Fun:=⟨176,(ch [zu,zm,tI]),(ch [.bool]),0,zjQ⟩
theorem zGA:Sq zvf:=ms1 (d:=false) (K:=0) Tryz.func176 (by kernel_rfl) (funext fun (x0,x1,x2,())=>by kernel_rfl)
abbrev zek:Type:=(List zo) × Int × Int × Int
abbrev zB1:zek→St:=fun (v0,v1,v6,v7)=>St.mk [(0,.dat (.sl zr) v0),(1,.dat tI v1),(6,.dat tU v6),(7,.dat tI v7)] []
def zel (k0:zek→Option (Int × (Int × Unit))):zek→Option (Int × (Int × Unit)):=fun (v0,v1,v6,v7) =>
  bif decide (v7 < ((List.length v0):Int)) then inR v7 ((List.length v0):Int) (Option.bind (zik (ix zH v0 v7,v1,())) fun q0=>Option.bind (vl (v6,q0.1,())) fun q1=>bif q1.2.1 != 0 then some (0,q1.2.1,()) else k0 (v0,v1,q1.1,wI (v7 + 1))) else some (v6,0,())
abbrev zre (K:Nat):zek→Option (Int × (Int × Unit)):=zg zel K
theorem zB2 (K:Nat):∀ n,evV Es1 K Tryz.f177 0 (ch [tU,tI]) [1,1,1,0,1,0] [] zB1 n = zg zel n:=zp fun n0 (v0,v1,v6,v7)=>by kernel_rfl
def zjR (L0:zek→Option (Int × (Int × Unit))):((List zo) × (Int × Unit))→Option (Int × (Int × Unit)):=fun (x0,x1,()) =>
  bif decide (x1 < 0) then some (0,1,()) else bif decide (x1 > 3) then some (0,1,()) else L0 (x0,x1,0,0)
def zjS:((List zo) × Int × Unit)→Option (Int × Int × Unit):=zjR (zre K0)
abbrev zvg:Fun:=⟨177,(ch [(.sl zr),tI]),(ch [tU,tI]),0,zjS⟩
theorem zGB:Sq zvg:=ml1 (d:=false) (S:=fun K=>zjR (zre K)) Tryz.func177 (by kernel_rfl) (fun K=>tr1 (T:=zjR) (zB2 K K) fun (x0,x1,())=>by kernel_rfl) rfl
end
end Go.Proofs.YtlklokhlgcfcdaaGreatDoor
end
