import Derived.Test.YtgomalidoilgbaaGreatDoorMac
import Derived.Carry
import Derived.OpenShut
import Derived.Test.YtgomalidoilgbaaGreatDoorProg
set_option linter.unusedSimpArgs false
set_option linter.unusedVariables false
section
namespace Go.Ev
open Go.RowKit
section
variable {P:Program} {nt:Up} {F0 F G:FH} {w0 w:World} {st st':St} {m:MM} {a:Act} {E:Env} {v:AV} {u:Value}
def zp9 (ids:Nat→Option Nat) (h:List Obj):(b:Ty)→Nat→b.I→List AV→Prop
  | .pair (.sl σ) b,i,x,v :: vs=>(∃ id,v = .ow id ∧ ids i = some id ∧ atN h id = some (mkO σ (bif σ.deep then some (List.length x.1) else none) x.1)) ∧ zp9 ids h b (i + 1) x.2 vs
  | .pair a b,i,x,v :: vs=>v = .dat a x.1 ∧ zp9 ids h b (i + 1) x.2 vs
  | .unit,_,_,[]=>True
  | _,_,_,_=>False
theorem zp9.ids {ids ids':Nat→Option Nat} {h:List Obj}:∀ {b:Ty} {i:Nat} {x:b.I} {vs:List AV},(∀ f,i ≤ f→ids' f = ids f)→zp9 ids h b i x vs→zp9 ids' h b i x vs:=by
  intro b
  induction b with
  | unit=>intro i x vs _ ho; cases vs <;> exact ho
  | pair t b _ ihb =>
    intro i x vs hi ho
    cases vs with
    | nil=>cases t <;> exact ho.elim
    | cons v vs =>
      cases t with
      | sl σ =>
        obtain ⟨⟨id,h1,h2,h3⟩,h4⟩:=ho
        exact ⟨⟨id,h1,by rw [hi i (Nat.le_refl _)]; exact h2,h3⟩,ihb (fun f hf=>hi f (by omega)) h4⟩
      | _=>exact ⟨ho.1,ihb (fun f hf=>hi f (by omega)) ho.2⟩
  | _=>intro i x vs _ ho; cases vs <;> exact ho.elim
theorem zp9.heap {ids:Nat→Option Nat} {h h':List Obj}:∀ {b:Ty} {i:Nat} {x:b.I} {vs:List AV},(∀ f id,ids f = some id→atN h' id = atN h id)→zp9 ids h b i x vs→zp9 ids h' b i x vs:=by
  intro b
  induction b with
  | unit=>intro i x vs _ ho; cases vs <;> exact ho
  | pair t b _ ihb =>
    intro i x vs hi ho
    cases vs with
    | nil=>cases t <;> exact ho.elim
    | cons v vs =>
      cases t with
      | sl σ =>
        obtain ⟨⟨id,h1,h2,h3⟩,h4⟩:=ho
        exact ⟨⟨id,h1,h2,by rw [hi _ _ h2]; exact h3⟩,ihb hi h4⟩
      | _=>exact ⟨ho.1,ihb hi ho.2⟩
  | _=>intro i x vs _ ho; cases vs <;> exact ho.elim
theorem zLH {h h0 h1:List Obj} (hdr:∀ i τ xs k,atN h i = some (.drow τ xs k)→τ.deep = true) {t:Ty} {x:t.I} (hz:zxA h0 t v = some (x,h1)) (l:yZ h0 h) :
    (v = .dat t x ∧ t.dl = false ∧ h1 = h0) ∨ ∃ (σ:Ty) (xs:List σ.I) (id:Nat),(⟨t,x⟩:(τ:Ty) × τ.I) = ⟨.sl σ,xs⟩ ∧ v = .ow id ∧ atN h id = some (mkO σ (bif σ.deep then some (List.length xs) else none) xs) ∧ atN h0 id ≠ some .gone ∧ (∃ o,atN h0 id = some o) ∧ h1 = zk h0 id .gone:=by
  cases v with
  | dat τ y =>
    simp only [zxA] at hz
    obtain ⟨hdl,hz⟩:=qx hz
    split at hz
    · rename_i z hc
      cases hz
      obtain ⟨rfl,rfl⟩:=zR hc
      exact .inl ⟨rfl,hdl,rfl⟩
    · cases hz
  | ow id =>
    simp only [zxA] at hz
    right
    split at hz
    · rename_i τ xs ho
      obtain ⟨hd,hz⟩:=qx hz
      split at hz
      · rename_i z hc
        cases hz
        obtain ⟨e,rfl⟩:=zR hc
        subst e
        refine ⟨τ,xs,id,rfl,rfl,?_,(by rw [ho]; intro e; cases e),⟨_,ho⟩,rfl⟩
        rw [l.at ho (by intro e; cases e),hd]
        rfl
      · cases hz
    · rename_i τ xs n ho
      split at hz
      · rename_i z hc
        obtain ⟨hn,hz⟩:=zd hz
        cases hz
        obtain ⟨e,rfl⟩:=zR hc
        subst e
        have hat:=l.at ho (by intro e; cases e)
        refine ⟨τ,xs,id,rfl,rfl,?_,(by rw [ho]; intro e; cases e),⟨_,ho⟩,rfl⟩
        rw [hat,hdr _ _ _ _ hat,of_decide_eq_true hn]
        rfl
      · cases hz
    · cases hz
  | _=>cases hz
theorem zDc {h:List Obj} (hdr:∀ i τ xs k,atN h i = some (.drow τ xs k)→τ.deep = true):∀ {b:Ty} {vs:List AV} {x:b.I} {h0 h1:List Obj} (i:Nat),ownC b vs h0 = some (x,h1)→yZ h0 h →
    ∃ ids:Nat→Option Nat,zp9 ids h b i x vs ∧ yZ h1 h ∧ (∀ f id,ids f = some id→i ≤ f ∧ atN h0 id ≠ some .gone ∧ atN h1 id = some .gone ∧ ∃ σ k xs,atN h id = some (mkO σ k xs)) ∧ (∀ j,atN h0 j = some .gone→atN h1 j = some .gone) ∧
      ∀ f f' id,ids f = some id→ids f' = some id→f = f':=by
  intro b
  induction b with
  | unit =>
    intro vs x h0 h1 i hz l
    cases vs with
    | nil=>cases hz; exact ⟨fun _=>none,trivial,l,fun f id e=>(by cases e),fun _ h=>h,fun f f' id e=>(by cases e)⟩
    | cons _ _=>cases hz
  | pair t b _ ihb =>
    intro vs x h0 h1 i hz l
    cases vs with
    | nil=>cases hz
    | cons v vs =>
      simp only [ownC] at hz
      split at hz
      · rename_i y h2 hy
        split at hz
        · rename_i ys h3 hys
          cases hz
          rcases zLH hdr hy l with ⟨rfl,hdl,rfl⟩ | ⟨σ,xs,id,e,rfl,hat,hng,⟨o,ho⟩,rfl⟩
          · obtain ⟨ids,g1,g2,g3,g4,g5⟩:=ihb (i + 1) hys l
            refine ⟨ids,?_,g2,fun f id hf=>⟨by have:=(g3 f id hf).1; omega,(g3 f id hf).2⟩,g4,g5⟩
            cases t with
            | sl σ=>cases hdl
            | _=>exact ⟨rfl,g1⟩
          · cases e
            obtain ⟨ids,g1,g2,g3,g4,g5⟩:=ihb (i + 1) hys (l.gone ho)
            have hid:atN (zk h0 id .gone) id = some .gone:=yH ho
            have hids:∀ f,i + 1 ≤ f→(if f = i then some id else ids f) = ids f:=fun f hf=>by rw [if_neg (by omega)]
            refine ⟨fun f=>if f = i then some id else ids f,⟨⟨id,rfl,if_pos rfl,hat⟩,g1.ids hids⟩,g2,fun f id' hf=>?_,fun j hj=>?_,fun f f' id' hf hf'=>?_⟩
            · by_cases e:f = i
              · simp only [e,if_true,Option.some.injEq] at hf
                subst hf
                exact ⟨by omega,hng,g4 _ hid,σ,_,_,hat⟩
              · simp only [e,if_false] at hf
                obtain ⟨k1,k2,k3,k4⟩:=g3 f id' hf
                refine ⟨by omega,fun hg=>k2 ?_,k3,k4⟩
                by_cases e2:id = id'
                · rw [← e2]; exact hid
                · rw [qu e2]; exact hg
            · refine g4 j ?_
              by_cases e2:id = j
              · rw [← e2]; exact hid
              · rw [qu e2]; exact hj
            · by_cases e:f = i <;> by_cases e':f' = i
              · omega
              · simp only [e,if_true,Option.some.injEq] at hf
                simp only [e',if_false] at hf'
                subst hf
                exact absurd hid (g3 f' _ hf').2.1
              · simp only [e,if_false] at hf
                simp only [e',if_true,Option.some.injEq] at hf'
                subst hf'
                exact absurd hid (g3 f _ hf).2.1
              · simp only [e,if_false] at hf
                simp only [e',if_false] at hf'
                exact g5 f f' id' hf hf'
        · cases hz
      · cases hz
  | _=>intro vs x h0 h1 i hz l; cases vs <;> cases hz
def MM.ofI (m:MM) (ids:Nat→Option Nat):Nat→Nat→List Nat→Option (Nat × Nat):=fun f=>match ids f with | some id=>m.d id | none=>fun _ _=>none
theorem MM.ofI_some {m:MM} {ids:Nat→Option Nat} {f j:Nat} {p:List Nat} {b:Nat × Nat} (h:m.ofI ids f j p = some b):∃ id,ids f = some id ∧ m.d id j p = some b:=by
  unfold MM.ofI at h
  cases hi:ids f with
  | none=>rw [hi] at h; cases h
  | some id=>rw [hi] at h; exact ⟨id,rfl,h⟩
theorem zJz (h:Rel P nt F0 w0 st m F a w) {ids:Nat→Option Nat}:∀ {b:Ty} {i:Nat} {x:b.I} {vs:List AV} {cs:List Value},zp9 ids st.h b i x vs→z4 P st.h m F b vs cs→zji P F w (fun f=>(ids f).bind m) (m.ofI ids) b i x cs:=by
  intro b
  induction b with
  | unit =>
    intro i x vs cs ho hv
    cases vs with
    | nil=>exact hv
    | cons _ _=>exact hv.elim
  | pair t b _ ihb =>
    intro i x vs cs ho hv
    cases vs with
    | nil=>exact hv.elim
    | cons v vs =>
      obtain ⟨c,d,rfl,h1,h2⟩:=hv
      cases t with
      | sl σ =>
        obtain ⟨⟨id,rfl,hi,hat⟩,h4⟩:=ho
        obtain ⟨σ',u,e1,rfl,hs,_⟩:=h1
        cases e1
        refine ⟨u,d,rfl,⟨fun j p bk n hp=>?_,?_⟩,ihb h4 h2⟩
        · obtain ⟨id',hi',hp⟩:=MM.ofI_some hp
          rw [hi] at hi'; cases hi'
          obtain ⟨⟨o,g1,g2⟩,_⟩:=h.dok _ _ _ _ _ hp
          rw [hat] at g1
          cases g1
          cases hd:σ.deep with
          | false=>rw [hd] at g2; cases g2
          | true =>
            rw [hd] at g2
            simp only [cond_true,mkO,Obj.deepAt,decide_eq_true_eq] at g2
            exact ⟨rfl,g2⟩
        · have hq:=zK.owAt hat (zqH _ _ _) hs
          show match (ids i).bind m with | some (b,n)=>_ | none=>_
          rw [hi,Option.bind_some]
          cases hmi:m id with
          | none =>
            rw [hmi] at hq
            exact ⟨zFG (h.obs _ _ hat) hmi,hq.2⟩
          | some bn =>
            obtain ⟨bk,n⟩:=bn
            rw [hmi] at hq
            obtain ⟨cap,g1,g2,g3⟩:=hq
            refine ⟨cap,g1,g2,g3,?_⟩
            have:=zse (h.obs _ _ hat) hmi
            have hd:m.ofI ids i = m.d id:=by unfold MM.ofI; rw [hi]
            rw [hd]
            exact this
      | _ =>
        obtain ⟨rfl,h4⟩:=ho
        exact ⟨c,d,rfl,h1.2,ihb h4 h2⟩
  | _=>intro i x vs cs ho; cases vs <;> exact ho.elim
theorem zJA (h:Rel P nt F0 w0 st m F a w) {ids:Nat→Option Nat} (hat:∀ f id,ids f = some id→∃ σ k xs,atN st.h id = some (mkO σ k xs)) (hinj:∀ f f' id,ids f = some id→ids f' = some id→f = f'):zFt F w w0.heap.size (fun f=>(ids f).bind m) (m.ofI ids):=by
  refine ⟨fun f b n hf=>?_,fun f j p b n hp=>?_,fun f f' b n n' hf hf'=>?_,fun f j p b n f' j' p' n' hp hp'=>?_,fun f b n f' j p n' hf hp=>?_⟩
  · obtain ⟨id,hi,hf⟩:=Option.bind_eq_some_iff.1 hf
    obtain ⟨σ,k,xs,ho⟩:=hat f id hi
    obtain ⟨el,cs,c,d,_,_,_,hF,_⟩:=zse (h.obs _ _ ho) hf
    have:=h.rng _ _ _ hf
    exact ⟨this.2.1,this.2.2,hF⟩
  · obtain ⟨id,hi,hp⟩:=MM.ofI_some hp
    have:=h.dok _ _ _ _ _ hp
    exact ⟨this.2.1,this.2.2.1,this.2.2.2.1⟩
  · obtain ⟨id,hi,hf⟩:=Option.bind_eq_some_iff.1 hf
    obtain ⟨id',hi',hf'⟩:=Option.bind_eq_some_iff.1 hf'
    have:=h.inj _ _ _ _ _ hf hf'
    subst this
    exact hinj _ _ _ hi hi'
  · obtain ⟨id,hi,hp⟩:=MM.ofI_some hp
    obtain ⟨id',hi',hp'⟩:=MM.ofI_some hp'
    obtain ⟨rfl,e2,e3⟩:=h.din _ _ _ _ _ _ _ _ _ hp hp'
    exact ⟨hinj _ _ _ hi hi',e2,e3⟩
  · obtain ⟨id,hi,hf⟩:=Option.bind_eq_some_iff.1 hf
    obtain ⟨id',hi',hp⟩:=MM.ofI_some hp
    exact (h.dok _ _ _ _ _ hp).2.2.2.2 _ _ hf
theorem zMB {ρ:Type} {h:List Obj} {σ:Ty} {v:AV} {k:σ.I→List Obj→Option ρ}:zJN h σ v k = (zxA h σ v).bind fun p=>k p.1 p.2:=by
  unfold zJN zxA
  cases v with
  | dat τ x =>
    simp only
    cases τ.dl with
    | true=>rfl
    | false=>simp only [cond_false]; cases qR τ σ x <;> rfl
  | ow id =>
    simp only
    cases atN h id with
    | none=>rfl
    | some o =>
      cases o with
      | row τ xs f =>
        cases f with
        | true=>rfl
        | false =>
          simp only
          cases τ.deep with
          | true=>rfl
          | false=>simp only [cond_false]; cases qR (.sl τ) σ xs <;> rfl
      | drow τ xs n =>
        simp only
        cases qR (.sl τ) σ xs with
        | none=>rfl
        | some x=>simp only; cases decide (n = List.length xs) <;> rfl
      | _=>rfl
  | _=>rfl
theorem zFY {ρ:Type}:∀ {σ:Ty} {vs:List AV} {h:List Obj} {k:σ.I→List Obj→Option ρ},zyZ σ vs h k = (ownC σ vs h).bind fun p=>k p.1 p.2:=by
  intro σ
  induction σ with
  | unit=>intro vs h k; cases vs <;> rfl
  | pair a b _ ihb =>
    intro vs h k
    cases vs with
    | nil=>rfl
    | cons v vs =>
      simp only [zyZ,ownC,zMB,ihb]
      cases zxA h a v with
      | none=>rfl
      | some p =>
        obtain ⟨x,h1⟩:=p
        simp only [Option.bind_some]
        cases ownC b vs h1 <;> rfl
  | _=>intro vs h k; cases vs <;> rfl
theorem zLI {md:Nat} {r:Ty} {y:r.I} {vs:List AV} {us:List Value} (h:Rel P nt F0 w0 st m F a w) (hv:jC P st.h m F vs us) (hz:zJO md r vs st = some y) :
    ∃ F',F0.grow F' w0.heap.size ∧ F'.ok w ∧ zkW P F' w w0.heap.size md r y us:=by
  unfold zJO at hz
  split at hz
  ·
    rename_i b c v vs
    split at hz
    · rename_i x h1 hx
      split at hz
      · rename_i p hp
        cases hz
        obtain ⟨u,r,rfl,hv1,hv2⟩:=hv
        obtain ⟨id,k,rfl,hat,rfl,hkr⟩:∃ id k,v = .ow id ∧ atN st.h id = some (mkO b k x) ∧ h1 = zk st.h id .gone ∧ (k = none ∨ k = some 0):=by
          unfold zK4 at hx
          split at hx
          · rename_i id
            split at hx
            · rename_i τ xs ho
              split at hx
              · rename_i z hc
                cases hx
                obtain ⟨e,rfl⟩:=zR hc
                cases e
                exact ⟨id,none,rfl,ho,rfl,.inl rfl⟩
              · cases hx
            · rename_i τ xs n ho
              split at hx
              · rename_i z hc
                obtain ⟨hn,hx⟩:=zd hx
                cases hx
                obtain ⟨e,rfl⟩:=zR hc
                cases e
                have hn:n = 0:=of_decide_eq_true hn
                subst hn
                exact ⟨id,some 0,rfl,ho,rfl,.inr rfl⟩
              · cases hx
            · cases hx
          · cases hx
        obtain ⟨st2fr,st2h⟩:=st
        have l:yZ (zk st2h id .gone) st2h:=(yZ.refl st2h).gone hat
        obtain ⟨h',e1,e2,e3⟩:=zp8 l (show jL false c vs ⟨st2fr,zk st2h id .gone⟩ = some (p.1,p.2) from hp)
        obtain ⟨m',F',g1,g2,g3⟩:=zfF e1 h hv2
        have hat':atN h' id = some (mkO b k x):=by rw [(e3.2 id (yH hat)).2]; exact hat
        have hq:=zK.owAt hat' (zqH _ _ _) (show zK P h' m' F' (.ow id) u from hv1.ext g3)
        refine ⟨F',g1.gro,g1.fok,?_⟩
        simp only [zkW]
        refine ⟨u,r,rfl,g2,?_⟩
        cases hmi:m' id with
        | none =>
          rw [hmi] at hq
          exact .inr ⟨zFG (g1.obs _ _ hat') hmi,hq.2⟩
        | some bn =>
          obtain ⟨bk,n⟩:=bn
          rw [hmi] at hq
          obtain ⟨cap,k1,k2,k3⟩:=hq
          obtain ⟨el,cs,cc,d,f1,f2,f3,f4,f5⟩:=zse (g1.obs _ _ hat') hmi
          refine .inl ⟨bk,cap,el,cs,cc,d,k3,k2,(g1.rng _ _ _ hmi).2.1,f1,f4,by rw [f2,k1],f3,?_⟩
          rcases hkr with rfl | rfl
          · exact f5
          · exact z9.toL (fun j x c _ _ hx=>by unfold DE at hx; rw [if_neg (by omega)] at hx; exact hx) (show z9 (DE P F' w (m'.d id) b 0) 0 x cc from f5)
      · cases hz
    · cases hz
  ·
    rename_i b c c' vs us'
    obtain ⟨hbc,hz⟩:=zd hz
    simp only [decide_eq_true_eq] at hbc
    rw [zFY] at hz
    obtain ⟨⟨x,h1⟩,hx,hz⟩:=Option.bind_eq_some_iff.1 hz
    · split at hz
      · rename_i p hp
        cases hz
        obtain ⟨u,r,rfl,hv1,hv2⟩:=hv
        obtain ⟨cs,rfl,hfs⟩:=(show zJ P st.h m F (.fld c' vs) u from hv1)
        subst hbc
        obtain ⟨ids,k1,k2,k3,k4,k5⟩:=zDc (fun i τ xs k ho=>(h.drowk ho).2) 0 hx (yZ.refl _)
        obtain ⟨st2fr,st2h⟩:=st
        obtain ⟨h',e1,e2,e3⟩:=zp8 k2 (show jL false c us' ⟨st2fr,h1⟩ = some (p.1,p.2) from hp)
        obtain ⟨m',F',g1,g2,g3⟩:=zfF e1 h hv2
        have hkeep:∀ f id,ids f = some id→atN h' id = atN st2h id:=fun f id hf=>(e3.2 id (k3 f id hf).2.2.1).2
        refine ⟨F',g1.gro,g1.fok,?_⟩
        simp only [zkW]
        refine ⟨.agg cs,r,cs,_,_,rfl,g2,rfl,zJz g1 (k1.heap hkeep) (hfs.ext g3),zJA g1 (fun f id hf=>?_) k5⟩
        obtain ⟨σ,k,xs,ho⟩:=(k3 f id hf).2.2.2
        exact ⟨σ,k,xs,by rw [hkeep f id hf]; exact ho⟩
      · cases hz
  ·
    rename_i b c v us'
    rw [zFY] at hz
    obtain ⟨⟨x,h1⟩,hx,hz⟩:=Option.bind_eq_some_iff.1 hz
    · split at hz
      · rename_i p hp
        cases hz
        obtain ⟨u,r,rfl,hv1,hv2⟩:=hv
        obtain ⟨ids,k1,k2,k3,k4,k5⟩:=zDc (fun i τ xs k ho=>(h.drowk ho).2) 0 hx (yZ.refl _)
        obtain ⟨⟨id,rfl,hi0,hat0⟩,_⟩:=(show (∃ id,v = .ow id ∧ ids 0 = some id ∧ atN st.h id = some (mkO b _ x.1)) ∧ _ from k1)
        have hT:za2 st.h id = some b:=by rw [zv1 hat0,zqH]; rfl
        have hfs:z4 P st.h m F (.pair (.sl b) .unit) [.ow id] [u]:=⟨[u],[],rfl,vK.ofRow hT (show zK P st.h m F (.ow id) u from hv1),rfl⟩
        obtain ⟨st2fr,st2h⟩:=st
        obtain ⟨h',e1,e2,e3⟩:=zp8 k2 (show jL false c us' ⟨st2fr,h1⟩ = some (p.1,p.2) from hp)
        obtain ⟨m',F',g1,g2,g3⟩:=zfF e1 h hv2
        have hkeep:∀ f id,ids f = some id→atN h' id = atN st2h id:=fun f id hf=>(e3.2 id (k3 f id hf).2.2.1).2
        refine ⟨F',g1.gro,g1.fok,?_⟩
        simp only [zkW]
        refine ⟨u,r,_,_,rfl,g2,zJz g1 (k1.heap hkeep) (hfs.ext g3),zJA g1 (fun f id hf=>?_) k5⟩
        obtain ⟨σ,k,xs,ho⟩:=(k3 f id hf).2.2.2
        exact ⟨σ,k,xs,by rw [hkeep f id hf]; exact ho⟩
      · cases hz
  ·
    split at hz
    · rename_i p hp
      cases hz
      obtain ⟨m',F',g1,g2,_⟩:=zfF (x:=p.1) (st':=p.2) hp h hv
      exact ⟨F',g1.gro,g1.fok,g2⟩
    · cases hz
  · cases hz
theorem zLJ (hm:P.follows .mixedOrders = true) (hE:EnvOk P G E) {fi:FuncId} {f:Func} (hf:P.funcs[fi]? = some f) {K md:Nat} {a r:Ty} {x:a.I} {y:r.I} (he:evF E K f md a r x = some y)
    {F0:FH} {w:World} {vs:List Value} (hG:G.le F0) (hk:F0.ok w) (hr:RepA P F0 a x vs) :
    Calls P fi vs.toArray w fun e w'=>∃ us F',e = .returned (zr0 us) ∧ Below w.heap.size w w' ∧ F0.grow F' w.heap.size ∧ F'.ok w' ∧ zkW P F' w' w.heap.size md r y us:=by
  unfold evF at he
  cases hb:f.body with
  | none=>rw [hb] at he; cases he
  | some c =>
    rw [hb] at he
    simp only at he
    have hE':EnvOk P G { E with nt:=f.ntmps }:=⟨hE.types,hE.funs,hE.glob,hE.ext,hE.hnd⟩
    refine calls_of_wp hf hb ?_
    refine zJy (nt:=⟨f.ntmps,[],F0⟩) (F0:=F0) (w0:=w) (.inr rfl) hm hE' hG rfl c (r:=y) ?_ ⟨_,F0,Rel.enter hk hr f.ntmps⟩ he
    rintro e st a' w' ⟨m,F,h⟩ hfin
    have hdone:(cond ((f.results.toList.map (zdH { E with nt:=f.ntmps } st)).all Option.isSome) (zJO md r ((f.results.toList.map (zdH { E with nt:=f.ntmps } st)).filterMap id) st) none) = some y →
        a'.defers = [] ∧ ∃ v,(results f a'.tmps).run P w' = .ok v w' ∧ ∃ us F',Ending.returned v = .returned (zr0 us) ∧ Below w.heap.size w w' ∧ F0.grow F' w.heap.size ∧ F'.ok w' ∧ zkW P F' w' w.heap.size md r y us:=by
      intro hfin
      obtain ⟨h1,h2⟩:=zd hfin
      obtain ⟨us,h3,h4⟩:=zwN hE' h (zl8 h1)
      obtain ⟨F',g1,g2,g3⟩:=zLI h h4 h2
      exact ⟨h.dfr,_,h3,us,F',rfl,h.bel,g1,g2,g3⟩
    cases e with
    | normal=>exact hdone hfin
    | ret=>exact hdone hfin
    | exit id=>cases hfin
theorem jC.one {h:List Obj}:∀ {vs:List AV} {us:List Value},jC P h m F vs us→vs.all AV.one = true→zlr P h m F vs us
  | [],_,e,_=>e
  | v :: vs,_,⟨u,r,e,h1,h2⟩,ho=>by
    simp only [List.all_cons,Bool.and_eq_true] at ho
    rw [zi.eq1 (by rintro ws rfl; cases ho.1)] at h1
    exact ⟨u,r,e,h1,jC.one h2 ho.2⟩
theorem zzy:∀ {vs:List AV} {us:List Value} {h:List Obj} {m:MM} {F:FH} {i t:Nat} {v:AV},look (slots vs i) t = some v→jC P h m F vs us→i ≤ t ∧ ∃ u,us[t - i]? = some u ∧ zi P h m F v u
  | [],_,_,_,_,_,_,_,h,_=>by simp [slots,look] at h
  | x :: vs,_,hp,m,F,i,t,v,h,⟨u,r,rfl,h1,h2⟩=>by
    simp only [slots] at h
    by_cases e:i = t
    · subst e
      simp only [look,beq_self,cond_true,Option.some.injEq] at h
      subst h
      exact ⟨Nat.le_refl _,u,by simp,h1⟩
    · simp only [look,za4 e,cond_false] at h
      obtain ⟨g1,u',g2,g3⟩:=zzy h h2
      refine ⟨by omega,u',?_,g3⟩
      rw [show t - i = (t - (i + 1)) + 1 by omega,List.getElem?_cons_succ]
      exact g2
theorem zNg (hm:P.follows .mixedOrders = true) (hE:EnvOk P G E) {fi:FuncId} {f:Func} (hf:P.funcs[fi]? = some f) (hn:(f.name == "runtime.NumGoroutine") = false) (hb':f.body.isNone = false):zNF P G fi (zNO E f):=by
  refine ⟨⟨f,hf,hn,hb'⟩,fun args h h' v he nt F0 w0 fr m F a w vs hG hr hv=>?_⟩
  change zsk E f (AV × List Obj) args h (fun v h=>some (v,h)) = some (v,h') at he
  unfold zsk at he
  cases hb:f.body with
  | none=>rw [hb] at he; cases he
  | some c =>
    rw [hb] at he
    simp only at he
    have hE':EnvOk P G (inE E f):=⟨hE.types,hE.funs,hE.glob,hE.ext,hE.hnd⟩
    refine calls_of_wp hf hb ?_
    let up:List (AV × Value):=fr.filterMap (fun p=>(look fr p.1).map fun v=>(v,a.tmps.getD p.1 undef)) ++ nt.up
    have hup:∀ v u,(v,u) ∈ up→zi P h m F v u:=by
      intro v u hv
      rcases List.mem_append.1 hv with hv | hv
      · obtain ⟨p,hp,e⟩:=List.mem_filterMap.1 hv
        obtain ⟨v',h1,h2⟩:=Option.map_eq_some_iff.1 e
        cases h2
        exact hr.fr _ _ h1
      · exact hr.up v u hv
    have hst:Rel P ⟨f.ntmps,up,F⟩ F0 w0 ⟨slots args 0,h⟩ m F { tmps:=vs.toArray ++ Array.replicate (f.ntmps - vs.toArray.size) undef,defers:=[] } w:=by
      refine ⟨by simp; omega,fun t v ht=>?_,hup,.refl F,hr.obs,hr.inj,hr.rng,hr.dok,hr.din,hr.fok,hr.gro,hr.bel,rfl⟩
      obtain ⟨_,u,h2,h3⟩:=zzy ht hv
      rw [Nat.sub_zero] at h2
      have hlt:=(List.getElem?_eq_some_iff.1 h2).1
      have:(vs.toArray ++ Array.replicate (f.ntmps - vs.toArray.size) undef).getD t undef = u:=by
        rw [Array.getD_eq_getD_getElem?,Array.getElem?_append_left (by simpa using hlt)]
        simp [h2]
      rw [this]
      exact h3
    refine zJy (nt:=⟨f.ntmps,up,F⟩) (F0:=F0) (w0:=w0) (.inl rfl) hm hE' hG rfl c (r:=(v,h')) ?_ ⟨m,F,hst⟩ he
    rintro e st a' w' ⟨m',F',h2⟩ hfin
    have hdone:(cond ((f.results.toList.map (zdH (inE E f) st)).all Option.isSome && ((f.results.toList.map (zdH (inE E f) st)).filterMap id).all AV.one) (some (unT ((f.results.toList.map (zdH (inE E f) st)).filterMap id),st.h)) none) = some (v,h') →
        a'.defers = [] ∧ ∃ v1,(results f a'.tmps).run P w' = .ok v1 w' ∧ ∃ u m' F',Ending.returned v1 = .returned u ∧ F.le F' ∧ Rel P nt F0 w0 ⟨fr,h'⟩ m' F' a w' ∧ zi P h' m' F' v u:=by
      intro hfin
      obtain ⟨g1,g2⟩:=zd hfin
      rw [Bool.and_eq_true] at g1
      cases g2
      obtain ⟨us,g3,g4⟩:=zwN hE' h2 (zl8 g1.1)
      refine ⟨h2.dfr,_,g3,_,m',F',rfl,h2.lo,⟨hr.nt,fun t v ht=>?_,fun v u hv=>h2.up v u (List.mem_append.2 (.inr hv)),hr.lo.trans h2.lo,h2.obs,h2.inj,h2.rng,h2.dok,h2.din,h2.fok,h2.gro,h2.bel,hr.dfr⟩,zdV (jC.one g4 g1.2)⟩
      have hmem:∀ (l:List (Nat × AV)),look l t = some v→∃ p ∈ l,p.1 = t:=by
        intro l
        induction l with
        | nil=>intro h; simp [look] at h
        | cons p l ih =>
          intro h
          obtain ⟨k,y⟩:=p
          simp only [look] at h
          cases hb:Nat.beq k t with
          | true=>exact ⟨(k,y),by simp,Nat.eq_of_beq_eq_true hb⟩
          | false=>rw [hb] at h; obtain ⟨p,hp,e⟩:=ih h; exact ⟨p,by simp [hp],e⟩
      obtain ⟨p,hp,rfl⟩:=hmem fr ht
      exact h2.up v _ (List.mem_append.2 (.inl (List.mem_filterMap.2 ⟨p,hp,by rw [ht]; rfl⟩)))
    cases e with
    | normal=>exact hdone hfin
    | ret=>exact hdone hfin
    | exit id=>cases hfin
end
end Go.Ev
end
section
namespace Go.Ev
open Go.RowKit Go.ChangeShapes
def InR:(τ:Ty)→τ.I→Prop
  | .int k,n=>(Lit.int k n).wf = true
  | .str,s=>ByteArray.size s ≤ maxLen
  | .pair a b,x=>InR a x.1 ∧ InR b x.2
  | .st a,x=>InR a x
  | .arr n a,xs=>List.length xs = n ∧ ∀ x ∈ (show List a.I from xs),InR a x
  | .sl a,xs=>List.length xs ≤ maxLen ∧ ∀ x ∈ (show List a.I from xs),InR a x
  | _,_=>True
def Ty.data:Ty→Bool
  | .bool | .int _ | .str | .unit=>true
  | .pair a b=>a.data && b.data
  | .st a=>a.data
  | .arr _ a=>a.data
  | .sl a=>a.data
  | _=>false
mutual
def dbk {H:Type}:DataW H→Nat
  | .slice elems _=>dbkAll elems + 1
  | .agg parts=>dbkAll parts + 1
  | _=>1
def dbkAll {H:Type}:List (DataW H)→Nat
  | []=>0
  | d :: r=>dbk d + dbkAll r
end
def bkI:(τ:Ty)→τ.I→Nat
  | .unit,_=>0
  | .pair a b,x=>bkI a x.1 + bkI b x.2
  | .st a,x=>bkI a x + 1
  | .arr _ a,xs=>(List.map (bkI a) xs).sum + 1
  | .sl a,xs=>(List.map (bkI a) xs).sum + 1
  | _,_=>1
theorem zwb {H:Type} (d:DataW H):1 ≤ dbk d:=by cases d <;> simp [dbk]
section
variable {P:Program} {H:Type} {enc:TypeId × Value→H} {w:World} {base:Nat} {sp:Nat→Bool} {held:Bool}
theorem zFZ {a:Addr} {j:Nat} {v:Value} (h:w.cell? (a.add j) = some v) (h0:a.spot = none ∨ j = 0):a.spot = none ∧ ∃ c el fz,w.heap[a.block]? = some (.cells c el fz) ∧ c[a.off + j]? = some v:=by
  have hs:a.spot = none:=by
    rcases h0 with h0 | rfl
    · exact h0
    · have:a.add 0 = a:=by unfold Addr.add; rfl
      rw [this] at h
      unfold World.cell? at h
      split at h
      · cases hsp:a.spot with
        | none=>rfl
        | some x=>rw [hsp] at h; simp at h
      · cases h
  refine ⟨hs,?_⟩
  rw [zr4 hs] at h
  unfold World.cell? at h
  simp only at h
  split at h
  · rename_i c el fz hk
    exact ⟨c,el,fz,hk,by simpa using h⟩
  · cases h
theorem zF0 {a:Addr} {n:Nat} {cs:List Value} (h:w.cells? base a n = some cs) (hn:0 < n):∃ c,FH.of w a.block = some c ∧ a.spot = none ∧ ∀ (j:Nat) (v:Value),cs[j]? = some v→c[a.off + j]? = some v:=by
  obtain ⟨hb,hl,hc⟩:=World.cells?_some h
  have h0:=hc 0 hn
  rw [List.getElem?_eq_getElem (by omega)] at h0
  obtain ⟨hs,c,el,fz,hk,_⟩:=zFZ h0 (.inr rfl)
  refine ⟨c,by simp [FH.of,hk],hs,fun j v hv=>?_⟩
  have hj:=(List.getElem?_eq_some_iff.1 hv).1
  have:=hc j (by omega)
  rw [hv] at this
  obtain ⟨_,c',_,_,hk',h2⟩:=zFZ this (.inl hs)
  rw [hk] at hk'
  cases hk'
  exact h2
theorem zJB {ad:Addr} {n:Nat} (hn:0 < n) {c:Array Value} (hs:ad.spot = none) (hc:FH.of w ad.block = some c):∀ (m i0:Nat) (css:List (List Value)),((List.range' i0 m).mapM fun i=>w.cells? base (ad.add (i * n)) n) = some css →
    ∀ (j:Nat) (v:Value),css.flatten[j]? = some v→c[ad.off + i0 * n + j]? = some v
  | 0,i0,css,h,j,v,hj=>by simp at h; subst h; simp at hj
  | m + 1,i0,css,h,j,v,hj=>by
    rw [List.range'_succ,List.mapM_cons] at h
    simp only [Option.bind_eq_bind,Option.bind_eq_some_iff,Option.pure_def,Option.some.injEq] at h
    obtain ⟨cs,h1,css',h2,rfl⟩:=h
    have hl:=(World.cells?_some h1).2.1
    obtain ⟨c',h3,_,h5⟩:=zF0 h1 hn
    rw [zr4 hs] at h3 h5
    simp only at h3 h5
    rw [hc] at h3
    cases h3
    rw [List.flatten_cons] at hj
    by_cases hjn:j < n
    · rw [List.getElem?_append_left (by omega)] at hj
      exact h5 j v hj
    · rw [List.getElem?_append_right (by omega),hl] at hj
      have:=zJB hn hs hc m (i0 + 1) css' h2 (j - n) v hj
      rw [show ad.off + i0 * n + j = ad.off + (i0 + 1) * n + (j - n) by rw [Nat.add_mul]; omega]
      exact this
theorem zxP {α:Type} {R:α→List Value→Prop} {f:Nat→Option (List Value)} {g:List Value→Option (DataW H × List MemPlace)} {I:α→Prop} {bk:α→Nat} (hg:∀ cs y,g cs = some y→∃ x,R x cs ∧ I x ∧ bk x ≤ dbk y.1) :
    ∀ (l:List Nat) (ys:List (DataW H × List MemPlace)),(l.mapM fun i=>(f i).bind g) = some ys→∃ (xs:List α) (css:List (List Value)),xs.length = l.length ∧ l.mapM f = some css ∧ zA R xs css.flatten ∧ (∀ x ∈ xs,I x) ∧ (xs.map bk).sum ≤ dbkAll (ys.map (·.1))
  | [],ys,h=>⟨[],[],rfl,rfl,rfl,by simp,Nat.zero_le _⟩
  | i :: l,ys,h=>by
    rw [List.mapM_cons] at h
    simp only [Option.bind_eq_bind,Option.bind_eq_some_iff,Option.pure_def,Option.some.injEq] at h
    obtain ⟨y,⟨cs,hcs,hy⟩,ys',h2,rfl⟩:=h
    obtain ⟨x,hx,hI,hk⟩:=hg cs y hy
    obtain ⟨xs,css,h3,h4,h5,h6,h7⟩:=zxP hg l ys' h2
    refine ⟨x :: xs,cs :: css,by simp [h3],?_,⟨cs,css.flatten,rfl,hx,h5⟩,?_,by simp only [List.map_cons,List.sum_cons,dbkAll]; omega⟩
    · rw [List.mapM_cons,hcs,h4]; rfl
    · intro z hz
      rcases List.mem_cons.1 hz with rfl | hz
      · exact hI
      · exact h6 z hz
theorem zqM {cs:List Value} {n:Nat}:∀ (m i0:Nat) (css:List (List Value)),(i0 + m) * n ≤ cs.length→((List.range' i0 m).mapM fun i=>some ((cs.drop (i * n)).take n)) = some css→css.flatten = (cs.drop (i0 * n)).take (m * n)
  | 0,i0,css,_,h=>by simp at h; subst h; simp
  | m + 1,i0,css,hl,h=>by
    rw [List.range'_succ,List.mapM_cons] at h
    simp only [Option.bind_eq_bind,Option.bind_some,Option.bind_eq_some_iff,Option.pure_def,Option.some.injEq] at h
    obtain ⟨css',h2,rfl⟩:=h
    have:=zqM m (i0 + 1) css' (by rw [show i0 + 1 + m = i0 + (m + 1) by omega]; exact hl) h2
    rw [List.flatten_cons,this,Nat.add_mul i0 1 n,Nat.one_mul,← List.drop_drop,show (m + 1) * n = n + m * n by rw [Nat.add_mul]; omega,List.take_add]
theorem zMC:∀ (τ:Ty),τ.data = true →
    (∀ (fuel:Nat) (t:TypeId) (cs:List Value) (x:DataW H × List MemPlace),τ.np = true→z6 P t τ→DataW.trod enc P w base sp held fuel t cs = some x→∃ y,Rep P (FH.of w) τ y cs ∧ InR τ y ∧ bkI τ y ≤ dbk x.1) ∧
    (∀ (fuel:Nat) (fs:List Field) (off:Nat) (cs:List Value) (xs:List (DataW H × List MemPlace)),(tyB P τ).2 fs off = true→(fs.mapM fun f=>DataW.trod enc P w base sp held fuel f.type ((cs.drop f.offset).take (P.cellsOf f.type))) = some xs→cs.length = off + nc τ→∃ y,Rep P (FH.of w) τ y (cs.drop off) ∧ InR τ y ∧ bkI τ y ≤ dbkAll (xs.map (·.1))):=by
  intro τ
  induction τ with
  | unit =>
    intro _
    refine ⟨fun fuel t cs x _ h=>(by cases h),fun fuel fs off cs xs h _ hl=>⟨(),?_,trivial,Nat.zero_le _⟩⟩
    show cs.drop off = []
    rw [List.drop_eq_nil_iff]
    simp only [nc] at hl
    omega
  | bool =>
    intro _
    refine ⟨fun fuel t cs x _ h hx=>?_,fun fuel fs off cs xs h=>(by cases h)⟩
    have hu:P.underlying t = some .bool:=by
      simp only [z6,tyB,Bool.and_eq_true] at h
      have:=h.2
      split at this
      · assumption
      · cases this
    cases fuel with
    | zero=>simp [DataW.trod] at hx
    | succ fuel =>
      unfold DataW.trod at hx
      rw [hu] at hx
      split at hx <;> first | (cases hx; done) | skip
      all_goals first | exact ⟨_,rfl,trivial,zwb _⟩ | (rename_i hh; simp at hh)
  | int k =>
    intro _
    refine ⟨fun fuel t cs x _ h hx=>?_,fun fuel fs off cs xs h=>(by cases h)⟩
    have hu:P.underlying t = some (.int k):=by
      simp only [z6,tyB,Bool.and_eq_true] at h
      have:=h.2
      split at this
      · simp only [decide_eq_true_eq] at this; subst this; assumption
      · cases this
    cases fuel with
    | zero=>simp [DataW.trod] at hx
    | succ fuel =>
      unfold DataW.trod at hx
      rw [hu] at hx
      split at hx <;> first | (cases hx; done) | skip
      · rename_i hh; cases hh
      · rename_i k1 k2 n hh
        cases hh
        split at hx
        · rename_i hc; obtain ⟨rfl,hw⟩:=hc; exact ⟨n,rfl,hw,zwb _⟩
        · cases hx
      all_goals (rename_i hh; simp at hh)
  | str =>
    intro _
    refine ⟨fun fuel t cs x _ h hx=>?_,fun fuel fs off cs xs h=>(by cases h)⟩
    have hu:P.underlying t = some .string:=by
      simp only [z6,tyB,Bool.and_eq_true] at h
      have:=h.2
      split at this
      · assumption
      · cases this
    cases fuel with
    | zero=>simp [DataW.trod] at hx
    | succ fuel =>
      unfold DataW.trod at hx
      rw [hu] at hx
      split at hx <;> first | (cases hx; done) | skip
      all_goals first
        | (rename_i hh; simp at hh; done)
        | (rename_i s hh; split at hx; · rename_i hc; exact ⟨s,rfl,hc,zwb _⟩
           · cases hx)
        | skip
  | pair a b iha ihb =>
    intro hd
    simp only [Ty.data,Bool.and_eq_true] at hd
    refine ⟨fun fuel t cs x _ h hx=>?_,fun fuel fs off cs xs h hx hl=>?_⟩
    · rename_i hnp; cases hnp
    · cases fs with
      | nil=>cases h
      | cons f fs =>
        simp only [tyB,Bool.and_eq_true] at h
        obtain ⟨⟨⟨⟨h1,h2⟩,h3⟩,_⟩,h4⟩:=h
        obtain rfl:=Nat.eq_of_beq_eq_true h1
        obtain ⟨i,hi,hsz⟩:=z6.size h2 (Ty.np_spec h3.2)
        rw [List.mapM_cons] at hx
        simp only [Option.bind_eq_bind,Option.bind_eq_some_iff,Option.pure_def,Option.some.injEq] at hx
        obtain ⟨x1,hx1,xs2,hx2,rfl⟩:=hx
        have hcells:P.cellsOf f.type = nc a:=by unfold Program.cellsOf; rw [hi]; exact hsz
        rw [hcells] at hx1
        obtain ⟨y1,g1,g2,b1⟩:=(iha hd.1).1 fuel f.type _ x1 h3.2 h2 hx1
        simp only [nc] at hl
        obtain ⟨y2,g3,g4,b2⟩:=(ihb hd.2).2 fuel fs (f.offset + nc a) cs xs2 h4 hx2 (by omega)
        refine ⟨(y1,y2),⟨_,_,?_,g1,g3⟩,⟨g2,g4⟩,by simp only [bkI,List.map_cons,dbkAll]; omega⟩
        rw [← List.drop_drop,List.take_append_drop]
  | st a iha =>
    intro hd
    refine ⟨fun fuel t cs x _ h hx=>?_,fun fuel fs off cs xs h=>(by cases h)⟩
    obtain ⟨fs,hu,hf,_⟩:=z6.st h
    obtain ⟨i,hi,hsz⟩:=z6.size h (by intro a b e; cases e)
    have hcells:P.cellsOf t = nc a:=by unfold Program.cellsOf; rw [hi]; exact hsz
    cases fuel with
    | zero=>simp [DataW.trod] at hx
    | succ fuel =>
      unfold DataW.trod at hx
      rw [hu] at hx
      simp only at hx
      split at hx
      · rename_i hl
        simp only [Option.map_eq_some_iff] at hx
        obtain ⟨xs,hx,rfl⟩:=hx
        obtain ⟨y,g1,g2,b1⟩:=(iha hd).2 fuel fs.toList 0 cs xs hf hx (by omega)
        exact ⟨y,g1,g2,by simp only [bkI,dbk]; omega⟩
      · cases hx
  | arr n a iha =>
    intro hd
    refine ⟨fun fuel t cs x _ h hx=>?_,fun fuel fs off cs xs h=>(by cases h)⟩
    obtain ⟨e,hu,he,hpos,hnp,_⟩:=z6.arr h
    obtain ⟨i,hi,hsz⟩:=z6.size h (by intro a b e; cases e)
    obtain ⟨ie,hie,hsze⟩:=z6.size he (Ty.np_spec hnp)
    have hcells:P.cellsOf t = n * nc a:=by unfold Program.cellsOf; rw [hi]; exact hsz
    have hcellse:P.cellsOf e = nc a:=by unfold Program.cellsOf; rw [hie]; exact hsze
    cases fuel with
    | zero=>simp [DataW.trod] at hx
    | succ fuel =>
      unfold DataW.trod at hx
      rw [hu] at hx
      simp only at hx
      split at hx
      · rename_i hl
        simp only [Option.map_eq_some_iff] at hx
        obtain ⟨xs,hx,rfl⟩:=hx
        rw [hcellse] at hx
        obtain ⟨ys,css,h1,h2,h3,h4,h5⟩:=zxP (bk:=bkI a) (f:=fun i=>some ((cs.drop (i * nc a)).take (nc a))) (g:=DataW.trod enc P w base sp held fuel e) (R:=Rep P (FH.of w) a) (I:=InR a) (fun cs y hy=>(iha hd).1 fuel e cs y hnp he hy) (List.range n) xs hx
        rw [List.range_eq_range'] at h2
        have:=zqM n 0 css (by rw [Nat.zero_add]; omega) h2
        rw [this] at h3
        simp only [Nat.zero_mul,List.drop_zero] at h3
        rw [List.take_of_length_le (by omega)] at h3
        refine ⟨ys,⟨by simpa using h1,h3⟩,⟨by simpa using h1,h4⟩,by simp only [bkI,dbk]; omega⟩
      · cases hx
  | sl a iha =>
    intro hd
    refine ⟨fun fuel t cs x _ h hx=>?_,fun fuel fs off cs xs h=>(by cases h)⟩
    obtain ⟨e,hu,he,hpos,hnp⟩:=z6.sl h
    obtain ⟨ie,hie,hsze⟩:=z6.size he (Ty.np_spec hnp)
    have hcellse:P.cellsOf e = nc a:=by unfold Program.cellsOf; rw [hie]; exact hsze
    cases fuel with
    | zero=>simp [DataW.trod] at hx
    | succ fuel =>
      unfold DataW.trod at hx
      rw [hu] at hx
      split at hx <;> first | (cases hx; done) | skip
      all_goals first
        | (rename_i hh; cases hh; done)
        | exact ⟨[],⟨_,0,rfl,Nat.le_refl _,fun hne=>absurd rfl hne⟩,⟨Nat.zero_le _,fun x hx=>(by cases hx)⟩,zwb _⟩
        | skip
      rename_i e' ad len cap heq
      simp only [Option.some.injEq,TypeDesc.slice.injEq] at heq
      subst heq
      simp only at hx
      split at hx
      · rename_i hc
        simp only [Option.bind_eq_some_iff] at hx
        obtain ⟨elems,hx,hx2⟩:=hx
        rw [hcellse] at hx
        obtain ⟨ys,css,h1,h2,h3,h4,h5⟩:=zxP (bk:=bkI a) (f:=fun i=>w.cells? base (ad.add (i * nc a)) (nc a)) (g:=DataW.trod enc P w base sp held fuel e) (R:=Rep P (FH.of w) a) (I:=InR a) (fun cs y hy=>(iha hd).1 fuel e cs y hnp he hy) (List.range len) elems hx
        rw [List.length_range] at h1
        refine ⟨ys,⟨some ad,cap,by rw [h1],by rw [h1]; exact hc.2.1,fun hne=>?_⟩,⟨(show ys.length ≤ maxLen by omega),h4⟩,?_⟩
        rotate_left
        · obtain ⟨rest,-,rfl⟩:=Option.map_eq_some_iff.1 hx2
          simp only [bkI,dbk]; omega
        have hlen:0 < len:=by
          rw [← h1]
          exact List.length_pos_iff.2 hne
        rw [List.range_eq_range'] at h2
        obtain ⟨m,rfl⟩:∃ m,len = m + 1:=⟨len - 1,by omega⟩
        have h2':=h2
        rw [List.range'_succ,List.mapM_cons] at h2'
        simp only [Option.bind_eq_bind,Option.bind_eq_some_iff,Option.pure_def,Option.some.injEq] at h2'
        obtain ⟨cs0,g1,_⟩:=h2'
        rw [Nat.zero_mul,show ad.add 0 = ad from rfl] at g1
        obtain ⟨c,g2,g3,g4⟩:=zF0 g1 hpos
        refine ⟨ad,css.flatten,rfl,⟨g3,c,g2,fun j v hv=>?_⟩,h3⟩
        have:=zJB hpos g3 g2 (m + 1) 0 css h2 j v hv
        simpa using this
      · cases hx
  | ptr a=>intro hd; cases hd
  | fn a b=>intro hd; cases hd
def tyL (P:Program):Ty→List TypeId→Bool
  | .unit,[]=>true
  | .pair a b,t :: ts=>(tyB P a).1 t && a.np && a.data && tyL P b ts
  | _,_=>false
theorem zwO:∀ {τ:Ty} {ts:List TypeId} {vs:List Value} {ds:List (DataW H)} {ps:List MemPlace},tyL P τ ts = true→DataW.TrodAll enc P w base sp held ts vs ds ps→(∀ (j:Nat) (t:TypeId) (v:Value),ts[j]? = some t→vs[j]? = some v→∃ W r b,Value.okWide P W r b t v) →
    ∃ x,RepA P (FH.of w) τ x vs ∧ InR τ x ∧ bkI τ x ≤ dbkAll ds
  | .unit,[],[],[],ps,_,_,_=>⟨(),rfl,trivial,Nat.zero_le _⟩
  | .pair a b,t :: ts,v :: vs,d :: ds,ps,h,hr,hf=>by
    simp only [tyL,Bool.and_eq_true] at h
    obtain ⟨⟨⟨h1,h2⟩,h3⟩,h4⟩:=h
    obtain ⟨p,q,⟨fuel,h5⟩,h6,_⟩:=hr
    obtain ⟨y,g1,g2,b1⟩:=(zMC a h3).1 fuel t v.cells.toList (d,p) h2 h1 h5
    obtain ⟨x,g3,g4,b2⟩:=zwO h4 h6 fun j t v ht hv=>hf (j + 1) t v (by simpa using ht) (by simpa using hv)
    refine ⟨(y,x),⟨v,vs,rfl,g1,?_,g3⟩,⟨g2,g4⟩,by simp only [bkI,dbkAll]; exact Nat.add_le_add b1 b2⟩
    obtain ⟨W,r,b0,hform⟩:=hf 0 t v rfl rfl
    obtain ⟨de,hu,hagg⟩:=z6.isAgg h1
    unfold Value.okWide at hform
    rw [hu] at hform
    rw [← hagg]
    have hno:∀ cs,v = .agg cs→Cell.okWide P W r b0 t v→(match de with | .struct _ | .array _ _=>true | _=>false) = false→False:=by
      rintro cs rfl hc hde
      unfold Cell.okWide at hc
      rw [hu] at hc
      cases de <;> simp [Cell.ok,hu] at hc hde
    cases de <;> simp only at hform hno ⊢
    case struct=>obtain ⟨cs,rfl,_⟩:=hform; rfl
    case array=>obtain ⟨cs,rfl,_⟩:=hform; rfl
    all_goals (cases v <;> first | rfl | exact (hno _ rfl hform trivial).elim)
  | .unit,[],[],_ :: _,_,_,h,_=>h.elim
  | .unit,[],_ :: _,_,_,_,h,_=>(by cases h)
  | .unit,_ :: _,_,_,_,h,_,_=>(by cases h)
  | .pair _ _,[],_,_,_,h,_,_=>(by cases h)
  | .pair _ _,_ :: _,[],_,_,_,h,_=>(by cases h)
  | .pair _ _,_ :: _,_ :: _,[],_,_,h,_=>(by cases h)
  | .bool,_,_,_,_,h,_,_=>(by cases h)
  | .int _,_,_,_,_,h,_,_=>(by cases h)
  | .str,_,_,_,_,h,_,_=>(by cases h)
  | .st _,_,_,_,_,h,_,_=>(by cases h)
  | .arr _ _,_,_,_,_,h,_,_=>(by cases h)
  | .sl _,_,_,_,_,h,_,_=>(by cases h)
  | .ptr _,_,_,_,_,h,_,_=>(by cases h)
  | .fn _ _,_,_,_,_,h,_,_=>(by cases h)
theorem zsM {W W':World} (hl:laidOutB P = true) (hb:Below W.heap.size W W'):∀ {ts:List TypeId} {vs:List Value} {ds:List (DataW H)} {ps:List MemPlace},
    (∀ t ∈ ts,P.readableRec t = true ∧ t < P.types.size)→DataW.TrodAll enc P W 0 (fun _=>true) true ts vs ds ps→(∀ x ∈ ps,x.block < W.heap.size)→∀ s:Nat→Bool,(∀ p ∈ ps,s p.block = true)→DataW.TrodAll enc P W' 0 s true ts vs ds ps
  | [],[],[],ps,_,h,_,s,_=>h
  | t :: ts,v :: vs,d :: ds,ps,ht,⟨p,q,h1,h2,e⟩,hlt,s,hs=>by
    subst e
    have h0:=ht t (by simp)
    refine ⟨p,q,?_,zsM hl hb (fun t' h'=>ht t' (by simp [h'])) h2 (fun x hx=>hlt x (by simp [hx])) s (fun x hx=>hs x (by simp [hx])),rfl⟩
    exact WideElems.Trod_stays hl h0.1 h0.2 h1 (fun x hx=>hb.same (hlt x (by simp [hx]))) (fun x hx=>hs x (by simp [hx]))
  | [],[],_ :: _,_,_,h,_,_,_=>h.elim
  | [],_ :: _,_,_,_,h,_,_,_=>h.elim
  | _ :: _,[],_,_,_,h,_,_,_=>h.elim
  | _ :: _,_ :: _,[],_,_,h,_,_,_=>h.elim
end
section
variable {P:Program} {H:Type} {enc:TypeId × Value→H}
theorem law_contract {fi:FuncId} {f:Func} {a:Ty} {tb:TypeId} {spec:ChangeSpec} {W:World} {base:Nat} {args:Array Value} {ds gs:List (DataW H)} {before:List MemPlace}
    (hl:laidOutB P = true) (hts:∀ t ∈ f.params.toList,P.readableRec t = true ∧ t < P.types.size) (hty:tyL P a f.params.toList = true) (hres:f.resultTypes = #[tb]) (hbool:P.underlying tb = some .bool) (hvars:spec.vars = [])
    (hfn:∀ ds:List (DataW H),ds.length = f.params.size→spec.fn H ds = { results:=[.lit (.bool true)],args:=ds })
    (hval:∀ (j:Nat) t v,f.params[j]? = some t→args[j]? = some v→Value.okWide P W .any base t v)
    (hW:DataW.Whole enc P f.params.toList spec.vars false W args.toList ds gs before)
    (hcall:∀ x,InR a x→bkI a x ≤ dbkAll ds→RepA P (FH.of W) a x args.toList→Calls P fi args W fun e W'=>e = .returned (.bool true) ∧ Below W.heap.size W W') :
    Calls P fi args W fun e W'=>∃ v,e = .returned v ∧ spec.post enc P f false true false false W args v W':=by
  have hW':=hW
  obtain ⟨p,q,hA,hV,rfl,hfz,hnd⟩:=hW
  rw [hvars] at hV
  obtain ⟨rfl,rfl⟩:=trodVars_none hV
  have hlt:∀ x ∈ p,x.block < W.heap.size:=fun x hx=>by simpa using hW'.lt x (by simp [hx])
  obtain ⟨x,hx,hin,hbk⟩:=zwO (w:=W) hty hA fun j t v ht hv=>⟨W,.any,base,hval j t v (by rw [← Array.getElem?_toList]; exact ht) (by rw [← Array.getElem?_toList]; exact hv)⟩
  have hlen:∀ {ts:List TypeId} {vs:List Value} {ds:List (DataW H)} {ps:List MemPlace},DataW.TrodAll enc P W 0 (fun _=>true) true ts vs ds ps→ds.length = ts.length:=by
    intro ts
    induction ts with
    | nil=>intro vs ds ps h; cases vs <;> cases ds <;> first | rfl | exact h.elim
    | cons t ts ih=>intro vs ds ps h; cases vs <;> cases ds <;> first | exact h.elim | (obtain ⟨_,_,_,h2,_⟩:=h; simp [ih h2])
  have hfn':=hfn ds (by rw [hlen hA]; simp)
  refine (hcall x hin hbk hx).mono fun e W' ⟨he,hb⟩=>?_
  subst he
  simp only [List.append_nil] at *
  refine ⟨_,rfl,ds,[],p,[],p,[],hW',?_,?_,?_,hb.frame _,fun h=>(by cases h)⟩
  · rw [List.append_nil,hfn',hres]
    exact trodAll_cons_mk (shut_bool hbool _) trodAll_mk0
  · rw [List.append_nil,hfn']
    exact zsM hl hb hts hA hlt _ (fun x hx=>by simpa using hlt x hx)
  · rw [List.append_nil,hfn',hvars]
    rfl
end
end Go.Ev
end
section
namespace Go.Ev
open Go.RowKit
section
variable {P:Program} {G:FH} {E:Env}
theorem znr.mk (hm:P.follows .mixedOrders = true) (hE:EnvOk P G E) {fi:FuncId} {f:Func} (hf:P.funcs[fi]? = some f) (hn:(f.name == "runtime.NumGoroutine") = false) (hb:f.body.isNone = false)
    {F:Fun} (h:∀ x y,F.spec x = some y→∃ K,evF E K f F.md F.a F.r x = some y):znr P G fi F:=by
  refine ⟨⟨f,hf,hn,hb⟩,fun x y hy F0 w vs hG hk hr=>?_⟩
  obtain ⟨K,he⟩:=h x y hy
  exact zLJ hm hE hf he hG hk hr
theorem EnvOk.nil {types:TT} {nt:Nat} {dp:Bool} (ht:types.all (fun k τ=>(tyB P τ).1 k) = true) {glob:List (Nat × AV)} (hg:∀ g v,look glob g = some v→∃ τ x cs,v = .dat (.ptr τ) (some x) ∧ At G ⟨g,0,none⟩ cs ∧ Rep P G τ x cs) {ext:List (Nat × Bool)} {jn:List Nat} (hx:∀ f add,look ext f = some add→ExtOk P f add):EnvOk P G ⟨types,[],glob,nt,dp,ext,jn,fun _=>none,false,false⟩ :=
  ⟨fun t τ h=>TT.all_look ht h,fun f F h=>by simp [look] at h,hg,hx,fun f H h=>by cases h⟩
theorem EnvOk.deep (hE:EnvOk P G E) (d:Bool):EnvOk P G { E with deep:=d }:=⟨hE.types,hE.funs,hE.glob,hE.ext,hE.hnd⟩
theorem EnvOk.cons (hE:EnvOk P G E) {fi:FuncId} {F:Fun} (h:znr P G fi F):EnvOk P G { E with funs:=(fi,F) :: E.funs }:=by
  refine ⟨hE.types,fun f F' h'=>?_,hE.glob,hE.ext,hE.hnd⟩
  simp only [look] at h'
  cases hb:Nat.beq fi f with
  | true =>
    rw [hb] at h'
    simp only [cond_true,Option.some.injEq] at h'
    subst h'
    rw [← Nat.eq_of_beq_eq_true hb]
    exact h
  | false=>rw [hb] at h'; exact hE.funs f F' h'
end
end Go.Ev
end
section
namespace Go.Ev
theorem zF1 {n:Nat} (h:n ≤ Go.maxLen):IntKind.wrap .i64 (n:Int) = (n:Int):=by
  unfold Go.maxLen at h
  exact IntWalk.i64_in _ (by omega)
def vd {α:Type} (p:α→Bool):List α→Int→Int
  | [],_=>-1
  | x :: xs,i=>cond (p x) i (vd p xs (i + 1))
theorem zxQ {α:Type} {p:α→Bool}:∀ (xs:List α) (i:Int),0 ≤ i→decide (vd p xs i ≥ 0) = xs.any p
  | [],_,_=>rfl
  | x :: xs,i,h=>by
    have ih:=zxQ (p:=p) xs (i + 1) (by omega)
    simp only [vd,List.any_cons]
    by_cases hp:p x = true
    · simp [hp,h]
    · simp only [Bool.not_eq_true] at hp
      simp only [hp,cond_false,Bool.false_or]
      exact ih
end Go.Ev
end
section
namespace Go.Ev
theorem zzz {i len:Nat} (h:i < len) (hl:len ≤ Go.maxLen):IntKind.wrap .i64 ((i:Int) + 1) = (i:Int) + 1:=by
  rw [show (i:Int) + 1 = ((i + 1:Nat):Int) by omega]
  exact zF1 (by omega)
theorem zb3 {α:Type} {l:List α} {i:Nat} (d:α) (h:i < l.length):l.drop i = l.getD i d :: l.drop (i + 1):=by
  rw [List.drop_eq_getElem_cons h]
  simp [List.getD,h]
theorem zMD {σ ρ:Type} {L:Nat→Int→σ→Option ρ} {len:Nat} (hl:len ≤ Go.maxLen) (F:Nat→σ→Option ρ) (I:Nat→σ→Prop)
    (hstep:∀ n i s,i < len→I i s→(∀ s',I (i + 1) s'→L n ((i:Int) + 1) s' = F (i + 1) s')→L (n + 1) (i:Int) s = F i s)
    (hend:∀ n s,I len s→L (n + 1) (len:Int) s = F len s) :
    ∀ (k i n:Nat) (s:σ),i + k = len→k < n→I i s→L n (i:Int) s = F i s:=by
  intro k
  induction k with
  | zero =>
    intro i n s hi hn hI
    obtain ⟨m,rfl⟩:∃ m,n = m + 1:=⟨n - 1,by omega⟩
    obtain rfl:i = len:=by omega
    exact hend m s hI
  | succ k ih =>
    intro i n s hi hn hI
    obtain ⟨m,rfl⟩:∃ m,n = m + 1:=⟨n - 1,by omega⟩
    refine hstep m i s (by omega) hI fun s' hI'=>?_
    have:=ih (i + 1) m s' (by omega) (by omega) hI'
    rw [show (i:Int) + 1 = ((i + 1:Nat):Int) by omega]
    exact this
theorem zLK {σ ρ:Type} {L:Nat→Int→σ→Option ρ} {len:Nat} (hl:len ≤ Go.maxLen) (F:Nat→σ→Option ρ) (I:Nat→σ→Prop)
    (hstep:∀ n i s,i < len→I i s→(∀ s',I (i + 1) s'→L n ((i:Int) + 1) s' = F (i + 1) s')→L (n + 1) (i:Int) s = F i s)
    (hend:∀ n s,I len s→L (n + 1) (len:Int) s = F len s) (n:Nat) (hn:len < n) (s:σ) (h0:I 0 s):L n 0 s = F 0 s :=
  zMD hl F I hstep hend len 0 n s (by omega) hn h0
end Go.Ev
end
section
namespace Go.Ev
abbrev Fnc (A R:Ty):Type:=A.I→Option R.I
def zg {σ ρ:Type} (B:(σ→Option ρ)→σ→Option ρ):Nat→σ→Option ρ
  | 0,_=>none
  | n + 1,s=>B (zg B n) s
noncomputable def evV {σ:Type} (E:Env) (K:Nat) (f:Func) (md:Nat) (R:Ty) (p ns:List Nat) (S:σ→St) (n:Nat):σ→Option R.I:=fun s=>evL E K f md R p ns n (S s)
theorem zF2 {E:Env} {K:Nat} {f:Func} {md:Nat} {R:Ty} {p ns:List Nat} {st:St}:evL E K f md R p ns 0 st = none:=by
  unfold evL
  split
  · split <;> rfl
  · rfl
theorem zr {σ:Type} {E:Env} {K:Nat} {f:Func} {md:Nat} {R:Ty} {p ns:List Nat} {S:σ→St} {B:(σ→Option R.I)→σ→Option R.I}
    (h:∀ n s,evV E K f md R p ns S (n + 1) s = B (evV E K f md R p ns S n) s):∀ n,evV E K f md R p ns S n = zg B n
  | 0=>by funext s; exact zF2
  | n + 1=>by funext s; rw [h,zr h n]; rfl
theorem qC {σ τ:Type} {E:Env} {K:Nat} {f:Func} {md:Nat} {R:Ty} {p ns:List Nat} {S:σ→St} {B:(τ→Option R.I)→(σ→Option R.I)→σ→Option R.I} {V1:Nat→τ→Option R.I} {W1:(σ→Option R.I)→τ→Option R.I}
    (h1:∀ n,V1 n = W1 (evV E K f md R p ns S n)) (h:∀ n s,evV E K f md R p ns S (n + 1) s = B (V1 n) (evV E K f md R p ns S n) s):∀ n,evV E K f md R p ns S n = zg (fun k=>B (W1 k) k) n :=
  zr fun n s=>by rw [← h1]; exact h n s
theorem zLL {σ τ υ:Type} {E:Env} {K:Nat} {f:Func} {md:Nat} {R:Ty} {p ns:List Nat} {S:σ→St} {B:(τ→Option R.I)→(υ→Option R.I)→(σ→Option R.I)→σ→Option R.I} {V1:Nat→τ→Option R.I} {W1:(σ→Option R.I)→τ→Option R.I} {V2:Nat→υ→Option R.I} {W2:(σ→Option R.I)→υ→Option R.I}
    (h1:∀ n,V1 n = W1 (evV E K f md R p ns S n)) (h2:∀ n,V2 n = W2 (evV E K f md R p ns S n)) (h:∀ n s,evV E K f md R p ns S (n + 1) s = B (V1 n) (V2 n) (evV E K f md R p ns S n) s):∀ n,evV E K f md R p ns S n = zg (fun k=>B (W1 k) (W2 k) k) n :=
  zr fun n s=>by rw [← h1,← h2]; exact h n s
def zzA {σ τ ρ:Type} (B0:(τ→Option ρ)→σ→Option ρ) (B1:(τ→Option ρ)→τ→Option ρ):Nat→σ→Option ρ
  | 0,_=>none
  | n + 1,s=>B0 (zg B1 n) s
theorem zLM {σ τ:Type} {E:Env} {K:Nat} {f:Func} {md:Nat} {R:Ty} {p ns:List Nat} {S0:σ→St} {S1:τ→St} {B0:(τ→Option R.I)→σ→Option R.I} {B1:(τ→Option R.I)→τ→Option R.I}
    (h1:∀ n,evV E K f md R p ns S1 n = zg B1 n) (h:∀ n s,evV E K f md R p ns S0 (n + 1) s = B0 (evV E K f md R p ns S1 n) s):∀ n,evV E K f md R p ns S0 n = zzA B0 B1 n
  | 0=>by funext s; exact zF2
  | n + 1=>by funext s; rw [h,h1]; rfl
def gt {σ ρ:Type} (B:σ→Option ρ):Nat→σ→Option ρ
  | 0,_=>none
  | _ + 1,s=>B s
noncomputable def evW {σ:Type} (E:Env) (K:Nat) (f:Func) (md:Nat) (R:Ty) (p ns:List Nat) (S:σ→St) (n:Nat):σ→Option R.I:=fun s=>evG E K f md R p ns n (S s)
theorem zME {E:Env} {K:Nat} {f:Func} {md:Nat} {R:Ty} {p ns:List Nat} {st:St}:evG E K f md R p ns 0 st = none:=by
  unfold evG
  split
  · split <;> rfl
  · rfl
theorem zLN {σ:Type} {E:Env} {K:Nat} {f:Func} {md:Nat} {R:Ty} {p ns:List Nat} {S:σ→St} {B:σ→Option R.I} (h:∀ n s,evW E K f md R p ns S (n + 1) s = B s):∀ n,evW E K f md R p ns S n = gt B n
  | 0=>by funext s; exact zME
  | n + 1=>by funext s; exact h n s
theorem zJC {σ τ:Type} {E:Env} {K:Nat} {f:Func} {md:Nat} {R:Ty} {p ns:List Nat} {S:σ→St} {B:(τ→Option R.I)→σ→Option R.I} {V1 W1:τ→Option R.I} (h1:V1 = W1)
    (h:∀ n s,evW E K f md R p ns S (n + 1) s = B V1 s):∀ n,evW E K f md R p ns S n = gt (B W1) n:=zLN fun n s=>by rw [← h1]; exact h n s
theorem tr1 {α X Y:Type} {T:α→X→Y} {V W:α} (h:V = W) {F:X→Y} (hx:∀ x,F x = T V x):F = T W:=by subst h; funext x; exact hx x
def En (E:Env) (d:Bool) (l:List Fun):Env:=⟨E.types,l.map fun F=>(F.id,F),E.glob,0,d,E.ext,[],fun _=>none,false,false⟩
def Ej (E:Env) (d:Bool) (js:List Nat) (l:List Fun):Env:=⟨E.types,l.map fun F=>(F.id,F),E.glob,0,d,E.ext,js,fun _=>none,false,js.any (Nat.beq 999999)⟩
def Sd (P:Program) (E:Env) (F:Fun):Prop:=∀ G,EnvOk P G E→znr P G F.id F
def Sds (P:Program) (E:Env):List Fun→Prop
  | []=>True
  | F :: l=>Sd P E F ∧ Sds P E l
def jA (f:Func):Bool:=!(f.name == "runtime.NumGoroutine") && !f.body.isNone
theorem Sds.env {P:Program} {E:Env} {l:List Fun} {d:Bool} {G:FH} (h:Sds P E l) (hE:EnvOk P G E):EnvOk P G (En E d l):=by
  refine ⟨hE.types,?_,hE.glob,hE.ext,fun f H h=>by cases h⟩
  intro f F hf
  have key:∀ l:List Fun,Sds P E l→look (l.map fun F=>(F.id,F)) f = some F→znr P G f F:=by
    intro l
    induction l with
    | nil=>intro _ h; cases h
    | cons F' l ih =>
      intro hs hl
      simp only [List.map_cons,look] at hl
      cases hb:Nat.beq F'.id f with
      | true =>
        rw [hb] at hl
        cases hl
        rw [← Nat.eq_of_beq_eq_true hb]
        exact hs.1 G hE
      | false=>rw [hb] at hl; exact ih hs.2 hl
  exact key l h hf
theorem Sds.envJ {P:Program} {E:Env} {l:List Fun} {d:Bool} {js:List Nat} {G:FH} (h:Sds P E l) (hE:EnvOk P G E):EnvOk P G (Ej E d js l) :=
  have h':=h.env (d:=d) hE
  ⟨h'.types,h'.funs,h'.glob,h'.ext,fun f H h=>by cases h⟩
theorem Sd.mkJ {P:Program} {E:Env} {l:List Fun} {d:Bool} {js:List Nat} {F:Fun} {f:Func} {K:Nat} (hm:P.follows .mixedOrders = true) (hl:Sds P E l) (hf:P.funcs[F.id]? = some f) (ho:jA f = true)
    (h:evF (Ej E d js l) K f F.md F.a F.r = F.spec):Sd P E F:=by
  intro G hE
  unfold jA at ho
  simp only [Bool.and_eq_true,Bool.not_eq_true'] at ho
  exact znr.mk hm (hl.envJ hE) hf ho.1 ho.2 fun x y hy=>⟨K,by rw [h]; exact hy⟩
theorem Sd.mk {P:Program} {E:Env} {l:List Fun} {d:Bool} {F:Fun} {f:Func} {K:Nat} (hm:P.follows .mixedOrders = true) (hl:Sds P E l) (hf:P.funcs[F.id]? = some f) (ho:jA f = true)
    (h:evF (En E d l) K f F.md F.a F.r = F.spec):Sd P E F:=by
  intro G hE
  unfold jA at ho
  simp only [Bool.and_eq_true,Bool.not_eq_true'] at ho
  exact znr.mk hm (hl.env hE) hf ho.1 ho.2 fun x y hy=>⟨K,by rw [h]; exact hy⟩
def FOk (P:Program):List (Nat × Func)→Prop
  | []=>True
  | p :: l=>(P.funcs[p.1]? = some p.2 ∧ jA p.2 = true) ∧ FOk P l
theorem FOk.look {P:Program}:∀ {l:List (Nat × Func)} {i:Nat} {f:Func},FOk P l→look l i = some f→P.funcs[i]? = some f ∧ jA f = true
  | (j,g) :: l,i,f,h,hl=>by
    simp only [Go.Ev.look] at hl
    cases hb:Nat.beq j i with
    | true=>rw [hb] at hl; cases hl; rw [← Nat.eq_of_beq_eq_true hb]; exact h.1
    | false=>rw [hb] at hl; exact FOk.look h.2 hl
theorem EnvOk.inl {P:Program} {G:FH} {E:Env} (hm:P.follows .mixedOrders = true) (hE:EnvOk P G E) {fs:List (Nat × Func)} (hfs:FOk P fs):∀ d,EnvOk P G (E.inl fs d)
  | 0=>hE
  | d + 1=>⟨hE.types,hE.funs,hE.glob,hE.ext,fun i H h=>by
    obtain ⟨fn,h1,rfl⟩:=Option.map_eq_some_iff.1 h
    obtain ⟨h2,h3⟩:=hfs.look h1
    unfold jA at h3
    simp only [Bool.and_eq_true,Bool.not_eq_true'] at h3
    exact zNg hm (EnvOk.inl hm hE hfs d) h2 h3.1 h3.2⟩
theorem Sd.mkI {P:Program} {E:Env} {l:List Fun} {d:Bool} {js:List Nat} {fs:List (Nat × Func)} {n:Nat} {F:Fun} {f:Func} {K:Nat} (hm:P.follows .mixedOrders = true) (hl:Sds P E l) (hfs:FOk P fs) (hf:P.funcs[F.id]? = some f) (ho:jA f = true)
    (h:evF ((Ej E d js l).inl fs n) K f F.md F.a F.r = F.spec):Sd P E F:=by
  intro G hE
  unfold jA at ho
  simp only [Bool.and_eq_true,Bool.not_eq_true'] at ho
  exact znr.mk hm ((hl.envJ hE).inl hm hfs n) hf ho.1 ho.2 fun x y hy=>⟨K,by rw [h]; exact hy⟩
@[reducible] def ch:List Ty→Ty
  | []=>.unit
  | a :: l=>.pair a (ch l)
abbrev u0 {a0 a1:Type} (x:a0 × a1) (v:a0):a0 × a1:=(v,x.2)
abbrev u1 {a0 a1 a2:Type} (x:a0 × a1 × a2) (v:a1):a0 × a1 × a2:=(x.1,v,x.2.2)
abbrev u2 {a0 a1 a2 a3:Type} (x:a0 × a1 × a2 × a3) (v:a2):a0 × a1 × a2 × a3:=(x.1,x.2.1,v,x.2.2.2)
abbrev u5 {a0 a1 a2 a3 a4 a5 a6:Type} (x:a0 × a1 × a2 × a3 × a4 × a5 × a6) (v:a5):a0 × a1 × a2 × a3 × a4 × a5 × a6:=(x.1,x.2.1,x.2.2.1,x.2.2.2.1,x.2.2.2.2.1,v,x.2.2.2.2.2.2)
abbrev u7 {a0 a1 a2 a3 a4 a5 a6 a7 a8:Type} (x:a0 × a1 × a2 × a3 × a4 × a5 × a6 × a7 × a8) (v:a7):a0 × a1 × a2 × a3 × a4 × a5 × a6 × a7 × a8:=(x.1,x.2.1,x.2.2.1,x.2.2.2.1,x.2.2.2.2.1,x.2.2.2.2.2.1,x.2.2.2.2.2.2.1,v,x.2.2.2.2.2.2.2.2)
abbrev u8 {a0 a1 a2 a3 a4 a5 a6 a7 a8 a9:Type} (x:a0 × a1 × a2 × a3 × a4 × a5 × a6 × a7 × a8 × a9) (v:a8):a0 × a1 × a2 × a3 × a4 × a5 × a6 × a7 × a8 × a9:=(x.1,x.2.1,x.2.2.1,x.2.2.2.1,x.2.2.2.2.1,x.2.2.2.2.2.1,x.2.2.2.2.2.2.1,x.2.2.2.2.2.2.2.1,v,x.2.2.2.2.2.2.2.2.2)
def inR {ρ:Type} (i n:Int) (x:Option ρ):Option ρ:=cond (decide (0 ≤ i)) (cond (decide (i < n)) x none) none
theorem zLO {ρ:Type} {i n:Int} {x:Option ρ} (h0:0 ≤ i) (h1:i < n):inR i n x = x:=by unfold inR; rw [decide_eq_true h0,decide_eq_true h1]; rfl
abbrev ix {α:Type} (d:α) (l:List α) (i:Int):α:=List.getD l (Int.toNat i) d
def K0:Nat:=Go.maxLen + 2
theorem zFd {n:Nat} (h:n ≤ Go.maxLen):n < K0:=by unfold K0; omega
abbrev tI:Ty:=.int .i64
abbrev tU:Ty:=.int .u64
abbrev wI (n:Int):Int:=IntKind.wrap .i64 n
abbrev wU (n:Int):Int:=IntKind.wrap .u64 n
end Go.Ev
end
section
namespace Go.Ev
theorem zfH {σ α ρ:Type} {B:(σ→Option ρ)→σ→Option ρ} {len:Nat} (hl:len ≤ Go.maxLen) (st:Int→α→σ) (F:Nat→α→Option ρ) (I:Nat→α→Prop)
    (hstep:∀ k (i:Nat) s,i < len→I i s→(∀ s',I (i + 1) s'→k (st (wI (i + 1)) s') = F (i + 1) s')→B k (st i s) = F i s)
    (hend:∀ k s,I len s→B k (st len s) = F len s) (s:α) (h0:I 0 s):zg B K0 (st 0 s) = F 0 s:=by
  refine zLK (L:=fun n i s=>zg B n (st i s)) hl F I (fun n i s hi hI h=>?_) (fun n s hI=>hend _ s hI) K0 (zFd hl) s h0
  refine hstep _ i s hi hI fun s' hI'=>?_
  rw [wI,zzz hi hl]
  exact h s' hI'
theorem zX {α:Type} {l:List α} {i:Nat} {d:α} (h:i < l.length):l.getD i d ∈ l:=by
  rw [List.getD_eq_getElem?_getD,List.getElem?_eq_getElem h]
  exact List.getElem_mem h
theorem zC (p:Bool):some (p,()) = bif p then some (true,()) else some (false,()):=by cases p <;> rfl
theorem jB {σ α ρ:Type} {B:(σ→Option ρ)→σ→Option ρ} {l:List α} (d:α) {p:α→Bool} {fin bad:Option ρ} (st:Int→σ) (hl:l.length ≤ Go.maxLen)
    (hin:∀ k (i:Nat) x,i < l.length→l.getD i d = x→x ∈ l→B k (st i) = bif p x then k (st (wI (i + 1))) else bad) (hout:∀ k,B k (st l.length) = fin):zg B K0 (st 0) = bif l.all p then fin else bad:=by
  have:=zfH (α:=Unit) (B:=B) hl (fun i _=>st i) (fun i _=>bif (l.drop i).all p then fin else bad) (fun _ _=>True) (fun k i s hi _ h=>?_) (fun k s _=>?_) () trivial
  · simpa using this
  · rw [hin k i _ hi rfl (zX hi),h () trivial,zb3 d hi,List.all_cons]
    cases p (l.getD i d) <;> rfl
  · rw [hout,List.drop_of_length_le (Nat.le_refl _)]; rfl
theorem zDd {σ ρ:Type} {B:(σ→Option ρ)→σ→Option ρ} {n:Nat} (hn:n ≤ Go.maxLen) {p:Nat→Bool} {fin bad:Option ρ} (st:Int→σ)
    (hin:∀ k (i:Nat),i < n→B k (st i) = bif p i then k (st (wI (i + 1))) else bad) (hout:∀ k,B k (st n) = fin):zg B K0 (st 0) = bif (List.range n).all p then fin else bad:=by
  have hx:∀ i,i < n→(List.range n).getD i 0 = i:=fun i hi=>by simp [List.getD,hi]
  refine jB (l:=List.range n) 0 st (by simpa using hn) (fun k i x hi hx' _=>?_) (by simpa using hout)
  simp only [List.length_range] at hi
  rw [hx i hi] at hx'
  subst hx'
  exact hin k i hi
theorem zo2 {σ α β ρ:Type} {B:(σ→Option ρ)→σ→Option ρ} {l:List β} (d:β) (st:Int→α→σ) (G:List β→α→Option ρ) (hl:l.length ≤ Go.maxLen)
    (hin:∀ k (i:Nat) x rest s,i < l.length→l.getD i d = x→x ∈ l→l.drop (i + 1) = rest→(∀ s',k (st (wI (i + 1)) s') = G rest s')→B k (st i s) = G (x :: rest) s) (hout:∀ k s,B k (st l.length s) = G [] s) (s:α):zg B K0 (st 0 s) = G l s:=by
  have:=zfH (B:=B) hl st (fun i s=>G (l.drop i) s) (fun _ _=>True) (fun k i s hi _ h=>?_) (fun k s _=>?_) s trivial
  · simpa using this
  · rw [zb3 d hi]
    exact hin k i _ _ s hi rfl (zX hi) rfl fun s'=>h s' trivial
  · rw [hout,List.drop_of_length_le (Nat.le_refl _)]
def zW (p:Nat→Bool) (i:Nat):Nat→Bool
  | 0=>true
  | n + 1=>p i && zW p (i + 1) n
theorem qP {p:Nat→Bool}:∀ {n i:Nat},zW p i n = true ↔ ∀ j,i ≤ j→j < i + n→p j = true
  | 0,i=>by simp only [zW,true_iff]; intro j h1 h2; omega
  | n + 1,i=>by
    simp only [zW,Bool.and_eq_true,qP (n:=n)]
    constructor
    · rintro ⟨h1,h2⟩ j h3 h4
      by_cases e:j = i
      · subst e; exact h1
      · exact h2 j (by omega) (by omega)
    · intro h
      exact ⟨h i (Nat.le_refl i) (by omega),fun j h1 h2=>h j (by omega) (by omega)⟩
theorem z7 {σ ρ:Type} {B:(σ→Option ρ)→σ→Option ρ} {i0 n:Nat} (hn:n ≤ Go.maxLen) (h0:i0 ≤ n) {p:Nat→Bool} {fin bad:Option ρ} (st:Int→σ)
    (hin:∀ k (i:Nat),i0 ≤ i→i < n→B k (st i) = bif p i then k (st (wI (i + 1))) else bad) (hout:∀ k,B k (st n) = fin):zg B K0 (st i0) = bif zW p i0 (n - i0) then fin else bad:=by
  have key:∀ (m i fuel:Nat),i0 ≤ i→i + m = n→m < fuel→zg B fuel (st i) = bif zW p i m then fin else bad:=by
    intro m
    induction m with
    | zero =>
      intro i fuel _ h1 h2
      obtain ⟨f,rfl⟩:∃ f,fuel = f + 1:=⟨fuel - 1,by omega⟩
      obtain rfl:i = n:=by omega
      exact hout _
    | succ m ih =>
      intro i fuel h1 h2 h3
      obtain ⟨f,rfl⟩:∃ f,fuel = f + 1:=⟨fuel - 1,by omega⟩
      show B (zg B f) (st i) = _
      rw [hin _ i h1 (by omega),wI,zzz (len:=n) (by omega) hn,show ((i:Int) + 1) = ((i + 1:Nat):Int) by omega,ih (i + 1) f (by omega) (by omega) (by omega)]
      simp only [zW]
      cases p i <;> rfl
  exact key (n - i0) i0 K0 (Nat.le_refl _) (by omega) (by have:=zFd hn; omega)
theorem zi2 {i:Nat} (h:1 ≤ i) (hi:i ≤ Go.maxLen):wI ((i:Int) - 1) = ((i - 1:Nat):Int):=by
  rw [show ((i:Int) - 1) = ((i - 1:Nat):Int) by omega]
  exact zF1 (by omega)
section
variable {τ:Ty} {l:List τ.I} {g:τ.I × Unit→Option (Bool × Unit)} {p:τ.I→Bool}
theorem zj {ρ:Type} {i n:Nat} {x:Option ρ} (h:i < n):inR (i:Int) (n:Int) x = x:=zLO (by omega) (by omega)
theorem ltT {i n:Nat} (h:i < n):decide ((i:Int) < (n:Int)) = true:=decide_eq_true (by omega)
theorem ltF (n:Nat):decide ((n:Int) < (n:Int)) = false:=decide_eq_false (by omega)
theorem zG {α:Type} {d:α} {l:List α} {i:Nat}:ix d l (i:Int) = l.getD i d:=by rw [ix,Int.toNat_natCast]
theorem qQ {B:((List τ.I × Option (τ.I × Unit→Option (Bool × Unit)) × Int × Int)→Option (Int × Unit))→(List τ.I × Option (τ.I × Unit→Option (Bool × Unit)) × Int × Int)→Option (Int × Unit)}
    (hB:∀ k l g n i,B k (l,g,n,i) = bif decide (i < n) then inR i (List.length l:Int) (Option.bind g fun q0=>Option.bind (q0 (ix (ze τ) l i,())) fun q1=>bif q1.1 then some (i,()) else k (l,g,n,wI (i + 1))) else some (-1,()))
    (hl:l.length ≤ Go.maxLen) (hp:∀ x ∈ l,g (x,()) = some (p x,())):zg B K0 (l,some g,(l.length:Int),0) = some (vd p l 0,()):=by
  have:=zfH (α:=Unit) (B:=B) hl (fun i _=>(l,some g,(l.length:Int),i)) (fun i _=>some (vd p (l.drop i) i,())) (fun _ _=>True) (fun k i s hi _ h=>?_) (fun k s _=>?_) () trivial
  · simpa using this
  · rw [hB,ltT hi,zj hi,zG,Option.bind_some,hp _ (zX hi),Option.bind_some,h () trivial,zb3 (ze τ) hi]
    simp only [vd,cond_true]
    cases p (l.getD i (ze τ)) <;> rfl
  · rw [hB,ltF,List.drop_of_length_le (Nat.le_refl _)]; rfl
theorem qs {f:Fnc (.pair (.sl τ) (.pair (.fn (.pair τ .unit) (.pair .bool .unit)) .unit)) (.pair (.int .i64) .unit)} (hf:f (l,some g,()) = some (vd p l 0,())) :
    (Option.bind (f (l,some g,())) fun q0=>bif decide ((q0.1:Int) ≥ 0) then some (true,()) else some (false,())) = some (l.any p,()):=by
  rw [hf,Option.bind_some,zxQ (p:=p) l 0 (Int.le_refl 0)]
  cases l.any p <;> rfl
theorem j9 {α:Type} {l:List α} {p:α→Bool}:(!(l.any fun x=>!p x)) = l.all p:=by
  rw [List.not_any_eq_all_not]
  congr 1
  funext x
  simp
def eqL (τ:Ty) (a b:List τ.I):Bool:=decide (a.length = b.length) && (List.zip a b).all fun q=>eqI τ q.1 q.2
theorem zia (a b:Nat):((a:Int) != (b:Int)) = !decide (a = b):=by
  by_cases h:a = b
  · subst h; simp
  · have:(a:Int) ≠ (b:Int):=by omega
    simp [h,this]
theorem zxR {α β:Type} {d:α} {e:β}:∀ (a:List α) (b:List β) (i:Nat),i < a.length→i < b.length→(List.zip a b).getD i (d,e) = (a.getD i d,b.getD i e)
  | x :: a,y :: b,0,_,_=>rfl
  | x :: a,y :: b,i + 1,h1,h2=>zxR a b i (by simpa using h1) (by simpa using h2)
  | [],_,_,h,_=>by simp at h
  | _ :: _,[],_,_,h=>by simp at h
theorem ye {x:Option (List τ.I × Unit)} (h:l.length ≤ lim) (hx:x = bif decide (List.length (List.replicate 0 (ze τ)) + List.length l ≤ lim) then some (List.replicate 0 (ze τ) ++ l,()) else none) :
    (bif List.isEmpty l then zfR (some ([],())) x else x) = some (l,()):=by
  have e:x = some (l,()):=by rw [hx,decide_eq_true (by simpa using h)]; rfl
  rw [e]
  cases l with
  | nil=>exact zLx _
  | cons y l=>rfl
end
end Go.Ev
end
section
namespace Go.Proofs.YtgomalidoilgbaaGreatDoor
open Go.Ev
abbrev qa:Ty:=.st (.pair .bool (.pair .str .unit))
abbrev qT:Type:=(Bool × (ByteArray × Unit))
abbrev zgT:qT:=ze qa
abbrev zL:Ty:=.st (.pair (.int .i64) (.pair (.int .i64) .unit))
abbrev vI:Type:=(Int × (Int × Unit))
abbrev zF3:vI:=ze zL
abbrev zO:Ty:=.st (.pair .bool (.pair zL (.pair zL (.pair (.int .i64) .unit))))
abbrev qb:Type:=(Bool × (vI × (vI × (Int × Unit))))
abbrev qj:qb:=ze zO
abbrev zw:Ty:=.st (.pair .bool (.pair .str (.pair (.int .i64) (.pair (.int .i64) (.pair zL .unit)))))
abbrev qc:Type:=(Bool × (ByteArray × (Int × (Int × (vI × Unit)))))
abbrev zB:qc:=ze zw
abbrev zV:Ty:=.st (.pair .bool (.pair (.int .i64) (.pair (.int .i64) (.pair (.int .i64) (.pair .str .unit)))))
abbrev qq:Type:=(Bool × (Int × (Int × (Int × (ByteArray × Unit)))))
abbrev zaC:qq:=ze zV
abbrev zb4:Ty:=.st (.pair (.int .i64) (.pair (.int .u64) (.pair (.int .i64) .unit)))
abbrev zjp:Type:=(Int × (Int × (Int × Unit)))
abbrev zx:Ty:=.st (.pair .bool (.pair (.int .i64) (.pair (.int .i64) (.pair zb4 (.pair zb4 .unit)))))
abbrev zv:Type:=(Bool × (Int × (Int × (zjp × (zjp × Unit)))))
abbrev zS:zv:=ze zx
abbrev zp:Ty:=.st (.pair .bool (.pair (.int .i64) (.pair (.int .i64) (.pair (.int .i64) (.pair (.int .i64) (.pair (.int .i64) (.pair (.int .u64) (.pair (.int .u64) (.pair (.int .u64) (.pair (.int .i64) .unit))))))))))
abbrev zt:Type:=(Bool × (Int × (Int × (Int × (Int × (Int × (Int × (Int × (Int × (Int × Unit))))))))))
abbrev zI:zt:=ze zp
abbrev zu:Ty:=.st (.pair (.int .u64) (.pair (.int .i64) (.pair (.int .i64) (.pair (.int .i64) (.pair (.int .i64) (.pair (.int .i64) (.pair (.int .i64) (.pair (.int .u64) (.pair (.int .u64) (.pair (.int .i64) .unit))))))))))
abbrev zH:Type:=(Int × (Int × (Int × (Int × (Int × (Int × (Int × (Int × (Int × (Int × Unit))))))))))
abbrev vN:zH:=ze zu
abbrev tMe:Ty:=.st (.pair (.int .i64) (.pair (.int .i64) (.pair (.int .i64) .unit)))
abbrev pMe:Type:=(Int × (Int × (Int × Unit)))
abbrev qL:Ty:=.st (.pair (.int .i64) (.pair (.int .i64) (.pair (.int .i64) (.pair (.int .i64) (.pair (.int .u64) .unit)))))
abbrev yc:Type:=(Int × (Int × (Int × (Int × (Int × Unit)))))
abbrev zq:Ty:=.st (.pair (.int .i64) (.pair (.int .u64) .unit))
abbrev zz:Type:=(Int × (Int × Unit))
abbrev jg:zz:=ze zq
abbrev zav:Ty:=.st (.pair (.int .i64) (.pair (.int .i64) (.pair (.int .i64) (.pair .str .unit))))
abbrev qD:Ty:=.st (.pair .str (.pair .str (.pair (.int .i64) (.pair .bool .unit))))
abbrev qy:Type:=(ByteArray × (ByteArray × (Int × (Bool × Unit))))
abbrev qo:qy:=ze qD
abbrev za6:Ty:=.st (.pair (.int .i64) (.pair (.int .i64) (.pair (.int .i64) (.pair (.int .i64) (.pair (.int .i64) (.pair (.int .u64) .unit))))))
abbrev zaw:Type:=(Int × (Int × (Int × (Int × (Int × (Int × Unit))))))
abbrev qg:zaw:=ze za6
abbrev zzB:Ty:=.st (.pair (.int .i64) (.pair (.int .i64) (.pair (.int .i64) .unit)))
abbrev zaO:Ty:=.st (.pair (.sl (.int .u8)) .unit)
abbrev yo:Ty:=.st (.pair (.int .i64) (.pair (.int .i64) .unit))
abbrev z8:Type:=(Int × (Int × Unit))
abbrev qG:z8:=ze yo
abbrev zgm:Ty:=.st (.pair (.int .i64) (.pair (.fn (.pair (.ptr zu) .unit) (.pair (.int .u64) .unit)) (.pair (.fn (.pair (.ptr zu) (.pair (.int .u64) .unit)) .unit) .unit)))
abbrev zfI:Ty:=.st (.pair (.int .i64) (.pair (.int .i64) (.pair zL .unit)))
abbrev zBx:Type:=(Int × (Int × (vI × Unit)))
abbrev vO:Ty:=.st (.pair (.sl zx) (.pair (.fn (.pair zx .unit) (.pair .bool .unit)) .unit))
abbrev zb5:Type:=((List zv) × ((Option ((zv × Unit)→Option (Bool × Unit))) × Unit))
abbrev zo3:Ty:=.st (.pair (.sl zw) (.pair (.fn (.pair zw .unit) (.pair .bool .unit)) .unit))
abbrev yT:Ty:=.st (.pair (.sl zp) (.pair (.fn (.pair zp .unit) (.pair .bool .unit)) .unit))
abbrev zeU:Type:=((List zt) × ((Option ((zt × Unit)→Option (Bool × Unit))) × Unit))
abbrev zmI:Ty:=.st (.pair (.int .u8) (.pair (.int .u8) .unit))
abbrev zl:Ty:=.st (.pair (.sl qa) (.pair (.sl zO) (.pair (.sl zw) (.pair (.sl zV) (.pair (.sl zx) (.pair (.sl (.arr 4 (.int .u64))) (.pair (.sl zL) (.pair (.arr 4 (.int .u64)) (.pair (.arr 4 (.int .u64)) .unit)))))))))
abbrev zn:Type:=((List qT) × ((List qb) × ((List qc) × ((List qq) × ((List zv) × ((List (List Int)) × ((List vI) × ((List Int) × ((List Int) × Unit)))))))))
abbrev za:zn:=ze zl
abbrev zo:Ty:=.st (.pair (.sl zq) (.pair (.sl (.int .i64)) (.pair (.sl qD) (.pair (.sl yo) (.pair (.sl za6) (.pair (.int .i64) (.pair (.int .i64) (.pair (.int .i64) (.pair (.int .i64) .unit)))))))))
abbrev zf:Type:=((List zz) × ((List Int) × ((List qy) × ((List z8) × ((List zaw) × (Int × (Int × (Int × (Int × Unit)))))))))
abbrev zh:Ty:=.st (.pair (.int .u64) (.pair (.sl zl) (.pair (.sl (.sl (.int .i64))) (.pair (.sl zp) (.pair (.sl zu) (.pair (.sl (.int .i64)) .unit))))))
abbrev zb:Type:=(Int × ((List zn) × ((List (List Int)) × ((List zt) × ((List zH) × ((List Int) × Unit))))))
abbrev zhI:Ty:=.st (.pair (.fn (.pair (.ptr zh) .unit) (.pair (.int .i64) .unit)) .unit)
abbrev qp:Ty:=.st (.pair zo (.pair zh .unit))
abbrev qU:Type:=(zf × (zb × Unit))
def types:TT:=(.node (.node (.node (.node (.node (.node (.node (.node (.node .nil 1 (.fn .unit .unit) .nil) 2 (.int .i64) (.node .nil 3 (.int .i64) .nil)) 4 .bool (.node (.node .nil 5 (.int .u8) .nil) 6 (.int .u8) .nil)) 7 (.st (.pair (.int .i64) (.pair (.int .i64) (.pair .bool (.pair (.int .u8) .unit))))) (.node (.node (.node .nil 8 (.st (.pair (.int .i64) (.pair (.int .i64) (.pair .bool (.pair (.int .u8) .unit))))) .nil) 9 .str .nil) 10 .str (.node (.node .nil 11 .str .nil) 12 (.int .u64) .nil))) 21 (.int .i32) (.node (.node (.node (.node .nil 22 (.int .u64) .nil) 23 (.sl zl) .nil) 24 (.sl (.sl (.int .i64))) (.node (.node .nil 25 (.sl zp) .nil) 26 (.sl zu) .nil)) 27 (.sl (.int .i64)) (.node (.node (.node .nil 28 (.st (.pair (.int .u64) (.pair (.sl zl) (.pair (.sl (.sl (.int .i64))) (.pair (.sl zp) (.pair (.sl zu) (.pair (.sl (.int .i64)) .unit))))))) .nil) 29 zh .nil) 30 (.fn (.pair zh .unit) (.pair zh .unit)) (.node (.node .nil 31 (.fn (.pair zh (.pair zh .unit)) (.pair .bool .unit)) .nil) 32 (.sl qa) .nil)))) 33 (.sl zO) (.node (.node (.node (.node (.node .nil 34 (.sl zw) .nil) 35 (.sl zV) .nil) 36 (.sl zx) (.node (.node .nil 37 (.sl (.arr 4 (.int .u64))) .nil) 38 (.sl zL) .nil)) 39 (.arr 4 (.int .u64)) (.node (.node (.node .nil 40 (.st (.pair (.sl qa) (.pair (.sl zO) (.pair (.sl zw) (.pair (.sl zV) (.pair (.sl zx) (.pair (.sl (.arr 4 (.int .u64))) (.pair (.sl zL) (.pair (.arr 4 (.int .u64)) (.pair (.arr 4 (.int .u64)) .unit)))))))))) .nil) 41 zl .nil) 42 (.st (.pair .bool (.pair .str .unit))) (.node (.node .nil 43 qa .nil) 44 (.st (.pair (.int .i64) (.pair (.int .i64) .unit))) .nil))) 45 zL (.node (.node (.node (.node .nil 46 (.st (.pair .bool (.pair zL (.pair zL (.pair (.int .i64) .unit))))) .nil) 47 zO .nil) 48 (.st (.pair .bool (.pair .str (.pair (.int .i64) (.pair (.int .i64) (.pair zL .unit)))))) (.node (.node .nil 49 zw .nil) 50 (.st (.pair .bool (.pair (.int .i64) (.pair (.int .i64) (.pair (.int .i64) (.pair .str .unit)))))) .nil)) 51 zV (.node (.node (.node .nil 52 (.st (.pair (.int .i64) (.pair (.int .u64) (.pair (.int .i64) .unit)))) .nil) 53 zb4 .nil) 54 (.st (.pair .bool (.pair (.int .i64) (.pair (.int .i64) (.pair zb4 (.pair zb4 .unit)))))) (.node (.node .nil 55 zx .nil) 56 (.st (.pair .bool (.pair (.int .i64) (.pair (.int .i64) (.pair (.int .i64) (.pair (.int .i64) (.pair (.int .i64) (.pair (.int .u64) (.pair (.int .u64) (.pair (.int .u64) (.pair (.int .i64) .unit))))))))))) .nil))))) 57 zp (.node (.node (.node (.node (.node (.node .nil 58 (.st (.pair (.int .u64) (.pair (.int .i64) (.pair (.int .i64) (.pair (.int .i64) (.pair (.int .i64) (.pair (.int .i64) (.pair (.int .i64) (.pair (.int .u64) (.pair (.int .u64) (.pair (.int .i64) .unit))))))))))) .nil) 59 zu .nil) 60 (.fn .unit (.pair .bool .unit)) (.node (.node .nil 61 (.sl zq) .nil) 62 (.sl qD) .nil)) 63 (.sl yo) (.node (.node (.node .nil 64 (.sl za6) .nil) 65 (.st (.pair (.sl zq) (.pair (.sl (.int .i64)) (.pair (.sl qD) (.pair (.sl yo) (.pair (.sl za6) (.pair (.int .i64) (.pair (.int .i64) (.pair (.int .i64) (.pair (.int .i64) .unit)))))))))) .nil) 66 zo (.node (.node .nil 67 (.st (.pair (.int .i64) (.pair (.int .i64) (.pair (.int .i64) .unit)))) .nil) 68 tMe .nil))) 69 (.st (.pair (.int .i64) (.pair (.int .i64) (.pair (.int .i64) (.pair (.int .i64) (.pair (.int .u64) .unit)))))) (.node (.node (.node (.node .nil 70 qL .nil) 71 (.int .i64) .nil) 73 (.fn (.pair zo (.pair zh (.pair tMe (.pair qL .unit)))) (.pair zh (.pair (.int .i64) .unit))) (.node (.node .nil 74 (.fn (.pair zo (.pair zh (.pair tMe (.pair (.int .i64) (.pair (.int .i64) (.pair (.int .i64) (.pair (.int .i64) (.pair (.int .u64) .unit)))))))) (.pair zh (.pair (.int .i64) .unit))) .nil) 76 (.fn (.pair zo (.pair zh (.pair tMe .unit))) (.pair (.arr 4 (.int .u64)) (.pair (.int .i64) .unit))) .nil)) 77 (.fn (.pair zo (.pair zh (.pair tMe .unit))) (.pair .bool .unit)) (.node (.node (.node .nil 78 (.fn (.pair zo (.pair zh (.pair tMe (.pair qL .unit)))) (.pair .bool .unit)) .nil) 79 (.fn (.pair zo (.pair zh (.pair tMe (.pair (.int .i64) (.pair (.int .i64) (.pair (.int .i64) (.pair (.int .u64) .unit))))))) (.pair zh (.pair (.int .i64) .unit))) .nil) 80 (.fn (.pair zo (.pair zh .unit)) (.pair .bool .unit)) (.node (.node .nil 81 (.fn (.pair zq (.pair zq .unit)) (.pair .bool .unit)) .nil) 82 (.st (.pair (.int .i64) (.pair (.int .u64) .unit))) .nil)))) 83 zq (.node (.node (.node (.node (.node .nil 84 (.sl (.int .u8)) .nil) 85 (.fn (.pair zo (.pair zh .unit)) (.pair (.sl (.int .u8)) .unit)) .nil) 86 (.fn (.pair zo .unit) (.pair (.int .i64) .unit)) (.node (.node .nil 87 (.st (.pair (.int .i64) (.pair (.int .i64) (.pair (.int .i64) (.pair .str .unit))))) .nil) 88 zav .nil)) 90 (.fn (.pair zo (.pair zh (.pair tMe (.pair zav .unit)))) (.pair zh (.pair (.int .i64) (.pair (.int .i64) .unit)))) (.node (.node (.node .nil 91 (.fn (.pair zo (.pair zh (.pair tMe (.pair (.int .i64) (.pair (.int .i64) (.pair (.int .i64) (.pair .str .unit))))))) (.pair zh (.pair (.int .i64) (.pair (.int .i64) .unit)))) .nil) 93 (.fn (.pair zo (.pair zh (.pair tMe .unit))) (.pair (.sl (.int .i64)) (.pair (.int .i64) .unit))) .nil) 95 (.fn (.pair zo (.pair zh (.pair tMe .unit))) (.pair (.sl zL) (.pair (.int .i64) .unit))) (.node (.node .nil 96 (.fn (.pair (.sl (.int .i64)) (.pair (.sl (.int .i64)) .unit)) (.pair .bool .unit)) .nil) 97 (.fn (.pair (.sl zL) (.pair (.sl zL) .unit)) (.pair .bool .unit)) .nil))) 98 (.fn (.pair zo (.pair zh (.pair tMe (.pair zav .unit)))) (.pair .bool .unit)) (.node (.node (.node (.node .nil 100 (.fn (.pair zh (.pair (.int .i64) .unit)) (.pair (.int .u64) (.pair (.int .i64) .unit))) .nil) 101 (.fn (.pair zq .unit) (.pair .bool .unit)) .nil) 102 (.fn (.pair zo (.pair zh (.pair zh (.pair zq .unit)))) (.pair .bool .unit)) (.node (.node .nil 103 (.fn (.pair zo (.pair zh (.pair tMe (.pair qL (.pair zq .unit))))) (.pair .bool .unit)) .nil) 104 (.fn (.pair zo (.pair zh (.pair zh (.pair tMe (.pair qL (.pair zq .unit)))))) (.pair .bool .unit)) .nil)) 105 (.fn (.pair zh .unit) (.pair (.int .i64) .unit)) (.node (.node (.node .nil 106 (.fn (.pair zo (.pair zh (.pair tMe (.pair zav (.pair zq .unit))))) (.pair .bool .unit)) .nil) 107 (.fn (.pair zo (.pair zh (.pair zh (.pair tMe (.pair zav (.pair zq .unit)))))) (.pair .bool .unit)) .nil) 108 (.fn (.pair (.sl zp) .unit) (.pair (.sl zp) .unit)) (.node (.node .nil 109 (.fn (.pair (.sl zu) .unit) (.pair (.sl zu) .unit)) .nil) 110 (.fn (.pair (.sl (.int .i64)) .unit) (.pair (.sl (.int .i64)) .unit)) .nil)))))) 111 (.fn (.pair (.sl (.sl (.int .i64))) .unit) (.pair (.sl (.sl (.int .i64))) .unit)) (.node (.node (.node (.node (.node (.node (.node .nil 112 (.fn (.pair (.sl zl) .unit) (.pair (.sl zl) .unit)) .nil) 113 (.fn (.pair (.sl qa) .unit) (.pair (.sl qa) .unit)) .nil) 114 (.fn (.pair (.sl zO) .unit) (.pair (.sl zO) .unit)) (.node (.node .nil 115 (.fn (.pair (.sl zw) .unit) (.pair (.sl zw) .unit)) .nil) 116 (.fn (.pair (.sl zV) .unit) (.pair (.sl zV) .unit)) .nil)) 117 (.fn (.pair (.sl zx) .unit) (.pair (.sl zx) .unit)) (.node (.node (.node .nil 118 (.fn (.pair (.sl (.arr 4 (.int .u64))) .unit) (.pair (.sl (.arr 4 (.int .u64))) .unit)) .nil) 119 (.fn (.pair (.sl zL) .unit) (.pair (.sl zL) .unit)) .nil) 120 (.fn (.pair (.sl (.sl (.int .i64))) (.pair (.sl (.sl (.int .i64))) .unit)) (.pair .bool .unit)) (.node (.node .nil 121 (.fn (.pair (.sl zp) (.pair (.sl zp) .unit)) (.pair .bool .unit)) .nil) 122 (.fn (.pair (.sl zu) (.pair (.sl zu) .unit)) (.pair .bool .unit)) .nil))) 123 (.fn (.pair zl (.pair zl .unit)) (.pair .bool .unit)) (.node (.node (.node (.node .nil 124 (.fn (.pair (.sl zl) (.pair (.sl zl) (.pair (.fn (.pair zl (.pair zl .unit)) (.pair .bool .unit)) .unit))) (.pair .bool .unit)) .nil) 125 (.fn (.pair (.sl (.sl (.int .i64))) (.pair (.sl (.sl (.int .i64))) (.pair (.fn (.pair (.sl (.int .i64)) (.pair (.sl (.int .i64)) .unit)) (.pair .bool .unit)) .unit))) (.pair .bool .unit)) .nil) 126 (.fn .unit (.pair zo .unit)) (.node (.node .nil 127 (.fn (.pair zo .unit) (.pair zh (.pair (.int .i64) .unit))) .nil) 128 (.fn (.pair zo (.pair zh (.pair zL .unit))) (.pair .bool .unit)) .nil)) 130 (.fn (.pair zo (.pair zh (.pair (.int .i64) .unit))) (.pair tMe (.pair (.int .i64) .unit))) (.node (.node (.node .nil 131 (.fn (.pair zo (.pair zh (.pair tMe (.pair (.int .i64) (.pair (.int .u64) .unit))))) (.pair zh (.pair (.int .i64) .unit))) .nil) 132 (.fn (.pair zo (.pair zh (.pair tMe (.pair (.int .i64) (.pair (.int .i64) (.pair (.int .u64) .unit)))))) (.pair zh (.pair (.int .i64) .unit))) .nil) 133 (.st (.pair .str (.pair .str (.pair (.int .i64) (.pair .bool .unit))))) (.node (.node .nil 134 qD .nil) 135 (.fn (.pair (.int .u64) (.pair (.int .u64) .unit)) (.pair (.int .u64) (.pair (.int .i64) .unit))) .nil)))) 136 (.st (.pair (.int .i64) (.pair (.int .i64) (.pair (.int .i64) (.pair (.int .i64) (.pair (.int .i64) (.pair (.int .u64) .unit))))))) (.node (.node (.node (.node (.node .nil 137 za6 .nil) 138 (.fn (.pair zh (.pair (.int .i64) (.pair (.int .i64) (.pair (.int .i64) (.pair (.int .u64) .unit))))) (.pair zh .unit)) .nil) 139 (.fn (.pair zh (.pair (.int .i64) (.pair zl .unit))) (.pair zh .unit)) (.node (.node .nil 140 (.fn (.pair zo (.pair (.int .i64) (.pair (.int .i64) .unit))) (.pair .bool .unit)) .nil) 141 (.ptr (.arr 4 (.int .u64))) .nil)) 142 (.fn (.pair (.ptr zh) (.pair (.int .i64) (.pair (.int .i64) .unit))) (.pair (.ptr (.arr 4 (.int .u64))) .unit)) (.node (.node (.node .nil 143 (.ptr zh) .nil) 144 (.fn (.pair zo (.pair tMe .unit)) (.pair .bool .unit)) .nil) 145 (.fn (.pair zo (.pair zh (.pair tMe (.pair (.int .i64) (.pair (.int .u64) .unit))))) (.pair .bool .unit)) (.node (.node .nil 146 (.fn (.pair zh (.pair (.sl zhI) .unit)) (.pair zh (.pair (.int .i64) .unit))) .nil) 147 (.fn (.pair (.ptr zh) .unit) (.pair (.int .i64) .unit)) .nil))) 148 (.st (.pair (.fn (.pair (.ptr zh) .unit) (.pair (.int .i64) .unit)) .unit)) (.node (.node (.node (.node .nil 149 zhI .nil) 150 (.fn (.pair .bool (.pair (.int .i64) .unit)) (.pair zhI .unit)) .nil) 151 (.fn (.pair (.int .i64) (.pair (.int .i64) (.pair (.int .i64) (.pair (.int .u64) .unit)))) (.pair zhI .unit)) (.node (.node .nil 152 (.fn (.pair zo .unit) (.pair .bool .unit)) .nil) 153 (.fn (.pair zo (.pair zh (.pair (.int .i64) .unit))) (.pair .bool .unit)) .nil)) 154 (.st (.pair (.int .i64) (.pair (.int .i64) (.pair (.int .i64) .unit)))) (.node (.node (.node .nil 155 zzB .nil) 157 (.fn (.pair zo .unit) (.pair zzB (.pair (.int .i64) .unit))) .nil) 158 (.ptr zaO) (.node (.node .nil 159 (.st (.pair (.sl (.int .u8)) .unit)) .nil) 160 zaO .nil))))) 161 (.fn (.pair (.sl (.int .u64)) .unit) .unit) (.node (.node (.node (.node (.node (.node .nil 162 (.fn (.pair (.int .i64) .unit) .unit) .nil) 163 (.fn (.pair (.sl (.int .i64)) .unit) .unit) .nil) 164 (.fn (.pair zl .unit) .unit) (.node (.node .nil 165 (.fn (.pair (.ptr zaO) (.pair (.sl zp) (.pair (.fn (.pair zp .unit) (.pair .bool .unit)) (.pair (.fn (.pair zp .unit) .unit) .unit)))) .unit) .nil) 166 (.fn (.pair zp .unit) (.pair .bool .unit)) .nil)) 167 (.fn (.pair zp .unit) .unit) (.node (.node (.node .nil 168 (.fn (.pair zu .unit) (.pair (.sl (.int .u8)) .unit)) .nil) 169 (.fn (.pair za6 (.pair (.int .i64) .unit)) (.pair (.int .i64) .unit)) .nil) 170 (.fn (.pair zo (.pair zh (.pair tMe (.pair .str .unit)))) (.pair zh (.pair (.int .i64) (.pair (.int .i64) .unit)))) (.node (.node .nil 171 (.fn (.pair zo (.pair zh (.pair tMe (.pair (.int .i64) .unit)))) (.pair zh (.pair (.int .i64) .unit))) .nil) 172 (.fn (.pair zo (.pair zh (.pair tMe (.pair (.int .i64) (.pair (.int .i64) .unit))))) (.pair zh (.pair (.int .i64) .unit))) .nil))) 174 (.fn (.pair (.sl zw) (.pair .str (.pair (.int .i64) .unit))) (.pair (.sl zw) (.pair (.int .i64) (.pair (.int .i64) .unit)))) (.node (.node (.node (.node .nil 176 (.fn (.pair (.sl zw) (.pair (.int .i64) (.pair (.int .i64) .unit))) (.pair (.sl zw) (.pair (.int .i64) .unit))) .nil) 177 (.fn (.pair (.sl zw) (.pair (.int .i64) (.pair (.int .i64) (.pair zL .unit)))) (.pair (.sl zw) (.pair (.int .i64) .unit))) .nil) 178 (.fn (.pair zh (.pair tMe .unit)) (.pair zL .unit)) (.node (.node .nil 179 (.fn (.pair (.sl zw) (.pair (.int .i64) (.pair (.int .i64) .unit))) (.pair .bool .unit)) .nil) 180 (.fn (.pair (.sl zw) (.pair (.int .i64) (.pair (.int .i64) (.pair (.int .i64) (.pair (.int .i64) .unit))))) (.pair (.sl zw) (.pair (.int .i64) .unit))) .nil)) 181 (.fn (.pair (.sl zw) (.pair (.int .i64) .unit)) (.pair (.sl (.int .i64)) .unit)) (.node (.node (.node .nil 182 (.fn (.pair zh (.pair tMe .unit)) (.pair (.sl zw) .unit)) .nil) 183 (.fn (.pair (.sl zw) (.pair zL .unit)) (.pair (.sl (.int .i64)) .unit)) .nil) 184 (.st (.pair zo (.pair zh .unit))) (.node (.node .nil 185 qp .nil) 186 (.sl (.fn .unit (.pair .bool .unit))) .nil)))) 187 (.fn (.pair (.int .i64) .unit) (.pair .bool .unit)) (.node (.node (.node (.node (.node .nil 188 (.fn (.pair (.sl zp) (.pair (.int .i64) .unit)) (.pair (.int .u64) (.pair (.int .i64) .unit))) .nil) 189 (.sl (.int .u64)) .nil) 190 (.fn (.pair (.sl zx) (.pair (.int .i64) .unit)) (.pair (.int .u64) (.pair (.int .i64) .unit))) (.node (.node .nil 191 (.fn (.pair (.sl (.int .u64)) .unit) (.pair (.int .u64) (.pair (.int .i64) .unit))) .nil) 192 (.fn (.pair zo (.pair zh (.pair zq .unit))) (.pair zh (.pair (.int .i64) .unit))) .nil)) 193 (.fn (.pair (.sl qa) (.pair (.sl qa) .unit)) (.pair .bool .unit)) (.node (.node (.node .nil 194 (.fn (.pair (.sl zO) (.pair (.sl zO) .unit)) (.pair .bool .unit)) .nil) 195 (.fn (.pair (.sl zw) (.pair (.sl zw) .unit)) (.pair .bool .unit)) .nil) 196 (.fn (.pair (.sl zV) (.pair (.sl zV) .unit)) (.pair .bool .unit)) (.node (.node .nil 197 (.fn (.pair (.sl zx) (.pair (.sl zx) .unit)) (.pair .bool .unit)) .nil) 198 (.fn (.pair (.sl (.arr 4 (.int .u64))) (.pair (.sl (.arr 4 (.int .u64))) .unit)) (.pair .bool .unit)) .nil))) 199 (.st (.pair (.int .i64) (.pair (.int .i64) .unit))) (.node (.node (.node (.node .nil 200 yo .nil) 201 (.fn (.pair zo .unit) (.pair (.sl (.sl (.int .i64))) .unit)) .nil) 202 (.fn (.pair zo (.pair za6 .unit)) (.pair zl .unit)) (.node (.node .nil 203 (.fn (.pair zh (.pair zL .unit)) (.pair .bool .unit)) .nil) 204 (.fn (.pair zh (.pair (.int .i64) (.pair (.fn (.pair zl .unit) (.pair (.arr 4 (.int .u64)) .unit)) .unit))) (.pair (.int .u64) (.pair (.int .i64) .unit))) .nil)) 205 (.fn (.pair zl .unit) (.pair (.arr 4 (.int .u64)) .unit)) (.node (.node (.node .nil 206 (.fn (.pair zo (.pair (.sl (.sl (.int .i64))) (.pair (.int .i64) (.pair (.int .i64) .unit)))) (.pair .bool .unit)) .nil) 207 (.fn (.pair zo (.pair (.int .i64) .unit)) (.pair .bool .unit)) .nil) 208 (.sl zhI) (.node (.node .nil 209 (.fn (.pair (.arr 4 (.int .u64)) (.pair (.int .i64) (.pair (.int .u64) .unit))) (.pair (.arr 4 (.int .u64)) (.pair (.int .i64) .unit))) .nil) 210 (.fn (.pair (.sl zq) .unit) (.pair .bool .unit)) .nil))))))) 211 (.fn (.pair (.sl qD) .unit) (.pair .bool .unit)) (.node (.node (.node (.node (.node (.node (.node (.node .nil 212 (.fn (.pair (.sl yo) (.pair (.sl zq) (.pair (.int .i64) .unit))) (.pair .bool .unit)) .nil) 213 (.fn (.pair (.sl za6) .unit) (.pair .bool .unit)) (.node .nil 214 (.fn (.pair zo (.pair (.sl (.sl (.int .i64))) .unit)) (.pair .bool .unit)) .nil)) 215 (.fn (.pair (.sl zp) .unit) (.pair .bool .unit)) (.node (.node .nil 216 (.fn (.pair (.sl zu) .unit) (.pair .bool .unit)) .nil) 217 (.fn (.pair (.sl qa) .unit) (.pair .bool .unit)) .nil)) 218 (.fn (.pair (.sl zO) .unit) (.pair .bool .unit)) (.node (.node (.node .nil 219 (.fn (.pair (.sl zw) .unit) (.pair .bool .unit)) .nil) 220 (.fn (.pair (.sl zV) .unit) (.pair .bool .unit)) .nil) 221 (.fn (.pair (.sl zx) .unit) (.pair .bool .unit)) (.node (.node .nil 222 (.fn (.pair zo (.pair zh (.pair zL (.pair (.int .i64) .unit)))) (.pair .bool .unit)) .nil) 223 (.fn (.pair zo (.pair zh (.pair (.int .i64) (.pair (.int .i64) .unit)))) (.pair .bool .unit)) .nil))) 224 (.fn (.pair zo (.pair zl (.pair (.int .i64) .unit))) (.pair .bool .unit)) (.node (.node (.node (.node .nil 225 (.fn (.pair (.fn (.pair (.int .i64) .unit) (.pair .bool .unit)) .unit) (.pair (.int .i64) .unit)) .nil) 227 (.fn (.pair zzB .unit) (.pair (.int .i64) (.pair (.int .i64) .unit))) .nil) 228 (.fn (.pair zzB .unit) (.pair (.int .i64) .unit)) (.node (.node .nil 229 (.fn (.pair (.sl (.int .u8)) (.pair (.int .u64) (.pair (.int .i64) .unit))) (.pair (.sl (.int .u8)) .unit)) .nil) 230 (.fn (.pair (.ptr zaO) (.pair (.sl qa) (.pair (.fn (.pair qa .unit) (.pair .bool .unit)) (.pair (.fn (.pair qa .unit) .unit) .unit)))) .unit) .nil)) 231 (.fn (.pair qa .unit) (.pair .bool .unit)) (.node (.node (.node .nil 232 (.fn (.pair .str .unit) .unit) .nil) 233 (.fn (.pair qa .unit) .unit) .nil) 234 (.fn (.pair (.ptr zaO) (.pair (.sl zO) (.pair (.fn (.pair zO .unit) (.pair .bool .unit)) (.pair (.fn (.pair zO .unit) .unit) .unit)))) .unit) (.node (.node .nil 235 (.fn (.pair zO .unit) (.pair .bool .unit)) .nil) 236 (.fn (.pair zL .unit) .unit) .nil)))) 237 (.fn (.pair zO .unit) .unit) (.node (.node (.node (.node (.node .nil 238 (.fn (.pair (.ptr zaO) (.pair (.sl zw) (.pair (.fn (.pair zw .unit) (.pair .bool .unit)) (.pair (.fn (.pair zw .unit) .unit) .unit)))) .unit) .nil) 239 (.fn (.pair zw .unit) (.pair .bool .unit)) .nil) 240 (.fn (.pair zw .unit) .unit) (.node (.node .nil 241 (.fn (.pair (.ptr zaO) (.pair (.sl zV) (.pair (.fn (.pair zV .unit) (.pair .bool .unit)) (.pair (.fn (.pair zV .unit) .unit) .unit)))) .unit) .nil) 242 (.fn (.pair zV .unit) (.pair .bool .unit)) .nil)) 243 (.fn (.pair zV .unit) .unit) (.node (.node (.node .nil 244 (.fn (.pair (.ptr zaO) (.pair (.sl zx) (.pair (.fn (.pair zx .unit) (.pair .bool .unit)) (.pair (.fn (.pair zx .unit) .unit) .unit)))) .unit) .nil) 245 (.fn (.pair zx .unit) (.pair .bool .unit)) .nil) 246 (.fn (.pair zb4 .unit) .unit) (.node (.node .nil 247 (.fn (.pair zx .unit) .unit) .nil) 248 (.fn (.pair zu .unit) (.pair .bool .unit)) .nil))) 249 (.sl zgm) (.node (.node (.node (.node .nil 250 (.fn .unit (.pair (.sl zgm) .unit)) .nil) 251 (.fn (.pair (.ptr zu) .unit) (.pair (.int .u64) .unit)) .nil) 252 (.fn (.pair (.ptr zu) (.pair (.int .u64) .unit)) .unit) (.node (.node .nil 253 (.st (.pair (.int .i64) (.pair (.fn (.pair (.ptr zu) .unit) (.pair (.int .u64) .unit)) (.pair (.fn (.pair (.ptr zu) (.pair (.int .u64) .unit)) .unit) .unit)))) .nil) 254 zgm .nil)) 255 (.ptr zu) (.node (.node (.node .nil 256 (.sl (.fn (.pair zo .unit) (.pair .bool .unit))) .nil) 257 (.arr 5 (.int .i64)) .nil) 258 (.fn (.pair zo (.pair zh (.pair tMe (.pair (.fn (.pair (.sl zw) .unit) (.pair (.sl zw) (.pair (.int .i64) .unit))) .unit)))) (.pair zh (.pair (.int .i64) .unit))) (.node (.node .nil 259 (.fn (.pair (.sl zw) .unit) (.pair (.sl zw) (.pair (.int .i64) .unit))) .nil) 260 (.fn (.pair (.sl zw) (.pair (.int .i64) (.pair (.int .i64) (.pair (.int .i64) .unit)))) (.pair (.sl zw) (.pair (.int .i64) .unit))) .nil))))) 261 (.fn (.pair .str .unit) (.pair .bool .unit)) (.node (.node (.node (.node (.node (.node .nil 262 (.fn (.pair (.sl zw) (.pair (.int .i64) (.pair zw .unit))) (.pair (.sl zw) .unit)) .nil) 263 (.fn (.pair zL .unit) (.pair .bool .unit)) .nil) 264 (.fn (.pair (.sl zw) (.pair zfI .unit)) (.pair (.sl (.int .i64)) .unit)) (.node (.node .nil 265 (.st (.pair (.int .i64) (.pair (.int .i64) (.pair zL .unit)))) .nil) 266 zfI .nil)) 267 (.fn (.pair (.int .i64) .unit) (.pair zfI .unit)) (.node (.node (.node .nil 268 (.fn (.pair zL .unit) (.pair zfI .unit)) .nil) 269 (.fn (.pair (.sl zl) (.pair (.fn (.pair zl .unit) (.pair .bool .unit)) .unit)) (.pair .bool .unit)) .nil) 270 (.fn (.pair zl .unit) (.pair .bool .unit)) (.node (.node .nil 271 (.fn (.pair (.sl zp) (.pair (.fn (.pair zp .unit) (.pair .bool .unit)) .unit)) (.pair .bool .unit)) .nil) 272 (.fn (.pair (.sl zu) (.pair (.fn (.pair zu .unit) (.pair .bool .unit)) .unit)) (.pair .bool .unit)) .nil))) 273 (.fn (.pair (.sl (.int .i64)) (.pair (.fn (.pair (.int .i64) .unit) (.pair .bool .unit)) .unit)) (.pair .bool .unit)) (.node (.node (.node (.node .nil 274 (.fn (.pair (.int .i64) .unit) (.pair (.fn (.pair zL .unit) (.pair .bool .unit)) .unit)) .nil) 275 (.fn (.pair (.sl zO) (.pair (.fn (.pair zO .unit) (.pair .bool .unit)) .unit)) (.pair .bool .unit)) .nil) 276 (.fn (.pair (.sl zw) (.pair (.fn (.pair zw .unit) (.pair .bool .unit)) .unit)) (.pair .bool .unit)) (.node (.node .nil 277 (.fn (.pair (.sl zL) (.pair (.fn (.pair zL .unit) (.pair .bool .unit)) .unit)) (.pair .bool .unit)) .nil) 278 (.fn (.pair (.sl zV) (.pair (.fn (.pair zV .unit) (.pair .bool .unit)) .unit)) (.pair .bool .unit)) .nil)) 279 (.fn (.pair (.int .i64) (.pair (.int .i64) .unit)) (.pair .bool .unit)) (.node (.node (.node .nil 280 (.fn (.pair (.sl zx) (.pair (.fn (.pair zx .unit) (.pair .bool .unit)) .unit)) (.pair .bool .unit)) .nil) 281 (.ptr vO) .nil) 282 (.fn (.pair (.sl zx) (.pair (.fn (.pair zx .unit) (.pair .bool .unit)) .unit)) (.pair (.ptr vO) .unit)) (.node (.node .nil 283 (.fn .unit (.pair (.sl (.int .i64)) .unit)) .nil) 284 (.fn (.pair (.sl zp) .unit) (.pair (.sl (.int .i64)) .unit)) .nil)))) 285 (.fn (.pair zp .unit) (.pair (.int .i64) .unit)) (.node (.node (.node (.node (.node .nil 286 (.fn (.pair (.sl zx) .unit) (.pair (.ptr vO) .unit)) .nil) 288 (.fn (.pair (.int .i64) .unit) (.pair zq (.pair (.int .i64) .unit))) .nil) 289 (.fn (.pair (.sl zl) (.pair (.sl zl) (.pair (.fn (.pair (.int .i64) .unit) (.pair .bool .unit)) .unit))) (.pair (.sl zl) .unit)) (.node (.node .nil 290 (.fn (.pair (.sl (.sl (.int .i64))) (.pair (.sl (.sl (.int .i64))) (.pair (.fn (.pair (.int .i64) .unit) (.pair .bool .unit)) .unit))) (.pair (.sl (.sl (.int .i64))) .unit)) .nil) 291 (.fn (.pair (.sl (.int .i64)) (.pair (.sl (.int .i64)) (.pair (.fn (.pair (.int .i64) .unit) (.pair .bool .unit)) .unit))) (.pair (.sl (.int .i64)) .unit)) .nil)) 293 (.fn (.pair (.int .u64) (.pair (.int .u64) (.pair (.int .u64) .unit))) (.pair (.int .u64) (.pair (.int .u64) .unit))) (.node (.node (.node .nil 294 (.fn (.pair zo (.pair (.int .i64) .unit)) (.pair (.sl (.int .i64)) .unit)) .nil) 295 (.fn (.pair zq (.pair (.int .i64) .unit)) (.pair .bool .unit)) .nil) 296 (.fn (.pair (.int .i64) (.pair (.int .i64) (.pair (.int .i64) .unit))) (.pair .bool .unit)) (.node (.node .nil 297 (.fn (.pair (.arr 4 (.int .u64)) (.pair (.int .i64) (.pair (.int .u64) (.pair (.fn (.pair (.int .u64) (.pair (.int .u64) .unit)) (.pair (.int .u64) (.pair (.int .i64) .unit))) .unit)))) (.pair (.arr 4 (.int .u64)) (.pair (.int .i64) .unit))) .nil) 298 (.fn (.pair zq (.pair zq .unit)) (.pair (.int .i64) .unit)) .nil))) 299 (.fn (.pair (.sl zq) (.pair zq .unit)) (.pair (.int .i64) .unit)) (.node (.node (.node (.node .nil 300 (.fn (.pair (.int .i64) .unit) (.pair zq .unit)) .nil) 301 (.fn (.pair (.sl yo) (.pair (.int .i64) .unit)) (.pair .bool .unit)) .nil) 302 (.fn (.pair (.sl zp) (.pair (.int .i64) (.pair (.int .i64) .unit))) (.pair .bool .unit)) (.node (.node .nil 303 (.fn (.pair zu (.pair zu .unit)) (.pair .bool .unit)) .nil) 304 (.fn (.pair zp (.pair (.int .i64) .unit)) (.pair (.int .u64) .unit)) .nil)) 305 (.fn (.pair zzB .unit) (.pair .bool .unit)) (.node (.node (.node .nil 306 (.fn (.pair (.int .i64) .unit) (.pair (.int .i64) .unit)) .nil) 307 (.fn (.pair (.sl (.int .u8)) .unit) (.pair (.sl (.int .u8)) .unit)) .nil) 308 (.fn (.pair (.sl (.int .u8)) (.pair .str .unit)) (.pair (.sl (.int .u8)) .unit)) (.node (.node .nil 309 (.fn (.pair (.int .i64) (.pair (.int .u64) (.pair (.int .u64) .unit))) (.pair (.int .u64) (.pair (.int .i64) .unit))) .nil) 310 (.fn (.pair (.fn (.pair (.ptr zu) .unit) (.pair (.ptr (.int .u64)) .unit)) .unit) (.pair zgm .unit)) .nil)))))) 311 (.ptr (.int .u64)) (.node (.node (.node (.node (.node (.node (.node .nil 312 (.fn (.pair (.ptr zu) .unit) (.pair (.ptr (.int .u64)) .unit)) .nil) 313 (.fn (.pair (.fn (.pair (.ptr zu) .unit) (.pair (.ptr (.int .i64)) .unit)) .unit) (.pair zgm .unit)) .nil) 314 (.ptr (.int .i64)) (.node (.node .nil 315 (.fn (.pair (.ptr zu) .unit) (.pair (.ptr (.int .i64)) .unit)) .nil) 316 (.fn (.pair (.sl zq) (.pair (.fn (.pair zq .unit) (.pair .bool .unit)) .unit)) (.pair .bool .unit)) .nil)) 317 (.fn (.pair qD .unit) (.pair .bool .unit)) (.node (.node (.node .nil 318 (.fn (.pair (.sl qD) (.pair (.fn (.pair qD .unit) (.pair .bool .unit)) .unit)) (.pair .bool .unit)) .nil) 319 (.fn (.pair (.sl .str) .unit) (.pair .bool .unit)) .nil) 320 (.sl .str) (.node (.node .nil 321 (.fn (.pair zo .unit) (.pair (.sl .str) .unit)) .nil) 322 (.fn (.pair (.sl zq) (.pair zq .unit)) (.pair .bool .unit)) .nil))) 323 (.fn (.pair za6 .unit) (.pair (.sl (.int .i64)) .unit)) (.node (.node (.node (.node .nil 324 (.ptr zo3) .nil) 325 (.fn (.pair (.sl zw) .unit) (.pair (.ptr zo3) .unit)) .nil) 326 (.fn (.pair zw .unit) (.pair (.sl zw) (.pair (.int .i64) (.pair (.int .i64) .unit)))) (.node (.node .nil 327 (.fn (.pair zw (.pair zfI .unit)) (.pair zw .unit)) .nil) 328 (.fn (.pair (.sl zw) (.pair (.int .i64) (.pair zfI (.pair zfI .unit)))) (.pair (.sl zw) (.pair (.int .i64) .unit))) .nil)) 329 (.fn (.pair (.int .i64) (.pair zw .unit)) (.pair (.sl zw) (.pair (.int .i64) .unit))) (.node (.node (.node .nil 330 (.fn (.pair zw .unit) (.pair zfI .unit)) .nil) 331 (.fn (.pair (.sl qa) (.pair (.fn (.pair qa .unit) (.pair .bool .unit)) .unit)) (.pair .bool .unit)) .nil) 332 (.fn (.pair (.sl zO) (.pair zL (.pair (.int .i64) .unit))) (.pair (.int .i64) .unit)) (.node (.node .nil 333 (.pair (.int .i64) (.int .i64)) .nil) 334 (.fn (.pair zu (.pair zu .unit)) (.pair (.int .i64) .unit)) .nil)))) 335 (.st (.pair (.sl zx) (.pair (.fn (.pair zx .unit) (.pair .bool .unit)) .unit))) (.node (.node (.node (.node (.node .nil 336 vO .nil) 337 (.ptr yT) .nil) 338 (.fn (.pair (.sl zp) .unit) (.pair (.ptr yT) .unit)) (.node (.node .nil 339 (.fn (.pair (.sl (.int .i64)) (.pair (.fn (.pair (.int .i64) .unit) (.pair .bool .unit)) .unit)) (.pair (.int .i64) .unit)) .nil) 340 (.fn (.pair (.sl (.int .i64)) (.pair (.int .i64) .unit)) (.pair .bool .unit)) .nil)) 341 (.fn (.pair zq .unit) (.pair (.sl (.int .i64)) .unit)) (.node (.node (.node .nil 342 (.int .u64) .nil) 343 (.fn (.pair (.int .u8) .unit) (.pair .bool .unit)) .nil) 344 (.fn (.pair zb4 .unit) (.pair .bool .unit)) (.node (.node .nil 345 (.fn (.pair (.sl zq) (.pair (.fn (.pair zq .unit) (.pair .bool .unit)) .unit)) (.pair (.int .i64) .unit)) .nil) 346 (.fn (.pair (.sl (.int .i64)) .unit) (.pair (.int .i64) .unit)) .nil))) 347 (.fn (.pair (.int .i64) (.pair (.int .i64) .unit)) (.pair (.int .i64) .unit)) (.node (.node (.node (.node .nil 348 (.fn (.pair (.int .u64) (.pair (.int .u64) .unit)) (.pair (.int .i64) .unit)) .nil) 349 (.fn (.pair .str (.pair (.fn (.pair (.int .u8) .unit) (.pair .bool .unit)) .unit)) (.pair .bool .unit)) .nil) 350 (.fn (.pair (.sl qD) (.pair (.fn (.pair qD .unit) (.pair .bool .unit)) .unit)) (.pair (.int .i64) .unit)) (.node (.node .nil 351 (.pair .str (.int .i64)) .nil) 352 (.fn (.pair (.sl zw) (.pair (.fn (.pair zw .unit) (.pair .bool .unit)) .unit)) (.pair (.ptr zo3) .unit)) .nil)) 354 (.fn .unit (.pair (.int .i64) (.pair (.int .i64) .unit))) (.node (.node (.node .nil 355 (.st (.pair (.sl zw) (.pair (.fn (.pair zw .unit) (.pair .bool .unit)) .unit))) .nil) 356 zo3 .nil) 357 (.fn (.pair (.sl zl) (.pair (.fn (.pair zl .unit) (.pair .bool .unit)) .unit)) (.pair (.int .i64) .unit)) (.node (.node .nil 358 (.fn (.pair (.sl qa) (.pair (.fn (.pair qa .unit) (.pair .bool .unit)) .unit)) (.pair (.int .i64) .unit)) .nil) 359 (.fn (.pair (.sl zO) (.pair (.fn (.pair zO .unit) (.pair .bool .unit)) .unit)) (.pair (.int .i64) .unit)) .nil))))) 360 (.fn (.pair (.sl zw) (.pair (.fn (.pair zw .unit) (.pair .bool .unit)) .unit)) (.pair (.int .i64) .unit)) (.node (.node (.node (.node (.node (.node .nil 361 (.fn (.pair (.sl zV) (.pair (.fn (.pair zV .unit) (.pair .bool .unit)) .unit)) (.pair (.int .i64) .unit)) .nil) 362 (.fn (.pair (.sl zx) (.pair (.fn (.pair zx .unit) (.pair .bool .unit)) .unit)) (.pair (.int .i64) .unit)) .nil) 363 (.fn (.pair (.sl zp) (.pair (.fn (.pair zp .unit) (.pair .bool .unit)) .unit)) (.pair (.int .i64) .unit)) (.node (.node .nil 364 (.fn (.pair (.sl zu) (.pair (.fn (.pair zu .unit) (.pair .bool .unit)) .unit)) (.pair (.int .i64) .unit)) .nil) 365 (.fn (.pair (.sl zL) (.pair (.fn (.pair zL .unit) (.pair .bool .unit)) .unit)) (.pair (.int .i64) .unit)) .nil)) 366 (.fn (.pair (.sl zp) (.pair (.fn (.pair zp .unit) (.pair .bool .unit)) .unit)) (.pair (.ptr yT) .unit)) (.node (.node (.node .nil 367 (.st (.pair (.sl zp) (.pair (.fn (.pair zp .unit) (.pair .bool .unit)) .unit))) .nil) 368 yT .nil) 369 (.fn (.pair (.sl (.int .i64)) (.pair (.int .i64) .unit)) (.pair (.int .i64) .unit)) (.node (.node .nil 370 (.fn (.pair (.fn (.pair (.int .i64) .unit) (.pair .bool .unit)) .unit) .unit) .nil) 371 (.fn (.pair (.fn (.pair (.int .i64) .unit) (.pair .bool .unit)) .unit) .unit) .nil))) 372 (.fn (.pair zq .unit) (.pair (.fn (.pair (.fn (.pair (.int .i64) .unit) (.pair .bool .unit)) .unit) .unit) .unit)) (.node (.node (.node (.node .nil 373 (.fn (.pair (.int .u64) (.pair (.int .u64) .unit)) (.pair (.int .u64) (.pair (.int .u64) .unit))) .nil) 374 (.fn (.pair (.int .u64) .unit) (.pair .bool .unit)) .nil) 375 (.fn (.pair (.sl (.int .u8)) (.pair (.fn (.pair (.int .u8) .unit) (.pair .bool .unit)) .unit)) (.pair .bool .unit)) (.node (.node .nil 376 (.fn (.pair .str (.pair .str .unit)) (.pair .str .unit)) .nil) 377 (.fn (.pair (.int .u64) .unit) (.pair (.int .i64) .unit)) .nil)) 378 (.fn (.pair (.sl (.int .u8)) (.pair (.fn (.pair (.int .u8) .unit) (.pair .bool .unit)) .unit)) (.pair (.int .i64) .unit)) (.node (.node (.node .nil 379 (.fn (.pair .str (.pair (.int .u8) .unit)) (.pair .str .unit)) .nil) 380 (.arr 256 .bool) .nil) 381 (.arr 256 .bool) (.node (.node .nil 383 (.fn (.pair .str .unit) (.pair (.arr 256 .bool) (.pair .bool .unit))) .nil) 384 (.fn (.pair .str (.pair (.ptr (.arr 256 .bool)) .unit)) (.pair .str .unit)) .nil)))) 385 (.ptr (.arr 256 .bool)) (.node (.node (.node (.node (.node .nil 386 (.arr 64 (.int .u8)) .nil) 388 (.fn (.pair .str .unit) (.pair (.int .i32) (.pair (.int .i64) .unit))) .nil) 389 (.fn (.pair .str (.pair (.int .i32) .unit)) (.pair .bool .unit)) (.node (.node .nil 390 (.fn (.pair .str (.pair (.int .i32) .unit)) (.pair (.int .i64) .unit)) .nil) 391 (.arr 256 (.int .u8)) .nil)) 392 (.st (.pair (.int .u8) (.pair (.int .u8) .unit))) (.node (.node (.node .nil 393 zmI .nil) 394 (.arr 16 zmI) .nil) 395 (.fn (.pair .str (.pair (.int .u8) .unit)) (.pair (.int .i64) .unit)) (.node (.node .nil 396 (.fn (.pair (.int .i32) .unit) (.pair .bool .unit)) .nil) 397 (.fn (.pair .str (.pair .str .unit)) (.pair (.int .i64) .unit)) .nil))) 398 (.fn .unit (.pair .str .unit)) (.node (.node (.node (.node .nil 404 (.fn .unit (.pair (.int .i64) .unit)) .nil) 405 (.int .u32) .nil) 406 (.int .u8) (.node (.node .nil 407 (.int .u8) .nil) 409 (.ptr (.int .u8)) .nil)) 410 (.int .i32) (.node (.node (.node .nil 411 (.int .i32) .nil) 414 (.fn (.pair zx .unit) (.pair (.sl zx) (.pair (.int .i64) (.pair (.int .i64) .unit)))) .nil) 415 (.fn (.pair (.int .i64) (.pair zx .unit)) (.pair (.sl zx) (.pair (.int .i64) .unit))) (.node (.node .nil 416 (.fn (.pair zp .unit) (.pair (.sl zp) (.pair (.int .i64) (.pair (.int .i64) .unit)))) .nil) 417 (.fn (.pair (.int .i64) (.pair zp .unit)) (.pair (.sl zp) (.pair (.int .i64) .unit))) .nil))))))))
def glob:List (Nat × AV):=[]
abbrev A_law30_MoneyTells:Ty:=(.pair zo (.pair zh (.pair tMe (.pair qL .unit))))
def ext:List (Nat × Bool):=[(278,false),(372,true)]
def E0:Env:=⟨types,[],glob,0,false,ext,[],fun _=>none,false,false⟩
theorem zFe:Tryz.prog.follows .mixedOrders = true:=by kernel_rfl
theorem mkS {l:List Fun} {d:Bool} {F:Fun} {f:Go.Func} {K:Nat} (hl:Sds Tryz.prog E0 l) (hf:Tryz.prog.funcs[F.id]? = some f) (ho:jA f = true) (h:evF (En E0 d l) K f F.md F.a F.r = F.spec):Sd Tryz.prog E0 F:=Sd.mk zFe hl hf ho h
theorem zOm {l:List Fun} {d:Bool} {js:List Nat} {F:Fun} {f:Go.Func} {K:Nat} (hl:Sds Tryz.prog E0 l) (hf:Tryz.prog.funcs[F.id]? = some f) (ho:jA f = true) (h:evF (Ej E0 d js l) K f F.md F.a F.r = F.spec):Sd Tryz.prog E0 F:=Sd.mkJ zFe hl hf ho h
end Go.Proofs.YtgomalidoilgbaaGreatDoor
end
section
namespace Go.Proofs.YtgomalidoilgbaaGreatDoor
open Go.Ev
noncomputable section
abbrev Sq (F:Fun):Prop:=Sd Tryz.prog E0 F
def L0:List Fun:=[]
theorem h0:Sds Tryz.prog E0 L0:=trivial
theorem ms0 {d:Bool} {F:Fun} {f:Go.Func} {K:Nat} (hf:Tryz.prog.funcs[F.id]? = some f) (ho:jA f = true) (h:evF (En E0 d L0) K f F.md F.a F.r = F.spec):Sd Tryz.prog E0 F:=mkS h0 hf ho h
theorem ml0 {d:Bool} {F:Fun} {f:Go.Func} {S:Nat→F.a.I→Option F.r.I} (hf:Tryz.prog.funcs[F.id]? = some f) (ho:jA f = true) (h:∀ K,evF (En E0 d L0) K f F.md F.a F.r = S K) (e:S K0 = F.spec):Sd Tryz.prog E0 F:=mkS h0 hf ho ((h K0).trans e)
abbrev Es0:Env:=En E0 false L0
def zeV:((List zt) × Unit)→Option ((List zt) × Unit):=fun (x0,()) =>
  bif List.isEmpty x0 then zfR (some ([],())) (bif decide (List.length (List.replicate 0 (ze zp)) + List.length x0 ≤ lim) then some (List.replicate 0 (ze zp) ++ x0,()) else none) else bif decide (List.length (List.replicate 0 (ze zp)) + List.length x0 ≤ lim) then some (List.replicate 0 (ze zp) ++ x0,()) else none
abbrev znw:Fun:=⟨42,(ch [(.sl zp)]),(ch [(.sl zp)]),1,zeV⟩
theorem zxS:Sq znw:=ms0 (d:=false) (K:=0) Tryz.func42 (by kernel_rfl) (funext fun (x0,())=>by kernel_rfl)
def ziF:((List zH) × Unit)→Option ((List zH) × Unit):=fun (x0,()) =>
  bif List.isEmpty x0 then zfR (some ([],())) (bif decide (List.length (List.replicate 0 (ze zu)) + List.length x0 ≤ lim) then some (List.replicate 0 (ze zu) ++ x0,()) else none) else bif decide (List.length (List.replicate 0 (ze zu)) + List.length x0 ≤ lim) then some (List.replicate 0 (ze zu) ++ x0,()) else none
abbrev znx:Fun:=⟨43,(ch [(.sl zu)]),(ch [(.sl zu)]),1,ziF⟩
theorem zxT:Sq znx:=ms0 (d:=false) (K:=0) Tryz.func43 (by kernel_rfl) (funext fun (x0,())=>by kernel_rfl)
def zgU:((List Int) × Unit)→Option ((List Int) × Unit):=fun (x0,()) =>
  bif List.isEmpty x0 then zfR (some ([],())) (bif decide (List.length (List.replicate 0 (0:Int)) + List.length x0 ≤ lim) then some (List.replicate 0 (0:Int) ++ x0,()) else none) else bif decide (List.length (List.replicate 0 (0:Int)) + List.length x0 ≤ lim) then some (List.replicate 0 (0:Int) ++ x0,()) else none
abbrev zqN:Fun:=⟨44,(ch [(.sl tI)]),(ch [(.sl tI)]),1,zgU⟩
theorem zBy:Sq zqN:=ms0 (d:=false) (K:=0) Tryz.func44 (by kernel_rfl) (funext fun (x0,())=>by kernel_rfl)
def zjq:((List (List Int)) × Unit)→Option ((List (List Int)) × Unit):=fun (x0,()) =>
  bif List.isEmpty x0 then zfR (some ([],())) (bif decide (List.length (List.replicate 0 ([]:List Int)) + List.length x0 ≤ lim) then some (List.replicate 0 ([]:List Int) ++ x0,()) else none) else bif decide (List.length (List.replicate 0 ([]:List Int)) + List.length x0 ≤ lim) then some (List.replicate 0 ([]:List Int) ++ x0,()) else none
abbrev zo4:Fun:=⟨45,(ch [(.sl (.sl tI))]),(ch [(.sl (.sl tI))]),1,zjq⟩
theorem zzC:Sq zo4:=ms0 (d:=false) (K:=0) Tryz.func45 (by kernel_rfl) (funext fun (x0,())=>by kernel_rfl)
def ziG:((List zn) × Unit)→Option ((List zn) × Unit):=fun (x0,()) =>
  bif List.isEmpty x0 then zfR (some ([],())) (bif decide (List.length (List.replicate 0 (ze zl)) + List.length x0 ≤ lim) then some (List.replicate 0 (ze zl) ++ x0,()) else none) else bif decide (List.length (List.replicate 0 (ze zl)) + List.length x0 ≤ lim) then some (List.replicate 0 (ze zl) ++ x0,()) else none
abbrev zny:Fun:=⟨46,(ch [(.sl zl)]),(ch [(.sl zl)]),1,ziG⟩
theorem zxU:Sq zny:=ms0 (d:=false) (K:=0) Tryz.func46 (by kernel_rfl) (funext fun (x0,())=>by kernel_rfl)
def zjr:((List qT) × Unit)→Option ((List qT) × Unit):=fun (x0,()) =>
  bif List.isEmpty x0 then zfR (some ([],())) (bif decide (List.length (List.replicate 0 (ze qa)) + List.length x0 ≤ lim) then some (List.replicate 0 (ze qa) ++ x0,()) else none) else bif decide (List.length (List.replicate 0 (ze qa)) + List.length x0 ≤ lim) then some (List.replicate 0 (ze qa) ++ x0,()) else none
abbrev zo5:Fun:=⟨47,(ch [(.sl qa)]),(ch [(.sl qa)]),1,zjr⟩
theorem zzD:Sq zo5:=ms0 (d:=false) (K:=0) Tryz.func47 (by kernel_rfl) (funext fun (x0,())=>by kernel_rfl)
def zjs:((List qb) × Unit)→Option ((List qb) × Unit):=fun (x0,()) =>
  bif List.isEmpty x0 then zfR (some ([],())) (bif decide (List.length (List.replicate 0 (ze zO)) + List.length x0 ≤ lim) then some (List.replicate 0 (ze zO) ++ x0,()) else none) else bif decide (List.length (List.replicate 0 (ze zO)) + List.length x0 ≤ lim) then some (List.replicate 0 (ze zO) ++ x0,()) else none
abbrev zo6:Fun:=⟨48,(ch [(.sl zO)]),(ch [(.sl zO)]),1,zjs⟩
theorem zzE:Sq zo6:=ms0 (d:=false) (K:=0) Tryz.func48 (by kernel_rfl) (funext fun (x0,())=>by kernel_rfl)
def zjt:((List qc) × Unit)→Option ((List qc) × Unit):=fun (x0,()) =>
  bif List.isEmpty x0 then zfR (some ([],())) (bif decide (List.length (List.replicate 0 (ze zw)) + List.length x0 ≤ lim) then some (List.replicate 0 (ze zw) ++ x0,()) else none) else bif decide (List.length (List.replicate 0 (ze zw)) + List.length x0 ≤ lim) then some (List.replicate 0 (ze zw) ++ x0,()) else none
abbrev zo7:Fun:=⟨49,(ch [(.sl zw)]),(ch [(.sl zw)]),1,zjt⟩
theorem zzF:Sq zo7:=ms0 (d:=false) (K:=0) Tryz.func49 (by kernel_rfl) (funext fun (x0,())=>by kernel_rfl)
def zju:((List qq) × Unit)→Option ((List qq) × Unit):=fun (x0,()) =>
  bif List.isEmpty x0 then zfR (some ([],())) (bif decide (List.length (List.replicate 0 (ze zV)) + List.length x0 ≤ lim) then some (List.replicate 0 (ze zV) ++ x0,()) else none) else bif decide (List.length (List.replicate 0 (ze zV)) + List.length x0 ≤ lim) then some (List.replicate 0 (ze zV) ++ x0,()) else none
abbrev zo8:Fun:=⟨50,(ch [(.sl zV)]),(ch [(.sl zV)]),1,zju⟩
theorem zzG:Sq zo8:=ms0 (d:=false) (K:=0) Tryz.func50 (by kernel_rfl) (funext fun (x0,())=>by kernel_rfl)
def zeW:((List zv) × Unit)→Option ((List zv) × Unit):=fun (x0,()) =>
  bif List.isEmpty x0 then zfR (some ([],())) (bif decide (List.length (List.replicate 0 (ze zx)) + List.length x0 ≤ lim) then some (List.replicate 0 (ze zx) ++ x0,()) else none) else bif decide (List.length (List.replicate 0 (ze zx)) + List.length x0 ≤ lim) then some (List.replicate 0 (ze zx) ++ x0,()) else none
abbrev znz:Fun:=⟨51,(ch [(.sl zx)]),(ch [(.sl zx)]),1,zeW⟩
theorem zxV:Sq znz:=ms0 (d:=false) (K:=0) Tryz.func51 (by kernel_rfl) (funext fun (x0,())=>by kernel_rfl)
def zl9:((List (List Int)) × Unit)→Option ((List (List Int)) × Unit):=fun (x0,()) =>
  bif List.isEmpty x0 then zfR (some ([],())) (bif decide (List.length (List.replicate 0 (ze (.arr 4 tU))) + List.length x0 ≤ lim) then some (List.replicate 0 (ze (.arr 4 tU)) ++ x0,()) else none) else bif decide (List.length (List.replicate 0 (ze (.arr 4 tU))) + List.length x0 ≤ lim) then some (List.replicate 0 (ze (.arr 4 tU)) ++ x0,()) else none
abbrev zsN:Fun:=⟨52,(ch [(.sl (.arr 4 tU))]),(ch [(.sl (.arr 4 tU))]),1,zl9⟩
theorem zDw:Sq zsN:=ms0 (d:=false) (K:=0) Tryz.func52 (by kernel_rfl) (funext fun (x0,())=>by kernel_rfl)
def zk0:((List z8) × Unit)→Option ((List z8) × Unit):=fun (x0,()) =>
  bif List.isEmpty x0 then zfR (some ([],())) (bif decide (List.length (List.replicate 0 (ze zL)) + List.length x0 ≤ lim) then some (List.replicate 0 (ze zL) ++ x0,()) else none) else bif decide (List.length (List.replicate 0 (ze zL)) + List.length x0 ≤ lim) then some (List.replicate 0 (ze zL) ++ x0,()) else none
abbrev zqO:Fun:=⟨53,(ch [(.sl zL)]),(ch [(.sl zL)]),1,zk0⟩
theorem zBz:Sq zqO:=ms0 (d:=false) (K:=0) Tryz.func53 (by kernel_rfl) (funext fun (x0,())=>by kernel_rfl)
def zib:(zz × Unit)→Option (Bool × Unit):=fun (x0,()) =>
  bif decide (x0.1 ≥ 0) then bif decide (x0.1 < 4) then some (true,()) else some (false,()) else some (false,())
abbrev zsO:Fun:=⟨39,(ch [zq]),(ch [.bool]),0,zib⟩
theorem zDx:Sq zsO:=ms0 (d:=false) (K:=0) Tryz.func39 (by kernel_rfl) (funext fun (x0,())=>by kernel_rfl)
def qt:(Int × (Int × (Int × Unit)))→Option (Bool × Unit):=fun (x0,x1,x2,()) =>
  bif decide (x0 ≥ x1) then bif decide (x0 ≤ x2) then some (true,()) else some (false,()) else some (false,())
abbrev zqP:Fun:=⟨284,(ch [tI,tI,tI]),(ch [.bool]),0,qt⟩
theorem zBA:Sq zqP:=ms0 (d:=false) (K:=0) Tryz.func284 (by kernel_rfl) (funext fun (x0,x1,x2,())=>by kernel_rfl)
abbrev ve:Type:=(List zz) × (Option ((zz × Unit)→Option (Bool × Unit))) × Int × Int
abbrev zqa:ve→St:=fun (v0,v1,v7,v8)=>St.mk [(0,.dat (.sl zq) v0),(1,.dat (.fn (.pair zq .unit) (.pair .bool .unit)) v1),(7,.dat tI v7),(8,.dat tI v8)] []
def zdo (k0:ve→Option (Int × Unit)):ve→Option (Int × Unit):=fun (v0,v1,v7,v8) =>
  bif decide (v8 < v7) then inR v8 ((List.length v0):Int) (Option.bind v1 fun q0=>Option.bind (q0 (ix jg v0 v8,())) fun q1=>bif q1.1 then some (v8,()) else k0 (v0,v1,v7,wI (v8 + 1))) else some ((-1),())
abbrev zhJ (K:Nat):ve→Option (Int × Unit):=zg zdo K
theorem zqb (K:Nat):∀ n,evV Es0 K Tryz.f387 0 (ch [tI]) [1,0,1,0] [] zqa n = zg zdo n:=zr fun n0 (v0,v1,v7,v8)=>by kernel_rfl
def zeX (L0:ve→Option (Int × Unit)):((List zz) × ((Option ((zz × Unit)→Option (Bool × Unit))) × Unit))→Option (Int × Unit):=fun (x0,x1,()) =>
  L0 (x0,x1,((List.length x0):Int),0)
def zaD:((List zz) × ((Option ((zz × Unit)→Option (Bool × Unit))) × Unit))→Option (Int × Unit):=zeX (zhJ K0)
abbrev zjv:Fun:=⟨387,(ch [(.sl zq),(.fn (ch [zq]) (ch [.bool]))]),(ch [tI]),0,zaD⟩
theorem zsl:Sq zjv:=ml0 (d:=false) (S:=fun K=>zeX (zhJ K)) Tryz.func387 (by kernel_rfl) (fun K=>tr1 (T:=zeX) (zqb K K) fun (x0,x1,())=>by kernel_rfl) rfl
def zaa:(Int × Unit)→Option (Bool × Unit):=fun (x0,()) =>
  bif x0 != x0 then some (true,()) else some (false,())
abbrev zo9:Fun:=⟨429,(ch [tI]),(ch [.bool]),0,zaa⟩
theorem zzH:Sq zo9:=ms0 (d:=false) (K:=0) Tryz.func429 (by kernel_rfl) (funext fun (x0,())=>by kernel_rfl)
def vw:(Int × Unit)→Option (Bool × Unit):=fun (x0,()) =>
  bif x0 != x0 then some (true,()) else some (false,())
abbrev zlP:Fun:=⟨430,(ch [tU]),(ch [.bool]),0,vw⟩
theorem zuF:Sq zlP:=ms0 (d:=false) (K:=0) Tryz.func430 (by kernel_rfl) (funext fun (x0,())=>by kernel_rfl)
abbrev zdX:Type:=Int × (List Int) × Int × Int
abbrev zBB:zdX→St:=fun (v3,v6,v7,v8)=>St.mk [(3,.dat tI v3),(6,.dat (.sl tI) v6),(7,.dat tI v7),(8,.dat tI v8)] []
def je (k0:zdX→Option (Int × Unit)):zdX→Option (Int × Unit):=fun (v3,v6,v7,v8) =>
  bif decide (v8 < v7) then inR v8 ((List.length v6):Int) (bif ix (0:Int) v6 v8 != v3 then some (ix (0:Int) v6 v8,()) else k0 (v3,v6,v7,wI (v8 + 1))) else some (v3,())
abbrev zqQ (K:Nat):zdX→Option (Int × Unit):=zg je K
theorem zBC (K:Nat):∀ n,evV Es0 K Tryz.f388 0 (ch [tI]) [1,1,0,1,0] [] zBB n = zg je n:=zr fun n0 (v3,v6,v7,v8)=>by kernel_rfl
def znA (L0:zdX→Option (Int × Unit)):((List Int) × Unit)→Option (Int × Unit):=fun (x0,()) =>
  L0 (0,x0,((List.length x0):Int),0)
def zdY:((List Int) × Unit)→Option (Int × Unit):=znA (zqQ K0)
abbrev zuG:Fun:=⟨388,(ch [(.sl tI)]),(ch [tI]),0,zdY⟩
theorem zF4:Sq zuG:=ml0 (d:=false) (S:=fun K=>znA (zqQ K)) Tryz.func388 (by kernel_rfl) (fun K=>tr1 (T:=znA) (zBC K K) fun (x0,())=>by kernel_rfl) rfl
abbrev vP:Type:=(List Int) × (Option ((Int × Unit)→Option (Bool × Unit))) × Int × Int
abbrev zsm:vP→St:=fun (v0,v1,v7,v8)=>St.mk [(0,.dat (.sl tI) v0),(1,.dat (.fn (.pair tI .unit) (.pair .bool .unit)) v1),(7,.dat tI v7),(8,.dat tI v8)] []
def zeY (k0:vP→Option (Int × Unit)):vP→Option (Int × Unit):=fun (v0,v1,v7,v8) =>
  bif decide (v8 < v7) then inR v8 ((List.length v0):Int) (Option.bind v1 fun q0=>Option.bind (q0 (ix (0:Int) v0 v8,())) fun q1=>bif q1.1 then some (v8,()) else k0 (v0,v1,v7,wI (v8 + 1))) else some ((-1),())
abbrev zjw (K:Nat):vP→Option (Int × Unit):=zg zeY K
theorem zsn (K:Nat):∀ n,evV Es0 K Tryz.f373 0 (ch [tI]) [1,0,1,0] [] zsm n = zg zeY n:=zr fun n0 (v0,v1,v7,v8)=>by kernel_rfl
def zgn (L0:vP→Option (Int × Unit)):((List Int) × ((Option ((Int × Unit)→Option (Bool × Unit))) × Unit))→Option (Int × Unit):=fun (x0,x1,()) =>
  L0 (x0,x1,((List.length x0):Int),0)
def zb6:((List Int) × ((Option ((Int × Unit)→Option (Bool × Unit))) × Unit))→Option (Int × Unit):=zgn (zjw K0)
abbrev zlQ:Fun:=⟨373,(ch [(.sl tI),(.fn (ch [tI]) (ch [.bool]))]),(ch [tI]),0,zb6⟩
theorem zuH:Sq zlQ:=ml0 (d:=false) (S:=fun K=>zgn (zjw K)) Tryz.func373 (by kernel_rfl) (fun K=>tr1 (T:=zgn) (zsn K K) fun (x0,x1,())=>by kernel_rfl) rfl
def zgo:(Int × Unit)→Option (Bool × Unit):=fun (x0,()) =>
  bif decide (x0 ≥ 97) then bif decide (x0 ≤ 122) then some (true,()) else some (false,()) else some (false,())
abbrev zuI:Fun:=⟨391,(ch [(.int .u8)]),(ch [.bool]),0,zgo⟩
theorem zF5:Sq zuI:=ms0 (d:=false) (K:=0) Tryz.func391 (by kernel_rfl) (funext fun (x0,())=>by kernel_rfl)
def zjx:(Int × ((Option (Option ((Int × Unit)→Option (Bool × Unit)))) × Unit))→Option (Bool × Unit):=fun (x0,x1,()) =>
  Option.bind x1 fun q0=>Option.bind q0 fun q1=>Option.bind (q1 (x0,())) fun q2=>bif q2.1 then some (false,()) else some (true,())
abbrev zuJ:Fun:=⟨431,(ch [(.int .u8),(.ptr (.fn (ch [(.int .u8)]) (ch [.bool])))]),(ch [.bool]),0,zjx⟩
theorem zF6:Sq zuJ:=ms0 (d:=false) (K:=0) Tryz.func431 (by kernel_rfl) (funext fun (x0,x1,())=>by kernel_rfl)
abbrev vx:Type:=(List Int) × (Option ((Int × Unit)→Option (Bool × Unit))) × Int × Int
abbrev zqR:vx→St:=fun (v0,v1,v7,v8)=>St.mk [(0,.dat (.sl (.int IntKind.u8)) v0),(1,.dat (.fn (.pair (.int IntKind.u8) .unit) (.pair .bool .unit)) v1),(7,.dat tI v7),(8,.dat tI v8)] []
def zdZ (k0:vx→Option (Int × Unit)):vx→Option (Int × Unit):=fun (v0,v1,v7,v8) =>
  bif decide (v8 < v7) then inR v8 ((List.length v0):Int) (Option.bind v1 fun q0=>Option.bind (q0 (ix (ze (.int IntKind.u8)) v0 v8,())) fun q1=>bif q1.1 then some (v8,()) else k0 (v0,v1,v7,wI (v8 + 1))) else some ((-1),())
abbrev zi3 (K:Nat):vx→Option (Int × Unit):=zg zdZ K
theorem zqS (K:Nat):∀ n,evV Es0 K Tryz.f439 0 (ch [tI]) [1,0,1,0] [] zqR n = zg zdZ n:=zr fun n0 (v0,v1,v7,v8)=>by kernel_rfl
def zfS (L0:vx→Option (Int × Unit)):((List Int) × ((Option ((Int × Unit)→Option (Bool × Unit))) × Unit))→Option (Int × Unit):=fun (x0,x1,()) =>
  L0 (x0,x1,((List.length x0):Int),0)
def zbB:((List Int) × ((Option ((Int × Unit)→Option (Bool × Unit))) × Unit))→Option (Int × Unit):=zfS (zi3 K0)
abbrev zkB:Fun:=⟨439,(ch [(.sl (.int .u8)),(.fn (ch [(.int .u8)]) (ch [.bool]))]),(ch [tI]),0,zbB⟩
theorem ztT:Sq zkB:=ml0 (d:=false) (S:=fun K=>zfS (zi3 K)) Tryz.func439 (by kernel_rfl) (fun K=>tr1 (T:=zfS) (zqS K K) fun (x0,x1,())=>by kernel_rfl) rfl
def zjy:(Int × Unit)→Option (Bool × Unit):=fun (x0,()) =>
  bif decide (x0 ≥ 48) then bif decide (x0 ≤ 57) then some (true,()) else some (false,()) else some (false,())
abbrev zuK:Fun:=⟨394,(ch [(.int .u8)]),(ch [.bool]),0,zjy⟩
theorem zF7:Sq zuK:=ms0 (d:=false) (K:=0) Tryz.func394 (by kernel_rfl) (funext fun (x0,())=>by kernel_rfl)
abbrev jP:Type:=(List qy) × (Option ((qy × Unit)→Option (Bool × Unit))) × Int × Int
abbrev znB:jP→St:=fun (v0,v1,v7,v8)=>St.mk [(0,.dat (.sl qD) v0),(1,.dat (.fn (.pair qD .unit) (.pair .bool .unit)) v1),(7,.dat tI v7),(8,.dat tI v8)] []
def za7 (k0:jP→Option (Int × Unit)):jP→Option (Int × Unit):=fun (v0,v1,v7,v8) =>
  bif decide (v8 < v7) then inR v8 ((List.length v0):Int) (Option.bind v1 fun q0=>Option.bind (q0 (ix qo v0 v8,())) fun q1=>bif q1.1 then some (v8,()) else k0 (v0,v1,v7,wI (v8 + 1))) else some ((-1),())
abbrev zgp (K:Nat):jP→Option (Int × Unit):=zg za7 K
theorem znC (K:Nat):∀ n,evV Es0 K Tryz.f395 0 (ch [tI]) [1,0,1,0] [] znB n = zg za7 n:=zr fun n0 (v0,v1,v7,v8)=>by kernel_rfl
def zdp (L0:jP→Option (Int × Unit)):((List qy) × ((Option ((qy × Unit)→Option (Bool × Unit))) × Unit))→Option (Int × Unit):=fun (x0,x1,()) =>
  L0 (x0,x1,((List.length x0):Int),0)
def yU:((List qy) × ((Option ((qy × Unit)→Option (Bool × Unit))) × Unit))→Option (Int × Unit):=zdp (zgp K0)
abbrev zhK:Fun:=⟨395,(ch [(.sl qD),(.fn (ch [qD]) (ch [.bool]))]),(ch [tI]),0,yU⟩
theorem zqc:Sq zhK:=ml0 (d:=false) (S:=fun K=>zdp (zgp K)) Tryz.func395 (by kernel_rfl) (fun K=>tr1 (T:=zdp) (znC K K) fun (x0,x1,())=>by kernel_rfl) rfl
abbrev yp:Type:=(List qy) × Int × Int × List ByteArray
abbrev ztU:yp→St:=fun (v7,v8,v9,o0)=>St.mk [(3,.ow 0),(7,.dat (.sl qD) v7),(8,.dat tI v8),(9,.dat tI v9)] [.row .str o0 false]
def yq (k0:yp→Option ((List ByteArray) × Unit)):yp→Option ((List ByteArray) × Unit):=fun (v7,v8,v9,o0) =>
  bif decide (v9 < v8) then inR v9 ((List.length v7):Int) (bif decide (List.length o0 + List.length (zk (List.replicate 1 (ze .str)) 0 (ix qo v7 v9).1) ≤ lim) then k0 (v7,v8,wI (v9 + 1),o0 ++ zk (List.replicate 1 (ze .str)) 0 (ix qo v7 v9).1) else none) else some (o0,())
abbrev zkC (K:Nat):yp→Option ((List ByteArray) × Unit):=zg yq K
theorem ztV (K:Nat):∀ n,evV Es0 K Tryz.f327 0 (ch [(.sl .str)]) [1,1,0,1,0] [] ztU n = zg yq n:=zr fun n0 (v7,v8,v9,o0)=>by kernel_rfl
def zhv (L0:yp→Option ((List ByteArray) × Unit)):(zf × Unit)→Option ((List ByteArray) × Unit):=fun (x0,()) =>
  L0 (x0.2.2.1,((List.length x0.2.2.1):Int),0,[])
def zhw:(zf × Unit)→Option ((List ByteArray) × Unit):=zhv (zkC K0)
abbrev zmJ:Fun:=⟨327,(ch [zo]),(ch [(.sl .str)]),0,zhw⟩
theorem zwl:Sq zmJ:=ml0 (d:=false) (S:=fun K=>zhv (zkC K)) Tryz.func327 (by kernel_rfl) (fun K=>tr1 (T:=zhv) (ztV K K) fun (x0,())=>by kernel_rfl) rfl
abbrev zd0:Type:=(List ByteArray) × (List ByteArray) × Int × Int × List (ByteArray × Int)
abbrev zBD:zd0→St:=fun (v0,v7,v8,v9,o0)=>St.mk [(0,.dat (.sl .str) v0),(3,.om 0),(7,.dat (.sl .str) v7),(8,.dat tI v8),(9,.dat tI v9)] [.mp .str tI o0]
def zd1 (k0:zd0→Option (Bool × Unit)):zd0→Option (Bool × Unit):=fun (v0,v7,v8,v9,o0) =>
  bif decide (v9 < v8) then inR v9 ((List.length v7):Int) (k0 (v0,v7,v8,wI (v9 + 1),jM .str o0 (List.getD v7 (Int.toNat v9) (ze .str)) (wI (zaA .str (0:Int) o0 (List.getD v7 (Int.toNat v9) (ze .str)) + 1)))) else bif ((List.length o0):Int) == ((List.length v0):Int) then some (true,()) else some (false,())
abbrev zqT (K:Nat):zd0→Option (Bool × Unit):=zg zd1 K
theorem zBE (K:Nat):∀ n,evV Es0 K Tryz.f326 0 (ch [.bool]) [1,1,0,1,0] [] zBD n = zg zd1 n:=zr fun n0 (v0,v7,v8,v9,o0)=>by kernel_rfl
def znD (L0:zd0→Option (Bool × Unit)):((List ByteArray) × Unit)→Option (Bool × Unit):=fun (x0,()) =>
  L0 (x0,x0,((List.length x0):Int),0,[])
def znE:((List ByteArray) × Unit)→Option (Bool × Unit):=znD (zqT K0)
abbrev zuL:Fun:=⟨326,(ch [(.sl .str)]),(ch [.bool]),0,znE⟩
theorem zF8:Sq zuL:=ml0 (d:=false) (S:=fun K=>znD (zqT K)) Tryz.func326 (by kernel_rfl) (fun K=>tr1 (T:=znD) (zBE K K) fun (x0,())=>by kernel_rfl) rfl
def zjz:(Int × Unit)→Option (zz × (Int × Unit)):=fun (x0,()) =>
  bif decide (x0 < 0) then some ((0,0,()),1,()) else bif decide (x0 ≥ 64) then some ((0,0,()),1,()) else bif decide (x0 < 0) then none else some ((0,wU (1 * 2 ^ min (Int.toNat x0) (IntKind.bits IntKind.u64)),()),0,())
abbrev zuM:Fun:=⟨273,(ch [tI]),(ch [zq,tI]),0,zjz⟩
theorem zF9:Sq zuM:=ms0 (d:=false) (K:=0) Tryz.func273 (by kernel_rfl) (funext fun (x0,())=>by kernel_rfl)
abbrev y0:Type:=(List zz) × Int × Int × zz
abbrev zuN:y0→St:=fun (v0,v7,v8,o0)=>St.mk [(0,.dat (.sl zq) v0),(3,.bp 0 []),(7,.dat tI v7),(8,.dat tI v8)] [.bx (.dat zq o0) false]
def y3 (k0:y0→Option (Int × Unit)):y0→Option (Int × Unit):=fun (v0,v7,v8,o0) =>
  bif decide (v8 < v7) then inR v8 ((List.length v0):Int) (bif eqI zq o0 (ix jg v0 v8) then some (v8,()) else k0 (v0,v7,wI (v8 + 1),o0)) else some ((-1),())
abbrev zlR (K:Nat):y0→Option (Int × Unit):=zg y3 K
theorem zuO (K:Nat):∀ n,evV Es0 K Tryz.f396 0 (ch [tI]) [1,0,1,0] [] zuN n = zg y3 n:=zr fun n0 (v0,v7,v8,o0)=>by kernel_rfl
def ziH (L0:y0→Option (Int × Unit)):((List zz) × (zz × Unit))→Option (Int × Unit):=fun (x0,x1,()) =>
  L0 (x0,((List.length x0):Int),0,x1)
def ziI:((List zz) × zz × Unit)→Option (Int × Unit):=ziH (zlR K0)
abbrev znF:Fun:=⟨396,(ch [(.sl zq),zq]),(ch [tI]),0,ziI⟩
theorem zxW:Sq znF:=ml0 (d:=false) (S:=fun K=>ziH (zlR K)) Tryz.func396 (by kernel_rfl) (fun K=>tr1 (T:=ziH) (zuO K K) fun (x0,x1,())=>by kernel_rfl) rfl
def ziJ:(zz × ((Option Int) × Unit))→Option (Bool × Unit):=fun (x0,x1,()) =>
  Option.bind x1 fun q0=>bif wU (↑(BitVec.toNat (BitVec.ofInt (IntKind.bits IntKind.u64) x0.2.1 &&& ~~~BitVec.ofInt (IntKind.bits IntKind.u64) q0)):Int) != 0 then some (true,()) else some (false,())
abbrev znG:Fun:=⟨329,(ch [zq,(.ptr tU)]),(ch [.bool]),0,ziJ⟩
theorem zxX:Sq znG:=ms0 (d:=false) (K:=0) Tryz.func329 (by kernel_rfl) (funext fun (x0,x1,())=>by kernel_rfl)
def zjA:(zaw × Unit)→Option ((List Int) × Unit):=fun (x0,()) =>
  some ([x0.1,x0.2.1,x0.2.2.1,x0.2.2.2.1,x0.2.2.2.2.1],())
abbrev zpa:Fun:=⟨331,(ch [za6]),(ch [(.sl tI)]),0,zjA⟩
theorem zzI:Sq zpa:=ms0 (d:=false) (K:=0) Tryz.func331 (by kernel_rfl) (funext fun (x0,())=>by kernel_rfl)
def zbC:(zn × ((Option (Option ((zn × Unit)→Option (Bool × Unit)))) × Unit))→Option (Bool × Unit):=fun (x0,x1,()) =>
  Option.bind x1 fun q0=>Option.bind q0 fun q1=>Option.bind (q1 (x0,())) fun q2=>bif q2.1 then some (false,()) else some (true,())
abbrev zkD:Fun:=⟨340,(ch [zl,(.ptr (.fn (ch [zl]) (ch [.bool])))]),(ch [.bool]),0,zbC⟩
theorem ztW:Sq zkD:=ms0 (d:=false) (K:=0) Tryz.func340 (by kernel_rfl) (funext fun (x0,x1,())=>by kernel_rfl)
abbrev vf:Type:=(List zn) × (Option ((zn × Unit)→Option (Bool × Unit))) × Int × Int
abbrev zqd:vf→St:=fun (v0,v1,v7,v8)=>St.mk [(0,.dat (.sl zl) v0),(1,.dat (.fn (.pair zl .unit) (.pair .bool .unit)) v1),(7,.dat tI v7),(8,.dat tI v8)] []
def zdq (k0:vf→Option (Int × Unit)):vf→Option (Int × Unit):=fun (v0,v1,v7,v8) =>
  bif decide (v8 < v7) then inR v8 ((List.length v0):Int) (Option.bind v1 fun q0=>Option.bind (q0 (ix za v0 v8,())) fun q1=>bif q1.1 then some (v8,()) else k0 (v0,v1,v7,wI (v8 + 1))) else some ((-1),())
abbrev zhL (K:Nat):vf→Option (Int × Unit):=zg zdq K
theorem zqe (K:Nat):∀ n,evV Es0 K Tryz.f403 0 (ch [tI]) [1,0,1,0] [] zqd n = zg zdq n:=zr fun n0 (v0,v1,v7,v8)=>by kernel_rfl
def zeZ (L0:vf→Option (Int × Unit)):((List zn) × ((Option ((zn × Unit)→Option (Bool × Unit))) × Unit))→Option (Int × Unit):=fun (x0,x1,()) =>
  L0 (x0,x1,((List.length x0):Int),0)
def zaE:((List zn) × ((Option ((zn × Unit)→Option (Bool × Unit))) × Unit))→Option (Int × Unit):=zeZ (zhL K0)
abbrev zjB:Fun:=⟨403,(ch [(.sl zl),(.fn (ch [zl]) (ch [.bool]))]),(ch [tI]),0,zaE⟩
theorem zso:Sq zjB:=ml0 (d:=false) (S:=fun K=>zeZ (zhL K)) Tryz.func403 (by kernel_rfl) (fun K=>tr1 (T:=zeZ) (zqe K K) fun (x0,x1,())=>by kernel_rfl) rfl
abbrev vy:Type:=(List qT) × (Option ((qT × Unit)→Option (Bool × Unit))) × Int × Int
abbrev zqU:vy→St:=fun (v0,v1,v7,v8)=>St.mk [(0,.dat (.sl qa) v0),(1,.dat (.fn (.pair qa .unit) (.pair .bool .unit)) v1),(7,.dat tI v7),(8,.dat tI v8)] []
def zd2 (k0:vy→Option (Int × Unit)):vy→Option (Int × Unit):=fun (v0,v1,v7,v8) =>
  bif decide (v8 < v7) then inR v8 ((List.length v0):Int) (Option.bind v1 fun q0=>Option.bind (q0 (ix zgT v0 v8,())) fun q1=>bif q1.1 then some (v8,()) else k0 (v0,v1,v7,wI (v8 + 1))) else some ((-1),())
abbrev zi4 (K:Nat):vy→Option (Int × Unit):=zg zd2 K
theorem zqV (K:Nat):∀ n,evV Es0 K Tryz.f404 0 (ch [tI]) [1,0,1,0] [] zqU n = zg zd2 n:=zr fun n0 (v0,v1,v7,v8)=>by kernel_rfl
def zfT (L0:vy→Option (Int × Unit)):((List qT) × ((Option ((qT × Unit)→Option (Bool × Unit))) × Unit))→Option (Int × Unit):=fun (x0,x1,()) =>
  L0 (x0,x1,((List.length x0):Int),0)
def zbD:((List qT) × ((Option ((qT × Unit)→Option (Bool × Unit))) × Unit))→Option (Int × Unit):=zfT (zi4 K0)
abbrev zkE:Fun:=⟨404,(ch [(.sl qa),(.fn (ch [qa]) (ch [.bool]))]),(ch [tI]),0,zbD⟩
theorem ztX:Sq zkE:=ml0 (d:=false) (S:=fun K=>zfT (zi4 K)) Tryz.func404 (by kernel_rfl) (fun K=>tr1 (T:=zfT) (zqV K K) fun (x0,x1,())=>by kernel_rfl) rfl
def zgq:(z8 × Unit)→Option (Bool × Unit):=fun (x0,()) =>
  bif decide (x0.1 ≥ 0) then bif decide (x0.1 ≤ 127) then bif decide (x0.2.1 ≥ 0) then bif decide (x0.2.1 ≤ 127) then some (true,()) else some (false,()) else some (false,()) else some (false,()) else some (false,())
abbrev zuP:Fun:=⟨405,(ch [zL]),(ch [.bool]),0,zgq⟩
theorem zGa:Sq zuP:=ms0 (d:=false) (K:=0) Tryz.func405 (by kernel_rfl) (funext fun (x0,())=>by kernel_rfl)
def zjC:(Int × Unit)→Option (Bool × Unit):=fun (x0,()) =>
  bif decide (x0 ≥ 0) then bif decide (x0 < 6) then some (true,()) else some (false,()) else some (false,())
abbrev zuQ:Fun:=⟨406,(ch [tI]),(ch [.bool]),0,zjC⟩
theorem zGb:Sq zuQ:=ms0 (d:=false) (K:=0) Tryz.func406 (by kernel_rfl) (funext fun (x0,())=>by kernel_rfl)
def zgV:(qb × ((Option z8) × ((Option Int) × Unit)))→Option (Bool × Unit):=fun (x0,x1,x2,()) =>
  bif x0.1 then Option.bind x1 fun q0=>bif eqI zL x0.2.1 q0 then Option.bind x2 fun q1=>bif x0.2.2.2.1 == q1 then some (true,()) else some (false,()) else some (false,()) else some (false,())
abbrev zqW:Fun:=⟨408,(ch [zO,(.ptr zL),(.ptr tI)]),(ch [.bool]),0,zgV⟩
theorem zBF:Sq zqW:=ms0 (d:=false) (K:=0) Tryz.func408 (by kernel_rfl) (funext fun (x0,x1,x2,())=>by kernel_rfl)
abbrev vz:Type:=(List qb) × (Option ((qb × Unit)→Option (Bool × Unit))) × Int × Int
abbrev zqX:vz→St:=fun (v0,v1,v7,v8)=>St.mk [(0,.dat (.sl zO) v0),(1,.dat (.fn (.pair zO .unit) (.pair .bool .unit)) v1),(7,.dat tI v7),(8,.dat tI v8)] []
def zd3 (k0:vz→Option (Int × Unit)):vz→Option (Int × Unit):=fun (v0,v1,v7,v8) =>
  bif decide (v8 < v7) then inR v8 ((List.length v0):Int) (Option.bind v1 fun q0=>Option.bind (q0 (ix qj v0 v8,())) fun q1=>bif q1.1 then some (v8,()) else k0 (v0,v1,v7,wI (v8 + 1))) else some ((-1),())
abbrev zi5 (K:Nat):vz→Option (Int × Unit):=zg zd3 K
theorem zqY (K:Nat):∀ n,evV Es0 K Tryz.f407 0 (ch [tI]) [1,0,1,0] [] zqX n = zg zd3 n:=zr fun n0 (v0,v1,v7,v8)=>by kernel_rfl
def zfU (L0:vz→Option (Int × Unit)):((List qb) × ((Option ((qb × Unit)→Option (Bool × Unit))) × Unit))→Option (Int × Unit):=fun (x0,x1,()) =>
  L0 (x0,x1,((List.length x0):Int),0)
def yr:((List qb) × ((Option ((qb × Unit)→Option (Bool × Unit))) × Unit))→Option (Int × Unit):=zfU (zi5 K0)
abbrev zkF:Fun:=⟨407,(ch [(.sl zO),(.fn (ch [zO]) (ch [.bool]))]),(ch [tI]),0,yr⟩
theorem ztY:Sq zkF:=ml0 (d:=false) (S:=fun K=>zfU (zi5 K)) Tryz.func407 (by kernel_rfl) (fun K=>tr1 (T:=zfU) (zqY K K) fun (x0,x1,())=>by kernel_rfl) rfl
abbrev vA:Type:=(List qc) × (Option ((qc × Unit)→Option (Bool × Unit))) × Int × Int
abbrev zqZ:vA→St:=fun (v0,v1,v7,v8)=>St.mk [(0,.dat (.sl zw) v0),(1,.dat (.fn (.pair zw .unit) (.pair .bool .unit)) v1),(7,.dat tI v7),(8,.dat tI v8)] []
def zd4 (k0:vA→Option (Int × Unit)):vA→Option (Int × Unit):=fun (v0,v1,v7,v8) =>
  bif decide (v8 < v7) then inR v8 ((List.length v0):Int) (Option.bind v1 fun q0=>Option.bind (q0 (ix zB v0 v8,())) fun q1=>bif q1.1 then some (v8,()) else k0 (v0,v1,v7,wI (v8 + 1))) else some ((-1),())
abbrev zi6 (K:Nat):vA→Option (Int × Unit):=zg zd4 K
theorem zq0 (K:Nat):∀ n,evV Es0 K Tryz.f409 0 (ch [tI]) [1,0,1,0] [] zqZ n = zg zd4 n:=zr fun n0 (v0,v1,v7,v8)=>by kernel_rfl
def zfV (L0:vA→Option (Int × Unit)):((List qc) × ((Option ((qc × Unit)→Option (Bool × Unit))) × Unit))→Option (Int × Unit):=fun (x0,x1,()) =>
  L0 (x0,x1,((List.length x0):Int),0)
def zbE:((List qc) × ((Option ((qc × Unit)→Option (Bool × Unit))) × Unit))→Option (Int × Unit):=zfV (zi6 K0)
abbrev zkG:Fun:=⟨409,(ch [(.sl zw),(.fn (ch [zw]) (ch [.bool]))]),(ch [tI]),0,zbE⟩
theorem ztZ:Sq zkG:=ml0 (d:=false) (S:=fun K=>zfV (zi6 K)) Tryz.func409 (by kernel_rfl) (fun K=>tr1 (T:=zfV) (zq0 K K) fun (x0,x1,())=>by kernel_rfl) rfl
def zsp:(qc × Unit)→Option (zBx × Unit):=fun (x0,()) =>
  some (x0.2.2,())
abbrev zzJ:Fun:=⟨338,(ch [zw]),(ch [zfI]),0,zsp⟩
theorem zKm:Sq zzJ:=ms0 (d:=false) (K:=0) Tryz.func338 (by kernel_rfl) (funext fun (x0,())=>by kernel_rfl)
def ze0:(Int × Unit)→Option (Bool × Unit):=fun (x0,()) =>
  bif decide (x0 ≥ 0) then bif decide (x0 ≤ 127) then some (true,()) else some (false,()) else some (false,())
abbrev zzK:Fun:=⟨397,(ch [tI]),(ch [.bool]),0,ze0⟩
theorem zKn:Sq zzK:=ms0 (d:=false) (K:=0) Tryz.func397 (by kernel_rfl) (funext fun (x0,())=>by kernel_rfl)
abbrev vB:Type:=(List qq) × (Option ((qq × Unit)→Option (Bool × Unit))) × Int × Int
abbrev zq1:vB→St:=fun (v0,v1,v7,v8)=>St.mk [(0,.dat (.sl zV) v0),(1,.dat (.fn (.pair zV .unit) (.pair .bool .unit)) v1),(7,.dat tI v7),(8,.dat tI v8)] []
def zd5 (k0:vB→Option (Int × Unit)):vB→Option (Int × Unit):=fun (v0,v1,v7,v8) =>
  bif decide (v8 < v7) then inR v8 ((List.length v0):Int) (Option.bind v1 fun q0=>Option.bind (q0 (ix zaC v0 v8,())) fun q1=>bif q1.1 then some (v8,()) else k0 (v0,v1,v7,wI (v8 + 1))) else some ((-1),())
abbrev zi7 (K:Nat):vB→Option (Int × Unit):=zg zd5 K
theorem zq2 (K:Nat):∀ n,evV Es0 K Tryz.f410 0 (ch [tI]) [1,0,1,0] [] zq1 n = zg zd5 n:=zr fun n0 (v0,v1,v7,v8)=>by kernel_rfl
def zfW (L0:vB→Option (Int × Unit)):((List qq) × ((Option ((qq × Unit)→Option (Bool × Unit))) × Unit))→Option (Int × Unit):=fun (x0,x1,()) =>
  L0 (x0,x1,((List.length x0):Int),0)
def zbF:((List qq) × ((Option ((qq × Unit)→Option (Bool × Unit))) × Unit))→Option (Int × Unit):=zfW (zi7 K0)
abbrev zkH:Fun:=⟨410,(ch [(.sl zV),(.fn (ch [zV]) (ch [.bool]))]),(ch [tI]),0,zbF⟩
theorem zt0:Sq zkH:=ml0 (d:=false) (S:=fun K=>zfW (zi7 K)) Tryz.func410 (by kernel_rfl) (fun K=>tr1 (T:=zfW) (zq2 K K) fun (x0,x1,())=>by kernel_rfl) rfl
def zi8:(Int × Unit)→Option (Bool × Unit):=fun (x0,()) =>
  bif decide (x0 ≥ 0) then bif decide (x0 ≤ 127) then some (true,()) else some (false,()) else some (false,())
abbrev zDe:Fun:=⟨434,(ch [tI]),(ch [.bool]),0,zi8⟩
theorem zLP:Sq zDe:=ms0 (d:=false) (K:=0) Tryz.func434 (by kernel_rfl) (funext fun (x0,())=>by kernel_rfl)
def zjD:(Int × Unit)→Option (Bool × Unit):=fun (x0,()) =>
  bif decide (x0 ≥ 32) then bif decide (x0 ≤ 126) then some (true,()) else some (false,()) else some (false,())
abbrev zuR:Fun:=⟨435,(ch [(.int .u8)]),(ch [.bool]),0,zjD⟩
theorem zGc:Sq zuR:=ms0 (d:=false) (K:=0) Tryz.func435 (by kernel_rfl) (funext fun (x0,())=>by kernel_rfl)
abbrev jE:Type:=ByteArray × Int
abbrev zm1:jE→St:=fun (v0,v1)=>St.mk [(0,.dat .str v0),(1,.dat (.int IntKind.u8) v1)] []
def zP (k0:jE→Option (ByteArray × Unit)):jE→Option (ByteArray × Unit):=fun (v0,v1) =>
  bif decide ((↑(ByteArray.size v0):Int) > 0) then inR (wI ((↑(ByteArray.size v0):Int) - 1)) (↑(ByteArray.size v0):Int) (bif (↑(UInt8.toNat (List.getD (Array.toList (ByteArray.data v0)) (Int.toNat (wI ((↑(ByteArray.size v0):Int) - 1))) 0)):Int) == v1 then bif decide (0 ≤ wI ((↑(ByteArray.size v0):Int) - 1)) then bif decide (wI ((↑(ByteArray.size v0):Int) - 1) ≤ (↑(ByteArray.size v0):Int)) then k0 (ByteArray.extract v0 0 (Int.toNat (wI ((↑(ByteArray.size v0):Int) - 1))),v1) else none else none else some (v0,())) else some (v0,())
abbrev zfZ (K:Nat):jE→Option (ByteArray × Unit):=zg zP K
theorem zm2 (K:Nat):∀ n,evV Es0 K Tryz.f441 0 (ch [.str]) [1,0,0] [] zm1 n = zg zP n:=zr fun n0 (v0,v1)=>by kernel_rfl
def zbM (L0:jE→Option (ByteArray × Unit)):(ByteArray × (Int × Unit))→Option (ByteArray × Unit):=fun (x0,x1,()) =>
  L0 (x0,x1)
def zbN:(ByteArray × Int × Unit)→Option (ByteArray × Unit):=zbM (zfZ K0)
abbrev zhp:Fun:=⟨441,(ch [.str,(.int .u8)]),(ch [.str]),0,zbN⟩
theorem zoE:Sq zhp:=ml0 (d:=false) (S:=fun K=>zbM (zfZ K)) Tryz.func441 (by kernel_rfl) (fun K=>tr1 (T:=zbM) (zm2 K K) fun (x0,x1,())=>by kernel_rfl) rfl
abbrev jQ:Type:=ByteArray × Int
abbrev znH:jQ→St:=fun (v0,v1)=>St.mk [(0,.dat .str v0),(1,.dat (.int IntKind.u8) v1)] []
def zT (k0:jQ→Option (ByteArray × Unit)):jQ→Option (ByteArray × Unit):=fun (v0,v1) =>
  bif decide ((↑(ByteArray.size v0):Int) > 0) then bif decide (0 < (↑(ByteArray.size v0):Int)) then bif (↑(UInt8.toNat (List.getD (Array.toList (ByteArray.data v0)) (Int.toNat 0) 0)):Int) == v1 then bif decide (1 ≤ (↑(ByteArray.size v0):Int)) then k0 (ByteArray.extract v0 (Int.toNat 1) (ByteArray.size v0),v1) else none else some (v0,()) else none else some (v0,())
abbrev zgr (K:Nat):jQ→Option (ByteArray × Unit):=zg zT K
theorem znI (K:Nat):∀ n,evV Es0 K Tryz.f440 0 (ch [.str]) [1,0,0] [] znH n = zg zT n:=zr fun n0 (v0,v1)=>by kernel_rfl
def zdr (L0:jQ→Option (ByteArray × Unit)):(ByteArray × (Int × Unit))→Option (ByteArray × Unit):=fun (x0,x1,()) =>
  L0 (x0,x1)
def zds:(ByteArray × Int × Unit)→Option (ByteArray × Unit):=zdr (zgr K0)
abbrev zhM:Fun:=⟨440,(ch [.str,(.int .u8)]),(ch [.str]),0,zds⟩
theorem zqf:Sq zhM:=ml0 (d:=false) (S:=fun K=>zdr (zgr K)) Tryz.func440 (by kernel_rfl) (fun K=>tr1 (T:=zdr) (znI K K) fun (x0,x1,())=>by kernel_rfl) rfl
abbrev vg:Type:=(List zv) × (Option ((zv × Unit)→Option (Bool × Unit))) × Int × Int
abbrev zqg:vg→St:=fun (v0,v1,v7,v8)=>St.mk [(0,.dat (.sl zx) v0),(1,.dat (.fn (.pair zx .unit) (.pair .bool .unit)) v1),(7,.dat tI v7),(8,.dat tI v8)] []
def zdt (k0:vg→Option (Int × Unit)):vg→Option (Int × Unit):=fun (v0,v1,v7,v8) =>
  bif decide (v8 < v7) then inR v8 ((List.length v0):Int) (Option.bind v1 fun q0=>Option.bind (q0 (ix zS v0 v8,())) fun q1=>bif q1.1 then some (v8,()) else k0 (v0,v1,v7,wI (v8 + 1))) else some ((-1),())
abbrev zhN (K:Nat):vg→Option (Int × Unit):=zg zdt K
theorem zqh (K:Nat):∀ n,evV Es0 K Tryz.f413 0 (ch [tI]) [1,0,1,0] [] zqg n = zg zdt n:=zr fun n0 (v0,v1,v7,v8)=>by kernel_rfl
def ze1 (L0:vg→Option (Int × Unit)):((List zv) × ((Option ((zv × Unit)→Option (Bool × Unit))) × Unit))→Option (Int × Unit):=fun (x0,x1,()) =>
  L0 (x0,x1,((List.length x0):Int),0)
def zaF:((List zv) × ((Option ((zv × Unit)→Option (Bool × Unit))) × Unit))→Option (Int × Unit):=ze1 (zhN K0)
abbrev zjE:Fun:=⟨413,(ch [(.sl zx),(.fn (ch [zx]) (ch [.bool]))]),(ch [tI]),0,zaF⟩
theorem zsq:Sq zjE:=ml0 (d:=false) (S:=fun K=>ze1 (zhN K)) Tryz.func413 (by kernel_rfl) (fun K=>tr1 (T:=ze1) (zqh K K) fun (x0,x1,())=>by kernel_rfl) rfl
def zgW:(Int × Unit)→Option (Bool × Unit):=fun (x0,()) =>
  bif decide (x0 ≥ 0) then bif decide (x0 ≤ 127) then some (true,()) else some (false,()) else some (false,())
abbrev zzL:Fun:=⟨414,(ch [tI]),(ch [.bool]),0,zgW⟩
theorem zKo:Sq zzL:=ms0 (d:=false) (K:=0) Tryz.func414 (by kernel_rfl) (funext fun (x0,())=>by kernel_rfl)
def qV:(Int × Unit)→Option (Bool × Unit):=fun (x0,()) =>
  bif decide (x0 ≥ 0) then bif decide (x0 < 4) then some (true,()) else some (false,()) else some (false,())
abbrev zuS:Fun:=⟨128,(ch [tI]),(ch [.bool]),0,qV⟩
theorem zGd:Sq zuS:=ms0 (d:=false) (K:=0) Tryz.func128 (by kernel_rfl) (funext fun (x0,())=>by kernel_rfl)
def zgs:(zjp × Unit)→Option (Bool × Unit):=fun (x0,()) =>
  bif eqI zb4 x0 (x0.1,(ze zb4).2.1,-1,(ze zb4).2.2.2) then some (true,()) else some (false,())
abbrev zuT:Fun:=⟨416,(ch [zb4]),(ch [.bool]),0,zgs⟩
theorem zGe:Sq zuT:=ms0 (d:=false) (K:=0) Tryz.func416 (by kernel_rfl) (funext fun (x0,())=>by kernel_rfl)
def zaS:(Int × Unit)→Option (Bool × Unit):=fun (x0,()) =>
  bif decide (x0 < 0) then some (true,()) else bif decide (x0 > 2) then some (true,()) else some (false,())
abbrev zq3:Fun:=⟨352,(ch [tI]),(ch [.bool]),0,zaS⟩
theorem zBG:Sq zq3:=ms0 (d:=false) (K:=0) Tryz.func352 (by kernel_rfl) (funext fun (x0,())=>by kernel_rfl)
def zdJ:(Int × (Int × Unit))→Option (Int × (Int × Unit)):=fun (x0,x1,()) =>
  some (wU (wU (wU (Int.fdiv x0 (2 ^ min (Int.toNat 32) (IntKind.bits IntKind.u64)) * Int.fdiv x1 (2 ^ min (Int.toNat 32) (IntKind.bits IntKind.u64))) + Int.fdiv (wU (wU (Int.fdiv x0 (2 ^ min (Int.toNat 32) (IntKind.bits IntKind.u64)) * wU (↑(BitVec.toNat (BitVec.ofInt (IntKind.bits IntKind.u64) x1 &&& BitVec.ofInt (IntKind.bits IntKind.u64) 4294967295)):Int)) + Int.fdiv (wU (wU (↑(BitVec.toNat (BitVec.ofInt (IntKind.bits IntKind.u64) x0 &&& BitVec.ofInt (IntKind.bits IntKind.u64) 4294967295)):Int) * wU (↑(BitVec.toNat (BitVec.ofInt (IntKind.bits IntKind.u64) x1 &&& BitVec.ofInt (IntKind.bits IntKind.u64) 4294967295)):Int))) (2 ^ min (Int.toNat 32) (IntKind.bits IntKind.u64)))) (2 ^ min (Int.toNat 32) (IntKind.bits IntKind.u64))) + Int.fdiv (wU (wU (↑(BitVec.toNat (BitVec.ofInt (IntKind.bits IntKind.u64) (wU (wU (Int.fdiv x0 (2 ^ min (Int.toNat 32) (IntKind.bits IntKind.u64)) * wU (↑(BitVec.toNat (BitVec.ofInt (IntKind.bits IntKind.u64) x1 &&& BitVec.ofInt (IntKind.bits IntKind.u64) 4294967295)):Int)) + Int.fdiv (wU (wU (↑(BitVec.toNat (BitVec.ofInt (IntKind.bits IntKind.u64) x0 &&& BitVec.ofInt (IntKind.bits IntKind.u64) 4294967295)):Int) * wU (↑(BitVec.toNat (BitVec.ofInt (IntKind.bits IntKind.u64) x1 &&& BitVec.ofInt (IntKind.bits IntKind.u64) 4294967295)):Int))) (2 ^ min (Int.toNat 32) (IntKind.bits IntKind.u64)))) &&& BitVec.ofInt (IntKind.bits IntKind.u64) 4294967295)):Int) + wU (wU (↑(BitVec.toNat (BitVec.ofInt (IntKind.bits IntKind.u64) x0 &&& BitVec.ofInt (IntKind.bits IntKind.u64) 4294967295)):Int) * Int.fdiv x1 (2 ^ min (Int.toNat 32) (IntKind.bits IntKind.u64))))) (2 ^ min (Int.toNat 32) (IntKind.bits IntKind.u64))),wU (x0 * x1),())
abbrev zmK:Fun:=⟨428,(ch [tU,tU]),(ch [tU,tU]),0,zdJ⟩
theorem zwm:Sq zmK:=ms0 (d:=false) (K:=0) Tryz.func428 (by kernel_rfl) (funext fun (x0,x1,())=>by kernel_rfl)
def zlS:(Int × Unit)→Option (Bool × Unit):=fun (x0,()) =>
  bif decide (x0 ≥ 0) then bif decide (x0 ≤ 127) then some (true,()) else some (false,()) else some (false,())
abbrev zDf:Fun:=⟨417,(ch [tI]),(ch [.bool]),0,zlS⟩
theorem zLQ:Sq zDf:=ms0 (d:=false) (K:=0) Tryz.func417 (by kernel_rfl) (funext fun (x0,())=>by kernel_rfl)
def ze2:(Int × Unit)→Option (Bool × Unit):=fun (x0,()) =>
  bif decide (x0 ≥ 0) then bif decide (x0 ≤ 127) then some (true,()) else some (false,()) else some (false,())
abbrev zzM:Fun:=⟨305,(ch [tI]),(ch [.bool]),0,ze2⟩
theorem zKp:Sq zzM:=ms0 (d:=false) (K:=0) Tryz.func305 (by kernel_rfl) (funext fun (x0,())=>by kernel_rfl)
def zfl:(zb × (z8 × Unit))→Option (Bool × Unit):=fun (x0,x1,()) =>
  bif decide (x1.1 ≥ 0) then bif decide (x1.1 < ((List.length x0.2.1):Int)) then bif decide (x1.2.1 ≥ 0) then inR x1.1 ((List.length x0.2.1):Int) (bif decide (x1.2.1 < ((List.length (ix za x0.2.1 x1.1).1):Int)) then inR x1.1 ((List.length x0.2.1):Int) (inR x1.2.1 ((List.length (ix za x0.2.1 x1.1).1):Int) (bif (List.getD (ix za x0.2.1 x1.1).1 (Int.toNat x1.2.1) (ze qa)).1 then some (true,()) else some (false,()))) else some (false,())) else some (false,()) else some (false,()) else some (false,())
abbrev zsP:Fun:=⟨147,(ch [zh,zL]),(ch [.bool]),0,zfl⟩
theorem zDy:Sq zsP:=ms0 (d:=false) (K:=0) Tryz.func147 (by kernel_rfl) (funext fun (x0,x1,())=>by kernel_rfl)
def zbQ:(qU × (Int × Unit))→Option (Bool × Unit):=fun (x0,x1,()) =>
  bif decide (x1 ≥ 0) then bif decide (x1 < ((List.length x0.1.1):Int)) then some (true,()) else some (false,()) else some (false,())
abbrev zsQ:Fun:=⟨244,(ch [qp,tI]),(ch [.bool]),0,zbQ⟩
theorem zDz:Sq zsQ:=ms0 (d:=false) (K:=0) Tryz.func244 (by kernel_rfl) (funext fun (x0,x1,())=>by kernel_rfl)
def qW:(qU × (Int × Unit))→Option (Bool × Unit):=fun (x0,x1,()) =>
  bif decide (x1 ≥ 0) then bif decide (x1 < ((List.length x0.1.2.2.1):Int)) then some (true,()) else some (false,()) else some (false,())
abbrev zpb:Fun:=⟨245,(ch [qp,tI]),(ch [.bool]),0,qW⟩
theorem zzN:Sq zpb:=ms0 (d:=false) (K:=0) Tryz.func245 (by kernel_rfl) (funext fun (x0,x1,())=>by kernel_rfl)
def zbG:(zt × ((Option (Option ((zt × Unit)→Option (Bool × Unit)))) × Unit))→Option (Bool × Unit):=fun (x0,x1,()) =>
  Option.bind x1 fun q0=>Option.bind q0 fun q1=>Option.bind (q1 (x0,())) fun q2=>bif q2.1 then some (false,()) else some (true,())
abbrev zkI:Fun:=⟨356,(ch [zp,(.ptr (.fn (ch [zp]) (ch [.bool])))]),(ch [.bool]),0,zbG⟩
theorem zt1:Sq zkI:=ms0 (d:=false) (K:=0) Tryz.func356 (by kernel_rfl) (funext fun (x0,x1,())=>by kernel_rfl)
abbrev vh:Type:=(List zt) × (Option ((zt × Unit)→Option (Bool × Unit))) × Int × Int
abbrev zqi:vh→St:=fun (v0,v1,v7,v8)=>St.mk [(0,.dat (.sl zp) v0),(1,.dat (.fn (.pair zp .unit) (.pair .bool .unit)) v1),(7,.dat tI v7),(8,.dat tI v8)] []
def zdu (k0:vh→Option (Int × Unit)):vh→Option (Int × Unit):=fun (v0,v1,v7,v8) =>
  bif decide (v8 < v7) then inR v8 ((List.length v0):Int) (Option.bind v1 fun q0=>Option.bind (q0 (ix zI v0 v8,())) fun q1=>bif q1.1 then some (v8,()) else k0 (v0,v1,v7,wI (v8 + 1))) else some ((-1),())
abbrev zhO (K:Nat):vh→Option (Int × Unit):=zg zdu K
theorem zqj (K:Nat):∀ n,evV Es0 K Tryz.f418 0 (ch [tI]) [1,0,1,0] [] zqi n = zg zdu n:=zr fun n0 (v0,v1,v7,v8)=>by kernel_rfl
def ze3 (L0:vh→Option (Int × Unit)):((List zt) × ((Option ((zt × Unit)→Option (Bool × Unit))) × Unit))→Option (Int × Unit):=fun (x0,x1,()) =>
  L0 (x0,x1,((List.length x0):Int),0)
def zaG:((List zt) × ((Option ((zt × Unit)→Option (Bool × Unit))) × Unit))→Option (Int × Unit):=ze3 (zhO K0)
abbrev zjF:Fun:=⟨418,(ch [(.sl zp),(.fn (ch [zp]) (ch [.bool]))]),(ch [tI]),0,zaG⟩
theorem zsr:Sq zjF:=ml0 (d:=false) (S:=fun K=>ze3 (zhO K)) Tryz.func418 (by kernel_rfl) (fun K=>tr1 (T:=ze3) (zqj K K) fun (x0,x1,())=>by kernel_rfl) rfl
def zbH:(zH × ((Option (Option ((zH × Unit)→Option (Bool × Unit)))) × Unit))→Option (Bool × Unit):=fun (x0,x1,()) =>
  Option.bind x1 fun q0=>Option.bind q0 fun q1=>Option.bind (q1 (x0,())) fun q2=>bif q2.1 then some (false,()) else some (true,())
abbrev zkJ:Fun:=⟨358,(ch [zu,(.ptr (.fn (ch [zu]) (ch [.bool])))]),(ch [.bool]),0,zbH⟩
theorem zt2:Sq zkJ:=ms0 (d:=false) (K:=0) Tryz.func358 (by kernel_rfl) (funext fun (x0,x1,())=>by kernel_rfl)
abbrev vi:Type:=(List zH) × (Option ((zH × Unit)→Option (Bool × Unit))) × Int × Int
abbrev zqk:vi→St:=fun (v0,v1,v7,v8)=>St.mk [(0,.dat (.sl zu) v0),(1,.dat (.fn (.pair zu .unit) (.pair .bool .unit)) v1),(7,.dat tI v7),(8,.dat tI v8)] []
def zdv (k0:vi→Option (Int × Unit)):vi→Option (Int × Unit):=fun (v0,v1,v7,v8) =>
  bif decide (v8 < v7) then inR v8 ((List.length v0):Int) (Option.bind v1 fun q0=>Option.bind (q0 (ix vN v0 v8,())) fun q1=>bif q1.1 then some (v8,()) else k0 (v0,v1,v7,wI (v8 + 1))) else some ((-1),())
abbrev zhP (K:Nat):vi→Option (Int × Unit):=zg zdv K
theorem zql (K:Nat):∀ n,evV Es0 K Tryz.f419 0 (ch [tI]) [1,0,1,0] [] zqk n = zg zdv n:=zr fun n0 (v0,v1,v7,v8)=>by kernel_rfl
def ze4 (L0:vi→Option (Int × Unit)):((List zH) × ((Option ((zH × Unit)→Option (Bool × Unit))) × Unit))→Option (Int × Unit):=fun (x0,x1,()) =>
  L0 (x0,x1,((List.length x0):Int),0)
def zaH:((List zH) × ((Option ((zH × Unit)→Option (Bool × Unit))) × Unit))→Option (Int × Unit):=ze4 (zhP K0)
abbrev zjG:Fun:=⟨419,(ch [(.sl zu),(.fn (ch [zu]) (ch [.bool]))]),(ch [tI]),0,zaH⟩
theorem zss:Sq zjG:=ml0 (d:=false) (S:=fun K=>ze4 (zhP K)) Tryz.func419 (by kernel_rfl) (fun K=>tr1 (T:=ze4) (zql K K) fun (x0,x1,())=>by kernel_rfl) rfl
def zdK:(Int × ((Option (Option ((Int × Unit)→Option (Bool × Unit)))) × Unit))→Option (Bool × Unit):=fun (x0,x1,()) =>
  Option.bind x1 fun q0=>Option.bind q0 fun q1=>Option.bind (q1 (x0,())) fun q2=>bif q2.1 then some (false,()) else some (true,())
abbrev zmL:Fun:=⟨359,(ch [tI,(.ptr (.fn (ch [tI]) (ch [.bool])))]),(ch [.bool]),0,zdK⟩
theorem zwn:Sq zmL:=ms0 (d:=false) (K:=0) Tryz.func359 (by kernel_rfl) (funext fun (x0,x1,())=>by kernel_rfl)
def zhQ:(zz × (zz × Unit))→Option (Bool × Unit):=fun (x0,x1,()) =>
  bif decide (x0.1 ≤ x1.1) then bif wU (↑(BitVec.toNat (BitVec.ofInt (IntKind.bits IntKind.u64) x0.2.1 &&& ~~~BitVec.ofInt (IntKind.bits IntKind.u64) x1.2.1)):Int) == 0 then some (true,()) else some (false,()) else some (false,())
abbrev zwP:Fun:=⟨23,(ch [zq,zq]),(ch [.bool]),0,zhQ⟩
theorem zIb:Sq zwP:=ms0 (d:=false) (K:=0) Tryz.func23 (by kernel_rfl) (funext fun (x0,x1,())=>by kernel_rfl)
def zf0:(qb × ((Option (Option ((z8 × Unit)→Option (Bool × Unit)))) × Unit))→Option (Bool × Unit):=fun (x0,x1,()) =>
  bif x0.1 then Option.bind x1 fun q0=>Option.bind q0 fun q1=>Option.bind (q1 (x0.2.1,())) fun q2=>bif q2.1 then Option.bind x1 fun q3=>Option.bind q3 fun q4=>Option.bind (q4 (x0.2.2.1,())) fun q5=>bif q5.1 then some (true,()) else some (false,()) else some (false,()) else some (true,())
abbrev zpc:Fun:=⟨252,(ch [zO,(.ptr (.fn (ch [zL]) (ch [.bool])))]),(ch [.bool]),0,zf0⟩
theorem zzO:Sq zpc:=ms0 (d:=false) (K:=0) Tryz.func252 (by kernel_rfl) (funext fun (x0,x1,())=>by kernel_rfl)
def zb7:(qb × ((Option (Option ((qb × Unit)→Option (Bool × Unit)))) × Unit))→Option (Bool × Unit):=fun (x0,x1,()) =>
  Option.bind x1 fun q0=>Option.bind q0 fun q1=>Option.bind (q1 (x0,())) fun q2=>bif q2.1 then some (false,()) else some (true,())
abbrev zlT:Fun:=⟨362,(ch [zO,(.ptr (.fn (ch [zO]) (ch [.bool])))]),(ch [.bool]),0,zb7⟩
theorem zuU:Sq zlT:=ms0 (d:=false) (K:=0) Tryz.func362 (by kernel_rfl) (funext fun (x0,x1,())=>by kernel_rfl)
end
end Go.Proofs.YtgomalidoilgbaaGreatDoor
end
section
namespace Go.Proofs.YtgomalidoilgbaaGreatDoor
open Go.Ev
noncomputable section
def zb8:(qc × ((Option (Option ((z8 × Unit)→Option (Bool × Unit)))) × Unit))→Option (Bool × Unit):=fun (x0,x1,()) =>
  bif x0.2.2.1 != 2 then some (true,()) else Option.bind x1 fun q0=>Option.bind q0 fun q1=>Option.bind (q1 (x0.2.2.2.2.1,())) fun q2=>bif q2.1 then some (true,()) else some (false,())
abbrev zpd:Fun:=⟨254,(ch [zw,(.ptr (.fn (ch [zL]) (ch [.bool])))]),(ch [.bool]),0,zb8⟩
theorem zzP:Sq zpd:=ms0 (d:=false) (K:=0) Tryz.func254 (by kernel_rfl) (funext fun (x0,x1,())=>by kernel_rfl)
def zb9:(qc × ((Option (Option ((qc × Unit)→Option (Bool × Unit)))) × Unit))→Option (Bool × Unit):=fun (x0,x1,()) =>
  Option.bind x1 fun q0=>Option.bind q0 fun q1=>Option.bind (q1 (x0,())) fun q2=>bif q2.1 then some (false,()) else some (true,())
abbrev zlU:Fun:=⟨363,(ch [zw,(.ptr (.fn (ch [zw]) (ch [.bool])))]),(ch [.bool]),0,zb9⟩
theorem zuV:Sq zlU:=ms0 (d:=false) (K:=0) Tryz.func363 (by kernel_rfl) (funext fun (x0,x1,())=>by kernel_rfl)
def zdL:(z8 × ((Option (Option ((z8 × Unit)→Option (Bool × Unit)))) × Unit))→Option (Bool × Unit):=fun (x0,x1,()) =>
  Option.bind x1 fun q0=>Option.bind q0 fun q1=>Option.bind (q1 (x0,())) fun q2=>bif q2.1 then some (false,()) else some (true,())
abbrev zmM:Fun:=⟨365,(ch [zL,(.ptr (.fn (ch [zL]) (ch [.bool])))]),(ch [.bool]),0,zdL⟩
theorem zwo:Sq zmM:=ms0 (d:=false) (K:=0) Tryz.func365 (by kernel_rfl) (funext fun (x0,x1,())=>by kernel_rfl)
abbrev vQ:Type:=(List z8) × (Option ((z8 × Unit)→Option (Bool × Unit))) × Int × Int
abbrev zst:vQ→St:=fun (v0,v1,v7,v8)=>St.mk [(0,.dat (.sl yo) v0),(1,.dat (.fn (.pair yo .unit) (.pair .bool .unit)) v1),(7,.dat tI v7),(8,.dat tI v8)] []
def ze5 (k0:vQ→Option (Int × Unit)):vQ→Option (Int × Unit):=fun (v0,v1,v7,v8) =>
  bif decide (v8 < v7) then inR v8 ((List.length v0):Int) (Option.bind v1 fun q0=>Option.bind (q0 (ix qG v0 v8,())) fun q1=>bif q1.1 then some (v8,()) else k0 (v0,v1,v7,wI (v8 + 1))) else some ((-1),())
abbrev zjH (K:Nat):vQ→Option (Int × Unit):=zg ze5 K
theorem zsu (K:Nat):∀ n,evV Es0 K Tryz.f420 0 (ch [tI]) [1,0,1,0] [] zst n = zg ze5 n:=zr fun n0 (v0,v1,v7,v8)=>by kernel_rfl
def zgt (L0:vQ→Option (Int × Unit)):((List z8) × ((Option ((z8 × Unit)→Option (Bool × Unit))) × Unit))→Option (Int × Unit):=fun (x0,x1,()) =>
  L0 (x0,x1,((List.length x0):Int),0)
def zca:((List vI) × ((Option ((vI × Unit)→Option (Bool × Unit))) × Unit))→Option (Int × Unit):=zgt (zjH K0)
abbrev zlV:Fun:=⟨420,(ch [(.sl zL),(.fn (ch [zL]) (ch [.bool]))]),(ch [tI]),0,zca⟩
theorem zuW:Sq zlV:=ml0 (d:=false) (S:=fun K=>zgt (zjH K)) Tryz.func420 (by kernel_rfl) (fun K=>tr1 (T:=zgt) (zsu K K) fun (x0,x1,())=>by kernel_rfl) rfl
def zcb:(qq × ((Option (Option ((qq × Unit)→Option (Bool × Unit)))) × Unit))→Option (Bool × Unit):=fun (x0,x1,()) =>
  Option.bind x1 fun q0=>Option.bind q0 fun q1=>Option.bind (q1 (x0,())) fun q2=>bif q2.1 then some (false,()) else some (true,())
abbrev zlW:Fun:=⟨366,(ch [zV,(.ptr (.fn (ch [zV]) (ch [.bool])))]),(ch [.bool]),0,zcb⟩
theorem zuX:Sq zlW:=ms0 (d:=false) (K:=0) Tryz.func366 (by kernel_rfl) (funext fun (x0,x1,())=>by kernel_rfl)
def zbI:(zv × ((Option (Option ((zv × Unit)→Option (Bool × Unit)))) × Unit))→Option (Bool × Unit):=fun (x0,x1,()) =>
  Option.bind x1 fun q0=>Option.bind q0 fun q1=>Option.bind (q1 (x0,())) fun q2=>bif q2.1 then some (false,()) else some (true,())
abbrev zkK:Fun:=⟨367,(ch [zx,(.ptr (.fn (ch [zx]) (ch [.bool])))]),(ch [.bool]),0,zbI⟩
theorem zt3:Sq zkK:=ms0 (d:=false) (K:=0) Tryz.func367 (by kernel_rfl) (funext fun (x0,x1,())=>by kernel_rfl)
def vR:(zv × Unit)→Option (Bool × Unit):=fun (x0,()) =>
  bif x0.1 then some (true,()) else some (false,())
abbrev zpe:Fun:=⟨263,(ch [zx]),(ch [.bool]),0,vR⟩
theorem zzQ:Sq zpe:=ms0 (d:=false) (K:=0) Tryz.func263 (by kernel_rfl) (funext fun (x0,())=>by kernel_rfl)
def ze6:((Option zb5) × Unit)→Option (Bool × Unit):=fun (x0,()) =>
  bif Option.isSome x0 then Option.bind x0 fun q0=>bif Option.isSome q0.2.1 then some (true,()) else some (false,()) else some (false,())
abbrev znJ:Fun:=⟨368,(ch [(.ptr vO)]),(ch [.bool]),0,ze6⟩
theorem zxY:Sq znJ:=ms0 (d:=false) (K:=0) Tryz.func368 (by kernel_rfl) (funext fun (x0,())=>by kernel_rfl)
def zjI:(zt × Unit)→Option (Bool × Unit):=fun (x0,()) =>
  bif x0.1 then some (true,()) else some (false,())
abbrev zuY:Fun:=⟨422,(ch [zp]),(ch [.bool]),0,zjI⟩
theorem zGf:Sq zuY:=ms0 (d:=false) (K:=0) Tryz.func422 (by kernel_rfl) (funext fun (x0,())=>by kernel_rfl)
def ze7:((Option zeU) × Unit)→Option (Bool × Unit):=fun (x0,()) =>
  bif Option.isSome x0 then Option.bind x0 fun q0=>bif Option.isSome q0.2.1 then some (true,()) else some (false,()) else some (false,())
abbrev znK:Fun:=⟨423,(ch [(.ptr yT)]),(ch [.bool]),0,ze7⟩
theorem zxZ:Sq znK:=ms0 (d:=false) (K:=0) Tryz.func423 (by kernel_rfl) (funext fun (x0,())=>by kernel_rfl)
def zic:(zt × Unit)→Option (Int × Unit):=fun (x0,()) =>
  bif x0.2.2.2.1 == 2 then some (x0.2.2.2.2.1,()) else some (x0.2.2.2.2.2.1,())
abbrev zsR:Fun:=⟨267,(ch [zp]),(ch [tI]),0,zic⟩
theorem zDA:Sq zsR:=ms0 (d:=false) (K:=0) Tryz.func267 (by kernel_rfl) (funext fun (x0,())=>by kernel_rfl)
def zfJ:(Int × (Int × Unit))→Option (Int × (Int × Unit)):=fun (x0,x1,()) =>
  bif decide (0 ≤ x0) then bif decide (0 ≤ x1) then bif decide (x1 < 18446744073709551616) then bif extB true x0 x1 != 0 then some (0,7,()) else bif decide (extA true x0 x1 > 4611686018427387904) then some (0,7,()) else some (extA true x0 x1,0,()) else none else none else none
abbrev zwQ:Fun:=⟨269,(ch [tU,tU]),(ch [tU,tI]),0,zfJ⟩
theorem zIc:Sq zwQ:=ms0 (d:=false) (K:=0) Tryz.func269 (by kernel_rfl) (funext fun (x0,x1,())=>by kernel_rfl)
def zid:(zv × Unit)→Option (Bool × Unit):=fun (x0,()) =>
  bif x0.1 then some (true,()) else some (false,())
abbrev zsS:Fun:=⟨371,(ch [zx]),(ch [.bool]),0,zid⟩
theorem zDB:Sq zsS:=ms0 (d:=false) (K:=0) Tryz.func371 (by kernel_rfl) (funext fun (x0,())=>by kernel_rfl)
def zk1:(zn × Unit)→Option ((List Int) × Unit):=fun (x0,()) =>
  some (x0.2.2.2.2.2.2.2.1,())
abbrev zq4:Fun:=⟨149,(ch [zl]),(ch [(.arr 4 tU)]),0,zk1⟩
theorem zBH:Sq zq4:=ms0 (d:=false) (K:=0) Tryz.func149 (by kernel_rfl) (funext fun (x0,())=>by kernel_rfl)
def zk2:(zn × Unit)→Option ((List Int) × Unit):=fun (x0,()) =>
  some (x0.2.2.2.2.2.2.2.2.1,())
abbrev zq5:Fun:=⟨150,(ch [zl]),(ch [(.arr 4 tU)]),0,zk2⟩
theorem zBI:Sq zq5:=ms0 (d:=false) (K:=0) Tryz.func150 (by kernel_rfl) (funext fun (x0,())=>by kernel_rfl)
def za8:(Int × (Int × Unit))→Option (Int × (Int × Unit)):=fun (x0,x1,()) =>
  bif decide (0 ≤ x0) then bif decide (0 ≤ x1) then bif decide (x1 < 18446744073709551616) then bif extB false x0 x1 != 0 then some (0,6,()) else some (extA false x0 x1,0,()) else none else none else none
abbrev zuZ:Fun:=⟨151,(ch [tU,tU]),(ch [tU,tI]),0,za8⟩
theorem zGg:Sq zuZ:=ms0 (d:=false) (K:=0) Tryz.func151 (by kernel_rfl) (funext fun (x0,x1,())=>by kernel_rfl)
def zie:(zz × Unit)→Option (Bool × Unit):=fun (x0,()) =>
  bif x0.1 == 0 then some (true,()) else bif x0.1 == 1 then some (true,()) else bif x0.1 == 2 then some (true,()) else bif x0.1 == 3 then some (true,()) else some (false,())
abbrev zsT:Fun:=⟨286,(ch [zq]),(ch [.bool]),0,zie⟩
theorem zDC:Sq zsT:=ms0 (d:=false) (K:=0) Tryz.func286 (by kernel_rfl) (funext fun (x0,())=>by kernel_rfl)
def zlu:(zz × (zz × Unit))→Option (Int × Unit):=fun (x0,x1,()) =>
  bif decide (x0.1 < x1.1) then some ((-1),()) else bif x0.1 == x1.1 then bif decide (x0.2.1 < x1.2.1) then some ((-1),()) else bif eqI zq x0 x1 then some (0,()) else some (1,()) else bif eqI zq x0 x1 then some (0,()) else some (1,())
abbrev zwR:Fun:=⟨287,(ch [zq,zq]),(ch [tI]),0,zlu⟩
theorem zId:Sq zwR:=ms0 (d:=false) (K:=0) Tryz.func287 (by kernel_rfl) (funext fun (x0,x1,())=>by kernel_rfl)
abbrev zcc:Type:=ByteArray × Int
abbrev zzR:zcc→St:=fun (v0,v3)=>St.mk [(0,.dat .str v0),(3,.dat tI v3)] []
def zf1 (k0:zcc→Option (Bool × Unit)):zcc→Option (Bool × Unit):=fun (v0,v3) =>
  bif decide (v3 < (↑(ByteArray.size v0):Int)) then inR v3 (↑(ByteArray.size v0):Int) (bif decide ((↑(UInt8.toNat (List.getD (Array.toList (ByteArray.data v0)) (Int.toNat v3) 0)):Int) ≥ 97) then inR v3 (↑(ByteArray.size v0):Int) (bif decide ((↑(UInt8.toNat (List.getD (Array.toList (ByteArray.data v0)) (Int.toNat v3) 0)):Int) ≤ 122) then k0 (v0,wI (v3 + 1)) else bif v3 == 0 then some (false,()) else inR v3 (↑(ByteArray.size v0):Int) (bif decide ((↑(UInt8.toNat (List.getD (Array.toList (ByteArray.data v0)) (Int.toNat v3) 0)):Int) < 48) then some (false,()) else inR v3 (↑(ByteArray.size v0):Int) (bif decide ((↑(UInt8.toNat (List.getD (Array.toList (ByteArray.data v0)) (Int.toNat v3) 0)):Int) > 57) then some (false,()) else k0 (v0,wI (v3 + 1))))) else bif v3 == 0 then some (false,()) else inR v3 (↑(ByteArray.size v0):Int) (bif decide ((↑(UInt8.toNat (List.getD (Array.toList (ByteArray.data v0)) (Int.toNat v3) 0)):Int) < 48) then some (false,()) else inR v3 (↑(ByteArray.size v0):Int) (bif decide ((↑(UInt8.toNat (List.getD (Array.toList (ByteArray.data v0)) (Int.toNat v3) 0)):Int) > 57) then some (false,()) else k0 (v0,wI (v3 + 1))))) else some (true,())
abbrev zjJ (K:Nat):zcc→Option (Bool × Unit):=zg zf1 K
theorem zzS (K:Nat):∀ n,evV Es0 K Tryz.f226 0 (ch [.bool]) [1,1,0,1,0] [] zzR n = zg zf1 n:=zr fun n0 (v0,v3)=>by kernel_rfl
def zif (L0:zcc→Option (Bool × Unit)):(ByteArray × Unit)→Option (Bool × Unit):=fun (x0,()) =>
  bif (↑(ByteArray.size x0):Int) == 0 then some (false,()) else bif decide ((↑(ByteArray.size x0):Int) > 12) then some (false,()) else L0 (x0,0)
def zD:(ByteArray × Unit)→Option (Bool × Unit):=zif (zjJ K0)
abbrev zsU:Fun:=⟨226,(ch [.str]),(ch [.bool]),0,zD⟩
theorem zDD:Sq zsU:=ml0 (d:=false) (S:=fun K=>zif (zjJ K)) Tryz.func226 (by kernel_rfl) (fun K=>tr1 (T:=zif) (zzS K K) fun (x0,())=>by kernel_rfl) rfl
def zgu:(Int × Unit)→Option (zz × Unit):=fun (x0,()) =>
  bif decide (wU x0 < 0) then none else some ((0,wU (1 * 2 ^ min (Int.toNat (wU x0)) (IntKind.bits IntKind.u64)),()),())
abbrev zu0:Fun:=⟨289,(ch [tI]),(ch [zq]),0,zgu⟩
theorem zGh:Sq zu0:=ms0 (d:=false) (K:=0) Tryz.func289 (by kernel_rfl) (funext fun (x0,())=>by kernel_rfl)
abbrev zcd:Type:=(List zz) × Int × zz
abbrev zzT:zcd→St:=fun (v0,v5,o0)=>St.mk [(0,.dat (.sl zq) v0),(3,.bp 0 []),(5,.dat tI v5)] [.bx (.dat zq o0) false]
def zce (k0:zcd→Option (Int × Unit)):zcd→Option (Int × Unit):=fun (v0,v5,o0) =>
  bif decide (v5 < ((List.length v0):Int)) then inR v5 ((List.length v0):Int) (bif eqI zq (ix jg v0 v5) o0 then some (v5,()) else k0 (v0,wI (v5 + 1),o0)) else some ((-1),())
abbrev zpf (K:Nat):zcd→Option (Int × Unit):=zg zce K
theorem zzU (K:Nat):∀ n,evV Es0 K Tryz.f288 0 (ch [tI]) [1,0,1,0] [] zzT n = zg zce n:=zr fun n0 (v0,v5,o0)=>by kernel_rfl
def zma (L0:zcd→Option (Int × Unit)):((List zz) × (zz × Unit))→Option (Int × Unit):=fun (x0,x1,()) =>
  L0 (x0,0,x1)
def zig:((List zz) × zz × Unit)→Option (Int × Unit):=zma (zpf K0)
abbrev zsV:Fun:=⟨288,(ch [(.sl zq),zq]),(ch [tI]),0,zig⟩
theorem zDE:Sq zsV:=ml0 (d:=false) (S:=fun K=>zma (zpf K)) Tryz.func288 (by kernel_rfl) (fun K=>tr1 (T:=zma) (zzU K K) fun (x0,x1,())=>by kernel_rfl) rfl
def zfK:(zz × (Int × Unit))→Option (Bool × Unit):=fun (x0,x1,()) =>
  bif decide (wU x1 < 0) then none else bif Int.tmod (Int.fdiv x0.2.1 (2 ^ min (Int.toNat (wU x1)) (IntKind.bits IntKind.u64))) 2 == 1 then some (true,()) else some (false,())
abbrev zwS:Fun:=⟨283,(ch [zq,tI]),(ch [.bool]),0,zfK⟩
theorem zIe:Sq zwS:=ms0 (d:=false) (K:=0) Tryz.func283 (by kernel_rfl) (funext fun (x0,x1,())=>by kernel_rfl)
abbrev zfm:Type:=(List z8) × Int × Int
abbrev zDF:zfm→St:=fun (v0,v1,v5)=>St.mk [(0,.dat (.sl yo) v0),(1,.dat tI v1),(5,.dat tI v5)] []
def zfn (k0:zfm→Option (Bool × Unit)):zfm→Option (Bool × Unit):=fun (v0,v1,v5) =>
  bif decide (v5 < ((List.length v0):Int)) then inR v5 ((List.length v0):Int) (bif (ix qG v0 v5).1 == v1 then some (true,()) else k0 (v0,v1,wI (v5 + 1))) else some (false,())
abbrev zsW (K:Nat):zfm→Option (Bool × Unit):=zg zfn K
theorem zDG (K:Nat):∀ n,evV Es0 K Tryz.f290 0 (ch [.bool]) [1,0,1,0] [] zDF n = zg zfn n:=zr fun n0 (v0,v1,v5)=>by kernel_rfl
def zqm (L0:zfm→Option (Bool × Unit)):((List z8) × (Int × Unit))→Option (Bool × Unit):=fun (x0,x1,()) =>
  L0 (x0,x1,0)
def zqn:((List z8) × Int × Unit)→Option (Bool × Unit):=zqm (zsW K0)
abbrev zwT:Fun:=⟨290,(ch [(.sl yo),tI]),(ch [.bool]),0,zqn⟩
theorem zIf:Sq zwT:=ml0 (d:=false) (S:=fun K=>zqm (zsW K)) Tryz.func290 (by kernel_rfl) (fun K=>tr1 (T:=zqm) (zDG K K) fun (x0,x1,())=>by kernel_rfl) rfl
def yf:(Int × Unit)→Option (Bool × Unit):=fun (x0,()) =>
  bif decide (x0 ≥ 0) then bif decide (x0 ≤ 12) then some (true,()) else some (false,()) else some (false,())
abbrev zsX:Fun:=⟨291,(ch [tI]),(ch [.bool]),0,yf⟩
theorem zDH:Sq zsX:=ms0 (d:=false) (K:=0) Tryz.func291 (by kernel_rfl) (funext fun (x0,())=>by kernel_rfl)
abbrev zcf:Type:=Int × zf × zb
abbrev zzV:zcf→St:=fun (v5,o0,o1)=>St.mk [(2,.bp 0 []),(3,.bp 1 []),(5,.dat tI v5)] [.bx (.dat zo o0) false,.bx (.dat zh o1) false]
def zf2 (k0:zcf→Option (Bool × Unit)):zcf→Option (Bool × Unit):=fun (v5,o0,o1) =>
  bif decide (v5 < ((List.length o1.2.1):Int)) then inR v5 ((List.length o1.2.1):Int) (inR v5 ((List.length o0.2.2.2.2.1):Int) (bif ((List.length (ix za o1.2.1 v5).1):Int) != (ix qg o0.2.2.2.2.1 v5).1 then some (false,()) else bif ((List.length (ix za o1.2.1 v5).2.1):Int) != (ix qg o0.2.2.2.2.1 v5).2.1 then some (false,()) else bif ((List.length (ix za o1.2.1 v5).2.2.1):Int) != (ix qg o0.2.2.2.2.1 v5).2.2.1 then some (false,()) else bif ((List.length (ix za o1.2.1 v5).2.2.2.1):Int) != (ix qg o0.2.2.2.2.1 v5).2.2.2.1 then some (false,()) else bif ((List.length (ix za o1.2.1 v5).2.2.2.2.1):Int) != (ix qg o0.2.2.2.2.1 v5).2.2.2.2.1 then some (false,()) else bif ((List.length (ix za o1.2.1 v5).2.2.2.2.2.1):Int) != ((List.length o0.2.2.1):Int) then some (false,()) else bif ((List.length (ix za o1.2.1 v5).2.2.2.2.2.2.1):Int) != ((List.length o0.2.2.1):Int) then some (false,()) else k0 (wI (v5 + 1),o0,o1))) else some (true,())
abbrev zjK (K:Nat):zcf→Option (Bool × Unit):=zg zf2 K
theorem zzW (K:Nat):∀ n,evV Es0 K Tryz.f86 0 (ch [.bool]) [1,1,0,1,0] [] zzV n = zg zf2 n:=zr fun n0 (v5,o0,o1)=>by kernel_rfl
def zih (L0:zcf→Option (Bool × Unit)):(zf × (zb × Unit))→Option (Bool × Unit):=fun (x0,x1,()) =>
  bif ((List.length x1.2.1):Int) != ((List.length x0.1):Int) then some (false,()) else bif ((List.length x1.2.2.2.1):Int) != x0.2.2.2.2.2.1 then some (false,()) else bif decide (((List.length x1.2.2.2.2.1):Int) > x0.2.2.2.2.2.2.1) then some (false,()) else bif ((List.length x1.2.2.2.2.2.1):Int) != ((List.length x0.2.1):Int) then some (false,()) else bif decide (x1.1 > 4611686018427387904) then some (false,()) else L0 (0,x0,x1)
def zii:(zf × zb × Unit)→Option (Bool × Unit):=zih (zjK K0)
abbrev zsY:Fun:=⟨86,(ch [zo,zh]),(ch [.bool]),0,zii⟩
theorem zDI:Sq zsY:=ml0 (d:=false) (S:=fun K=>zih (zjK K)) Tryz.func86 (by kernel_rfl) (fun K=>tr1 (T:=zih) (zzW K K) fun (x0,x1,())=>by kernel_rfl) rfl
def zij:(Int × (Int × Unit))→Option (Int × (Int × Unit)):=fun (x0,x1,()) =>
  bif x0 != 0 then bif x0 == 0 then none else bif decide (x1 > wU (Int.tdiv 4611686018427387904 x0)) then some (0,7,()) else some (wU (x0 * x1),0,()) else some (wU (x0 * x1),0,())
abbrev zsZ:Fun:=⟨427,(ch [tU,tU]),(ch [tU,tI]),0,zij⟩
theorem zDJ:Sq zsZ:=ms0 (d:=false) (K:=0) Tryz.func427 (by kernel_rfl) (funext fun (x0,x1,())=>by kernel_rfl)
def zhR:(Int × Unit)→Option (Bool × Unit):=fun (x0,()) =>
  bif decide (x0 ≥ 0) then bif decide (x0 < 128) then some (true,()) else some (false,()) else some (false,())
abbrev zwU:Fun:=⟨377,(ch [tI]),(ch [.bool]),0,zhR⟩
theorem zIg:Sq zwU:=ms0 (d:=false) (K:=0) Tryz.func377 (by kernel_rfl) (funext fun (x0,())=>by kernel_rfl)
abbrev zfo:Type:=(List zt) × Int × Int × Int
abbrev zDK:zfo→St:=fun (v0,v1,v2,v7)=>St.mk [(0,.dat (.sl zp) v0),(1,.dat tI v1),(2,.dat tI v2),(7,.dat tI v7)] []
def zfp (k0:zfo→Option (Bool × Unit)):zfo→Option (Bool × Unit):=fun (v0,v1,v2,v7) =>
  bif decide (v7 < v1) then inR v7 ((List.length v0):Int) (bif (ix zI v0 v7).1 then inR v7 ((List.length v0):Int) (bif (ix zI v0 v7).2.2.2.2.2.2.2.2.2.1 == v2 then some (true,()) else k0 (v0,v1,v2,wI (v7 + 1))) else k0 (v0,v1,v2,wI (v7 + 1))) else some (false,())
abbrev zs0 (K:Nat):zfo→Option (Bool × Unit):=zg zfp K
theorem zDL (K:Nat):∀ n,evV Es0 K Tryz.f293 0 (ch [.bool]) [1,0,1,0] [] zDK n = zg zfp n:=zr fun n0 (v0,v1,v2,v7)=>by kernel_rfl
def zqo (L0:zfo→Option (Bool × Unit)):((List zt) × (Int × (Int × Unit)))→Option (Bool × Unit):=fun (x0,x1,x2,()) =>
  L0 (x0,x1,x2,0)
def zlv:((List zt) × Int × Int × Unit)→Option (Bool × Unit):=zqo (zs0 K0)
abbrev zwV:Fun:=⟨293,(ch [(.sl zp),tI,tI]),(ch [.bool]),0,zlv⟩
theorem zIh:Sq zwV:=ml0 (d:=false) (S:=fun K=>zqo (zs0 K)) Tryz.func293 (by kernel_rfl) (fun K=>tr1 (T:=zqo) (zDL K K) fun (x0,x1,x2,())=>by kernel_rfl) rfl
def zdw:(Int × Unit)→Option (Bool × Unit):=fun (x0,()) =>
  bif decide (x0 ≥ 0) then bif decide (x0 < 128) then some (true,()) else some (false,()) else some (false,())
abbrev zwW:Fun:=⟨378,(ch [tI]),(ch [.bool]),0,zdw⟩
theorem zIi:Sq zwW:=ms0 (d:=false) (K:=0) Tryz.func378 (by kernel_rfl) (funext fun (x0,())=>by kernel_rfl)
def zgX:(zH × (zH × Unit))→Option (Bool × Unit):=fun (x0,x1,()) =>
  bif decide (x0.1 > x1.1) then some (true,()) else bif x0.1 == x1.1 then bif decide (x0.2.1 > x1.2.1) then some (true,()) else some (false,()) else some (false,())
abbrev zq6:Fun:=⟨295,(ch [zu,zu]),(ch [.bool]),0,zgX⟩
theorem zBJ:Sq zq6:=ms0 (d:=false) (K:=0) Tryz.func295 (by kernel_rfl) (funext fun (x0,x1,())=>by kernel_rfl)
def zfq:(zb × (z8 × Unit))→Option (Bool × Unit):=fun (x0,x1,()) =>
  bif decide (x1.1 < 0) then some (false,()) else bif decide (x1.1 ≥ ((List.length x0.2.1):Int)) then some (false,()) else bif decide (x1.2.1 < 0) then some (false,()) else inR x1.1 ((List.length x0.2.1):Int) (bif decide (x1.2.1 ≥ ((List.length (ix za x0.2.1 x1.1).1):Int)) then some (false,()) else inR x1.1 ((List.length x0.2.1):Int) (inR x1.2.1 ((List.length (ix za x0.2.1 x1.1).1):Int) (bif (List.getD (ix za x0.2.1 x1.1).1 (Int.toNat x1.2.1) (ze qa)).1 then some (true,()) else some (false,()))))
abbrev zs1:Fun:=⟨170,(ch [zh,zL]),(ch [.bool]),0,zfq⟩
theorem zDM:Sq zs1:=ms0 (d:=false) (K:=0) Tryz.func170 (by kernel_rfl) (funext fun (x0,x1,())=>by kernel_rfl)
def jU:(zf × (Int × Unit))→Option (Bool × Unit):=fun (x0,x1,()) =>
  bif decide (x1 ≥ 0) then bif decide (x1 < ((List.length x0.2.2.1):Int)) then some (true,()) else some (false,()) else some (false,())
abbrev zwX:Fun:=⟨156,(ch [zo,tI]),(ch [.bool]),0,jU⟩
theorem zIj:Sq zwX:=ms0 (d:=false) (K:=0) Tryz.func156 (by kernel_rfl) (funext fun (x0,x1,())=>by kernel_rfl)
def qI:(z8 × Unit)→Option (Bool × Unit):=fun (x0,()) =>
  bif decide (x0.1 ≥ 0) then bif decide (x0.1 < 128) then bif decide (x0.2.1 ≥ 0) then bif decide (x0.2.1 < 128) then some (true,()) else some (false,()) else some (false,()) else some (false,()) else some (false,())
abbrev zs2:Fun:=⟨228,(ch [zL]),(ch [.bool]),0,qI⟩
theorem zDN:Sq zs2:=ms0 (d:=false) (K:=0) Tryz.func228 (by kernel_rfl) (funext fun (x0,())=>by kernel_rfl)
def zhS:(Int × Unit)→Option (Bool × Unit):=fun (x0,()) =>
  bif decide (x0 ≥ 0) then bif decide (x0 < 128) then some (true,()) else some (false,()) else some (false,())
abbrev zwY:Fun:=⟨225,(ch [tI]),(ch [.bool]),0,zhS⟩
theorem zIk:Sq zwY:=ms0 (d:=false) (K:=0) Tryz.func225 (by kernel_rfl) (funext fun (x0,())=>by kernel_rfl)
def zfL:(Int × Unit)→Option (Bool × Unit):=fun (x0,()) =>
  bif decide (x0 ≥ 0) then bif decide (x0 < 128) then some (true,()) else some (false,()) else some (false,())
abbrev zwZ:Fun:=⟨296,(ch [tI]),(ch [.bool]),0,zfL⟩
theorem zIl:Sq zwZ:=ms0 (d:=false) (K:=0) Tryz.func296 (by kernel_rfl) (funext fun (x0,())=>by kernel_rfl)
def zlw:(Int × Unit)→Option (Bool × Unit):=fun (x0,()) =>
  bif decide (x0 ≥ 32) then bif decide (x0 ≤ 126) then some (true,()) else some (false,()) else some (false,())
abbrev zw0:Fun:=⟨379,(ch [(.int .u8)]),(ch [.bool]),0,zlw⟩
theorem zIm:Sq zw0:=ms0 (d:=false) (K:=0) Tryz.func379 (by kernel_rfl) (funext fun (x0,())=>by kernel_rfl)
def jp:(Int × Unit)→Option (Bool × Unit):=fun (x0,()) =>
  bif decide (x0 ≥ 0) then bif decide (x0 < 128) then some (true,()) else some (false,()) else some (false,())
abbrev zw1:Fun:=⟨380,(ch [tI]),(ch [.bool]),0,jp⟩
theorem zIn:Sq zw1:=ms0 (d:=false) (K:=0) Tryz.func380 (by kernel_rfl) (funext fun (x0,())=>by kernel_rfl)
def jq:(zjp × Unit)→Option (Bool × Unit):=fun (x0,()) =>
  bif decide (x0.1 ≥ 0) then bif decide (x0.1 < 4) then bif decide (x0.2.1 ≤ 4611686018427387904) then bif decide (x0.2.2.1 ≥ -1) then bif decide (x0.2.2.1 < 128) then some (true,()) else some (false,()) else some (false,()) else some (false,()) else some (false,()) else some (false,())
abbrev zw2:Fun:=⟨381,(ch [zb4]),(ch [.bool]),0,jq⟩
theorem zIo:Sq zw2:=ms0 (d:=false) (K:=0) Tryz.func381 (by kernel_rfl) (funext fun (x0,())=>by kernel_rfl)
def zik:(zt × (Int × Unit))→Option (Int × Unit):=fun (x0,x1,()) =>
  bif x0.1 then bif x0.2.2.2.1 == 2 then bif x0.2.2.2.2.1 == x1 then some (x0.2.2.2.2.2.2.2.2.1,()) else bif x0.2.2.2.1 != 2 then bif x0.2.2.2.2.2.1 == x1 then some (x0.2.2.2.2.2.2.2.2.1,()) else some (0,()) else some (0,()) else bif x0.2.2.2.1 != 2 then bif x0.2.2.2.2.2.1 == x1 then some (x0.2.2.2.2.2.2.2.2.1,()) else some (0,()) else some (0,()) else some (0,())
abbrev zs3:Fun:=⟨299,(ch [zp,tI]),(ch [tU]),0,zik⟩
theorem zDO:Sq zs3:=ms0 (d:=false) (K:=0) Tryz.func299 (by kernel_rfl) (funext fun (x0,x1,())=>by kernel_rfl)
def vj:(Int × (Int × Unit))→Option (Int × (Int × Unit)):=fun (x0,x1,()) =>
  bif decide (x0 > 4611686018427387904) then some (0,7,()) else bif decide (x1 > wU (4611686018427387904 - x0)) then some (0,7,()) else some (wU (x0 + x1),0,())
abbrev zu1:Fun:=⟨72,(ch [tU,tU]),(ch [tU,tI]),0,vj⟩
theorem zGi:Sq zu1:=ms0 (d:=false) (K:=0) Tryz.func72 (by kernel_rfl) (funext fun (x0,x1,())=>by kernel_rfl)
def zfr:(Int × (Int × Unit))→Option (Int × (Int × Unit)):=fun (x0,x1,()) =>
  bif decide (x1 > x0) then some (0,6,()) else some (wU (x0 - x1),0,())
abbrev zs4:Fun:=⟨181,(ch [tU,tU]),(ch [tU,tI]),0,zfr⟩
theorem zDP:Sq zs4:=ms0 (d:=false) (K:=0) Tryz.func181 (by kernel_rfl) (funext fun (x0,x1,())=>by kernel_rfl)
def za9:(zb × (Int × (zn × Unit)))→Option (zb × Unit):=fun (x0,x1,x2,()) =>
  bif decide ((0:Nat) + List.length x0.2.1 ≤ lim) then inR x1 ((List.length ([] ++ x0.2.1)):Int) (some ((u1 x0 (List.set ([] ++ x0.2.1) (Int.toNat x1) x2)),())) else none
abbrev zu2:Fun:=⟨74,(ch [zh,tI,zl]),(ch [zh]),0,za9⟩
theorem zGj:Sq zu2:=ms0 (d:=false) (K:=0) Tryz.func74 (by kernel_rfl) (funext fun (x0,x1,x2,())=>by kernel_rfl)
def zs5:Unit→Option (zf × Unit):=fun () =>
  some (([(0,0,()),(0,1,()),(1,1,())],[0,1,2],[(ByteArray.mk #[97,110,110],ByteArray.mk #[97],1,true,()),(ByteArray.mk #[98,111,98],ByteArray.mk #[98],0,false,())],[(0,0,())],[(2,2,2,2,2,1000,()),(2,2,2,2,2,1000,()),(2,2,2,2,2,1000,())],4,6,2,3,()),())
abbrev zs6:Fun:=⟨64,.unit,(ch [zo]),0,zs5⟩
theorem zDQ:Sq zs6:=ms0 (d:=false) (K:=0) Tryz.func64 (by kernel_rfl) (funext fun ()=>by kernel_rfl)
def zs7:(zf × (zaw × Unit))→Option (zn × Unit):=fun (x0,x1,()) =>
  bif decide (0 ≤ x1.1) then bif decide (x1.1 ≤ x1.1) then bif decide (x1.1 ≤ (↑lim:Int)) then bif decide (0 ≤ x1.2.1) then bif decide (x1.2.1 ≤ x1.2.1) then bif decide (x1.2.1 ≤ (↑lim:Int)) then bif decide (0 ≤ x1.2.2.1) then bif decide (x1.2.2.1 ≤ x1.2.2.1) then bif decide (x1.2.2.1 ≤ (↑lim:Int)) then bif decide (0 ≤ x1.2.2.2.1) then bif decide (x1.2.2.2.1 ≤ x1.2.2.2.1) then bif decide (x1.2.2.2.1 ≤ (↑lim:Int)) then bif decide (0 ≤ x1.2.2.2.2.1) then bif decide (x1.2.2.2.2.1 ≤ x1.2.2.2.2.1) then bif decide (x1.2.2.2.2.1 ≤ (↑lim:Int)) then bif decide (((List.length x0.2.2.1):Int) ≤ ((List.length x0.2.2.1):Int)) then bif decide (((List.length x0.2.2.1):Int) ≤ (↑lim:Int)) then bif decide (((List.length x0.2.2.1):Int) ≤ ((List.length x0.2.2.1):Int)) then bif decide (((List.length x0.2.2.1):Int) ≤ (↑lim:Int)) then some ((List.replicate (Int.toNat x1.1) (ze qa),List.replicate (Int.toNat x1.2.1) (ze zO),List.replicate (Int.toNat x1.2.2.1) (ze zw),List.replicate (Int.toNat x1.2.2.2.1) (ze zV),List.replicate (Int.toNat x1.2.2.2.2.1) (ze zx),List.replicate (Int.toNat ((List.length x0.2.2.1):Int)) (ze (.arr 4 tU)),List.replicate (Int.toNat ((List.length x0.2.2.1):Int)) (ze zL),[0,0,0,0],[0,0,0,0],()),()) else none else none else none else none else none else none else none else none else none else none else none else none else none else none else none else none else none else none else none
abbrev zs8:Fun:=⟨146,(ch [zo,za6]),(ch [zl]),3,zs7⟩
theorem zDR:Sq zs8:=ms0 (d:=true) (K:=0) Tryz.func146 (by kernel_rfl) (funext fun (x0,x1,())=>by kernel_rfl)
abbrev zd6:Type:=(List (List Int)) × (List (List Int)) × Int × Int
abbrev zq7:zd6→St:=fun (v0,v1,v5,v6)=>St.mk [(0,.dat (.sl (.sl tI)) v0),(1,.dat (.sl (.sl tI)) v1),(5,.dat tI v5),(6,.dat tI v6)] []
abbrev yJ:Type:=(List (List Int)) × (List (List Int)) × Int
abbrev zq8:yJ→St:=fun (v0,v1,v5)=>St.mk [(0,.dat (.sl (.sl tI)) v0),(1,.dat (.sl (.sl tI)) v1),(5,.dat tI v5)] []
def zd7 (k0:yJ→Option (Bool × Unit)) (k1:zd6→Option (Bool × Unit)):zd6→Option (Bool × Unit):=fun (v0,v1,v5,v6) =>
  inR v5 ((List.length v0):Int) (bif decide (v6 < ((List.length (List.getD v0 (Int.toNat v5) ([]:List Int))):Int)) then inR v5 ((List.length v0):Int) (inR v6 ((List.length (List.getD v0 (Int.toNat v5) ([]:List Int))):Int) (inR v5 ((List.length v1):Int) (inR v6 ((List.length (List.getD v1 (Int.toNat v5) ([]:List Int))):Int) (bif List.getD (List.getD v0 (Int.toNat v5) ([]:List Int)) (Int.toNat v6) (0:Int) != List.getD (List.getD v1 (Int.toNat v5) ([]:List Int)) (Int.toNat v6) (0:Int) then some (false,()) else k1 (v0,v1,v5,wI (v6 + 1)))))) else k0 (v0,v1,wI (v5 + 1)))
abbrev zgY (K:Nat) (k0:yJ→Option (Bool × Unit)):zd6→Option (Bool × Unit):=zg (fun k1=>zd7 k0 k1) K
theorem zBK (K:Nat) (n0:Nat):∀ n,evV Es0 K Tryz.f54 0 (ch [.bool]) [1,1,0,1,0,0,1,0,0,1,1,0] [n0] zq7 n = zg (fun k1=>zd7 (evV Es0 K Tryz.f54 0 (ch [.bool]) [1,1,0,1,0] [] zq8 n0) k1) n:=zr fun n1 (v0,v1,v5,v6)=>by kernel_rfl
def zaT (L1:zd6→Option (Bool × Unit)) (k0:yJ→Option (Bool × Unit)):yJ→Option (Bool × Unit):=fun (v0,v1,v5) =>
  bif decide (v5 < ((List.length v0):Int)) then inR v5 ((List.length v0):Int) (inR v5 ((List.length v1):Int) (bif ((List.length (List.getD v0 (Int.toNat v5) ([]:List Int))):Int) != ((List.length (List.getD v1 (Int.toNat v5) ([]:List Int))):Int) then some (false,()) else L1 (v0,v1,v5,0))) else some (true,())
abbrev zq9 (K:Nat):yJ→Option (Bool × Unit):=zg (fun k0=>zaT (zgY K k0) k0) K
theorem zBL (K:Nat):∀ n,evV Es0 K Tryz.f54 0 (ch [.bool]) [1,1,0,1,0] [] zq8 n = zg (fun k0=>zaT (zgY K k0) k0) n:=qC (B:=fun L1 k0=>zaT L1 k0) (V1:=fun n0=>evV Es0 K Tryz.f54 0 (ch [.bool]) [1,1,0,1,0,0,1,0,0,1,1,0] [n0] zq7 K) (W1:=fun k0=>(zgY K k0)) (fun n0=>zBK K n0 K) fun n0 (v0,v1,v5)=>by kernel_rfl
def znL (L0:yJ→Option (Bool × Unit)):((List (List Int)) × ((List (List Int)) × Unit))→Option (Bool × Unit):=fun (x0,x1,()) =>
  bif ((List.length x0):Int) != ((List.length x1):Int) then some (false,()) else L0 (x0,x1,0)
def znM:((List (List Int)) × (List (List Int)) × Unit)→Option (Bool × Unit):=znL (zq9 K0)
abbrev zu3:Fun:=⟨54,(ch [(.sl (.sl tI)),(.sl (.sl tI))]),(ch [.bool]),0,znM⟩
theorem zGk:Sq zu3:=ml0 (d:=false) (S:=fun K=>znL (zq9 K)) Tryz.func54 (by kernel_rfl) (fun K=>tr1 (T:=znL) (zBL K K) fun (x0,x1,())=>by kernel_rfl) rfl
abbrev zd8:Type:=(List zt) × (List zt) × Int
abbrev zBM:zd8→St:=fun (v0,v1,v5)=>St.mk [(0,.dat (.sl zp) v0),(1,.dat (.sl zp) v1),(5,.dat tI v5)] []
def zd9 (k0:zd8→Option (Bool × Unit)):zd8→Option (Bool × Unit):=fun (v0,v1,v5) =>
  bif decide (v5 < ((List.length v0):Int)) then inR v5 ((List.length v0):Int) (inR v5 ((List.length v1):Int) (bif !eqI zp (ix zI v0 v5) (ix zI v1 v5) then some (false,()) else k0 (v0,v1,wI (v5 + 1)))) else some (true,())
abbrev zra (K:Nat):zd8→Option (Bool × Unit):=zg zd9 K
theorem zBN (K:Nat):∀ n,evV Es0 K Tryz.f55 0 (ch [.bool]) [1,1,0,1,0] [] zBM n = zg zd9 n:=zr fun n0 (v0,v1,v5)=>by kernel_rfl
def znN (L0:zd8→Option (Bool × Unit)):((List zt) × ((List zt) × Unit))→Option (Bool × Unit):=fun (x0,x1,()) =>
  bif ((List.length x0):Int) != ((List.length x1):Int) then some (false,()) else L0 (x0,x1,0)
def znO:((List zt) × (List zt) × Unit)→Option (Bool × Unit):=znN (zra K0)
abbrev zu4:Fun:=⟨55,(ch [(.sl zp),(.sl zp)]),(ch [.bool]),0,znO⟩
theorem zGl:Sq zu4:=ml0 (d:=false) (S:=fun K=>znN (zra K)) Tryz.func55 (by kernel_rfl) (fun K=>tr1 (T:=znN) (zBN K K) fun (x0,x1,())=>by kernel_rfl) rfl
abbrev zea:Type:=(List zH) × (List zH) × Int
abbrev zBO:zea→St:=fun (v0,v1,v5)=>St.mk [(0,.dat (.sl zu) v0),(1,.dat (.sl zu) v1),(5,.dat tI v5)] []
def zeb (k0:zea→Option (Bool × Unit)):zea→Option (Bool × Unit):=fun (v0,v1,v5) =>
  bif decide (v5 < ((List.length v0):Int)) then inR v5 ((List.length v0):Int) (inR v5 ((List.length v1):Int) (bif !eqI zu (ix vN v0 v5) (ix vN v1 v5) then some (false,()) else k0 (v0,v1,wI (v5 + 1)))) else some (true,())
abbrev zrb (K:Nat):zea→Option (Bool × Unit):=zg zeb K
theorem zBP (K:Nat):∀ n,evV Es0 K Tryz.f56 0 (ch [.bool]) [1,1,0,1,0] [] zBO n = zg zeb n:=zr fun n0 (v0,v1,v5)=>by kernel_rfl
def znP (L0:zea→Option (Bool × Unit)):((List zH) × ((List zH) × Unit))→Option (Bool × Unit):=fun (x0,x1,()) =>
  bif ((List.length x0):Int) != ((List.length x1):Int) then some (false,()) else L0 (x0,x1,0)
def znQ:((List zH) × (List zH) × Unit)→Option (Bool × Unit):=znP (zrb K0)
abbrev zu5:Fun:=⟨56,(ch [(.sl zu),(.sl zu)]),(ch [.bool]),0,znQ⟩
theorem zGm:Sq zu5:=ml0 (d:=false) (S:=fun K=>znP (zrb K)) Tryz.func56 (by kernel_rfl) (fun K=>tr1 (T:=znP) (zBP K K) fun (x0,x1,())=>by kernel_rfl) rfl
abbrev yt:Type:=(List qT) × (List qT) × Int
abbrev zt4:yt→St:=fun (v0,v1,v5)=>St.mk [(0,.dat (.sl qa) v0),(1,.dat (.sl qa) v1),(5,.dat tI v5)] []
def yu (k0:yt→Option (Bool × Unit)):yt→Option (Bool × Unit):=fun (v0,v1,v5) =>
  bif decide (v5 < ((List.length v0):Int)) then inR v5 ((List.length v0):Int) (inR v5 ((List.length v1):Int) (bif !eqI qa (ix zgT v0 v5) (ix zgT v1 v5) then some (false,()) else k0 (v0,v1,wI (v5 + 1)))) else some (true,())
abbrev zkL (K:Nat):yt→Option (Bool × Unit):=zg yu K
theorem zt5 (K:Nat):∀ n,evV Es0 K Tryz.f133 0 (ch [.bool]) [1,1,0,1,0] [] zt4 n = zg yu n:=zr fun n0 (v0,v1,v5)=>by kernel_rfl
def zhx (L0:yt→Option (Bool × Unit)):((List qT) × ((List qT) × Unit))→Option (Bool × Unit):=fun (x0,x1,()) =>
  bif ((List.length x0):Int) != ((List.length x1):Int) then some (false,()) else L0 (x0,x1,0)
def zhy:((List qT) × (List qT) × Unit)→Option (Bool × Unit):=zhx (zkL K0)
abbrev zmN:Fun:=⟨133,(ch [(.sl qa),(.sl qa)]),(ch [.bool]),0,zhy⟩
theorem zwp:Sq zmN:=ml0 (d:=false) (S:=fun K=>zhx (zkL K)) Tryz.func133 (by kernel_rfl) (fun K=>tr1 (T:=zhx) (zt5 K K) fun (x0,x1,())=>by kernel_rfl) rfl
abbrev yw:Type:=(List qb) × (List qb) × Int
abbrev zt6:yw→St:=fun (v0,v1,v5)=>St.mk [(0,.dat (.sl zO) v0),(1,.dat (.sl zO) v1),(5,.dat tI v5)] []
def yx (k0:yw→Option (Bool × Unit)):yw→Option (Bool × Unit):=fun (v0,v1,v5) =>
  bif decide (v5 < ((List.length v0):Int)) then inR v5 ((List.length v0):Int) (inR v5 ((List.length v1):Int) (bif !eqI zO (ix qj v0 v5) (ix qj v1 v5) then some (false,()) else k0 (v0,v1,wI (v5 + 1)))) else some (true,())
abbrev zkM (K:Nat):yw→Option (Bool × Unit):=zg yx K
theorem zt7 (K:Nat):∀ n,evV Es0 K Tryz.f134 0 (ch [.bool]) [1,1,0,1,0] [] zt6 n = zg yx n:=zr fun n0 (v0,v1,v5)=>by kernel_rfl
def zhz (L0:yw→Option (Bool × Unit)):((List qb) × ((List qb) × Unit))→Option (Bool × Unit):=fun (x0,x1,()) =>
  bif ((List.length x0):Int) != ((List.length x1):Int) then some (false,()) else L0 (x0,x1,0)
def zhA:((List qb) × (List qb) × Unit)→Option (Bool × Unit):=zhz (zkM K0)
abbrev zmO:Fun:=⟨134,(ch [(.sl zO),(.sl zO)]),(ch [.bool]),0,zhA⟩
theorem zwq:Sq zmO:=ml0 (d:=false) (S:=fun K=>zhz (zkM K)) Tryz.func134 (by kernel_rfl) (fun K=>tr1 (T:=zhz) (zt7 K K) fun (x0,x1,())=>by kernel_rfl) rfl
abbrev zec:Type:=(List qc) × (List qc) × Int
abbrev zBQ:zec→St:=fun (v0,v1,v5)=>St.mk [(0,.dat (.sl zw) v0),(1,.dat (.sl zw) v1),(5,.dat tI v5)] []
def zed (k0:zec→Option (Bool × Unit)):zec→Option (Bool × Unit):=fun (v0,v1,v5) =>
  bif decide (v5 < ((List.length v0):Int)) then inR v5 ((List.length v0):Int) (inR v5 ((List.length v1):Int) (bif !eqI zw (ix zB v0 v5) (ix zB v1 v5) then some (false,()) else k0 (v0,v1,wI (v5 + 1)))) else some (true,())
abbrev zrc (K:Nat):zec→Option (Bool × Unit):=zg zed K
theorem zBR (K:Nat):∀ n,evV Es0 K Tryz.f135 0 (ch [.bool]) [1,1,0,1,0] [] zBQ n = zg zed n:=zr fun n0 (v0,v1,v5)=>by kernel_rfl
def znR (L0:zec→Option (Bool × Unit)):((List qc) × ((List qc) × Unit))→Option (Bool × Unit):=fun (x0,x1,()) =>
  bif ((List.length x0):Int) != ((List.length x1):Int) then some (false,()) else L0 (x0,x1,0)
def znS:((List qc) × (List qc) × Unit)→Option (Bool × Unit):=znR (zrc K0)
abbrev zu6:Fun:=⟨135,(ch [(.sl zw),(.sl zw)]),(ch [.bool]),0,znS⟩
theorem zGn:Sq zu6:=ml0 (d:=false) (S:=fun K=>znR (zrc K)) Tryz.func135 (by kernel_rfl) (fun K=>tr1 (T:=znR) (zBR K K) fun (x0,x1,())=>by kernel_rfl) rfl
abbrev zee:Type:=(List qq) × (List qq) × Int
abbrev zBS:zee→St:=fun (v0,v1,v5)=>St.mk [(0,.dat (.sl zV) v0),(1,.dat (.sl zV) v1),(5,.dat tI v5)] []
def zef (k0:zee→Option (Bool × Unit)):zee→Option (Bool × Unit):=fun (v0,v1,v5) =>
  bif decide (v5 < ((List.length v0):Int)) then inR v5 ((List.length v0):Int) (inR v5 ((List.length v1):Int) (bif !eqI zV (ix zaC v0 v5) (ix zaC v1 v5) then some (false,()) else k0 (v0,v1,wI (v5 + 1)))) else some (true,())
abbrev zrd (K:Nat):zee→Option (Bool × Unit):=zg zef K
theorem zBT (K:Nat):∀ n,evV Es0 K Tryz.f136 0 (ch [.bool]) [1,1,0,1,0] [] zBS n = zg zef n:=zr fun n0 (v0,v1,v5)=>by kernel_rfl
def znT (L0:zee→Option (Bool × Unit)):((List qq) × ((List qq) × Unit))→Option (Bool × Unit):=fun (x0,x1,()) =>
  bif ((List.length x0):Int) != ((List.length x1):Int) then some (false,()) else L0 (x0,x1,0)
def znU:((List qq) × (List qq) × Unit)→Option (Bool × Unit):=znT (zrd K0)
abbrev zu7:Fun:=⟨136,(ch [(.sl zV),(.sl zV)]),(ch [.bool]),0,znU⟩
theorem zGo:Sq zu7:=ml0 (d:=false) (S:=fun K=>znT (zrd K)) Tryz.func136 (by kernel_rfl) (fun K=>tr1 (T:=znT) (zBT K K) fun (x0,x1,())=>by kernel_rfl) rfl
abbrev zeg:Type:=(List zv) × (List zv) × Int
abbrev zBU:zeg→St:=fun (v0,v1,v5)=>St.mk [(0,.dat (.sl zx) v0),(1,.dat (.sl zx) v1),(5,.dat tI v5)] []
def zeh (k0:zeg→Option (Bool × Unit)):zeg→Option (Bool × Unit):=fun (v0,v1,v5) =>
  bif decide (v5 < ((List.length v0):Int)) then inR v5 ((List.length v0):Int) (inR v5 ((List.length v1):Int) (bif !eqI zx (ix zS v0 v5) (ix zS v1 v5) then some (false,()) else k0 (v0,v1,wI (v5 + 1)))) else some (true,())
abbrev zre (K:Nat):zeg→Option (Bool × Unit):=zg zeh K
theorem zBV (K:Nat):∀ n,evV Es0 K Tryz.f137 0 (ch [.bool]) [1,1,0,1,0] [] zBU n = zg zeh n:=zr fun n0 (v0,v1,v5)=>by kernel_rfl
def znV (L0:zeg→Option (Bool × Unit)):((List zv) × ((List zv) × Unit))→Option (Bool × Unit):=fun (x0,x1,()) =>
  bif ((List.length x0):Int) != ((List.length x1):Int) then some (false,()) else L0 (x0,x1,0)
def znW:((List zv) × (List zv) × Unit)→Option (Bool × Unit):=znV (zre K0)
abbrev zu8:Fun:=⟨137,(ch [(.sl zx),(.sl zx)]),(ch [.bool]),0,znW⟩
theorem zGp:Sq zu8:=ml0 (d:=false) (S:=fun K=>znV (zre K)) Tryz.func137 (by kernel_rfl) (fun K=>tr1 (T:=znV) (zBV K K) fun (x0,x1,())=>by kernel_rfl) rfl
abbrev L1:List Fun:=znw :: znx :: zqN :: zo4 :: zny :: zo5 :: zo6 :: zo7 :: zo8 :: znz :: zsN :: zqO :: zsO :: zqP :: zjv :: zo9 :: zlP :: zuG :: zlQ :: zuI :: zuJ :: zkB :: zuK :: zhK :: zmJ :: zuL :: zuM :: znF :: znG :: zpa :: zkD :: zjB :: zkE :: zuP :: zuQ :: zqW :: zkF :: zkG :: zzJ :: zzK :: zkH :: zDe :: zuR :: zhp :: zhM :: zjE :: zzL :: zuS :: zuT :: zq3 :: zmK :: zDf :: zzM :: zsP :: zsQ :: zpb :: zkI :: zjF :: zkJ :: zjG :: zmL :: zwP :: zpc :: zlT :: zpd :: zlU :: zmM :: zlV :: zlW :: zkK :: zpe :: znJ :: zuY :: znK :: zsR :: zwQ :: zsS :: zq4 :: zq5 :: zuZ :: zsT :: zwR :: zsU :: zu0 :: zsV :: zwS :: zwT :: zsX :: zsY :: zsZ :: zwU :: zwV :: zwW :: zq6 :: zs1 :: zwX :: zs2 :: zwY :: zwZ :: zw0 :: zw1 :: zw2 :: zs3 :: zu1 :: zs4 :: zu2 :: zs6 :: zs8 :: zu3 :: zu4 :: zu5 :: zmN :: zmO :: zu6 :: zu7 :: zu8 :: L0
theorem h1:Sds Tryz.prog E0 L1:=⟨zxS,zxT,zBy,zzC,zxU,zzD,zzE,zzF,zzG,zxV,zDw,zBz,zDx,zBA,zsl,zzH,zuF,zF4,zuH,zF5,zF6,ztT,zF7,zqc,zwl,zF8,zF9,zxW,zxX,zzI,ztW,zso,ztX,zGa,zGb,zBF,ztY,ztZ,zKm,zKn,zt0,zLP,zGc,zoE,zqf,zsq,zKo,zGd,zGe,zBG,zwm,zLQ,zKp,zDy,zDz,zzN,zt1,zsr,zt2,zss,zwn,zIb,zzO,zuU,zzP,zuV,zwo,zuW,zuX,zt3,zzQ,zxY,zGf,zxZ,zDA,zIc,zDB,zBH,zBI,zGg,zDC,zId,zDD,zGh,zDE,zIe,zIf,zDH,zDI,zDJ,zIg,zIh,zIi,zBJ,zDM,zIj,zDN,zIk,zIl,zIm,zIn,zIo,zDO,zGi,zDP,zGj,zDQ,zDR,zGk,zGl,zGm,zwp,zwq,zGn,zGo,zGp,h0⟩
theorem ms1 {d:Bool} {F:Fun} {f:Go.Func} {K:Nat} (hf:Tryz.prog.funcs[F.id]? = some f) (ho:jA f = true) (h:evF (En E0 d L1) K f F.md F.a F.r = F.spec):Sd Tryz.prog E0 F:=mkS h1 hf ho h
theorem ml1 {d:Bool} {F:Fun} {f:Go.Func} {S:Nat→F.a.I→Option F.r.I} (hf:Tryz.prog.funcs[F.id]? = some f) (ho:jA f = true) (h:∀ K,evF (En E0 d L1) K f F.md F.a F.r = S K) (e:S K0 = F.spec):Sd Tryz.prog E0 F:=mkS h1 hf ho ((h K0).trans e)
abbrev Es1:Env:=En E0 false L1
abbrev Ed1:Env:=En E0 true L1
abbrev zcg:Type:=Int × Int × Int × Int × List zn × Nat × List (List Int) × Nat × List zt × List zH × List Int × List zn × Nat × List (List Int) × Nat × List zt × List zH × List Int
abbrev zpg:zcg→St:=fun (v44,v45,o0_0,o1_0,o2,c2,o3,c3,o4,o5,o6,o7,c7,o8,c8,o9,o10,o11)=>St.mk [(1,.bp 0 []),(2,.bp 1 []),(43,.ow 2),(44,.dat tI v44),(45,.dat tI v45)] [.bx (.fld (.pair tU (.pair (.sl zl) (.pair (.sl (.sl tI)) (.pair (.sl zp) (.pair (.sl zu) (.pair (.sl tI) .unit)))))) [.dat tU o0_0,.ow 2,.ow 3,.ow 4,.ow 5,.ow 6]) false,.bx (.fld (.pair tU (.pair (.sl zl) (.pair (.sl (.sl tI)) (.pair (.sl zp) (.pair (.sl zu) (.pair (.sl tI) .unit)))))) [.dat tU o1_0,.ow 7,.ow 8,.ow 9,.ow 10,.ow 11]) false,.drow zl o2 c2,.drow (.sl tI) o3 c3,.row zp o4 false,.row zu o5 false,.row tI o6 false,.drow zl o7 c7,.drow (.sl tI) o8 c8,.row zp o9 false,.row zu o10 false,.row tI o11 false]
abbrev zch:Type:=Int × Int × Int × (List zn) × Int × List (List Int) × Nat × List zt × List zH × List Int × List zn × Nat × List (List Int) × Nat × List zt × List zH × List Int
abbrev zzX:zch→St:=fun (v25,v26,o0_0,o0_1,o1_0,o2,c2,o3,o4,o5,o6,c6,o7,c7,o8,o9,o10)=>St.mk [(1,.bp 0 []),(2,.bp 1 []),(24,.ow 2),(25,.dat tI v25),(26,.dat tI v26)] [.bx (.fld (.pair tU (.pair (.sl zl) (.pair (.sl (.sl tI)) (.pair (.sl zp) (.pair (.sl zu) (.pair (.sl tI) .unit)))))) [.dat tU o0_0,.dat (.sl zl) o0_1,.ow 2,.ow 3,.ow 4,.ow 5]) false,.bx (.fld (.pair tU (.pair (.sl zl) (.pair (.sl (.sl tI)) (.pair (.sl zp) (.pair (.sl zu) (.pair (.sl tI) .unit)))))) [.dat tU o1_0,.ow 6,.ow 7,.ow 8,.ow 9,.ow 10]) false,.drow (.sl tI) o2 c2,.row zp o3 false,.row zu o4 false,.row tI o5 false,.drow zl o6 c6,.drow (.sl tI) o7 c7,.row zp o8 false,.row zu o9 false,.row tI o10 false]
def zci (k1:zcg→Option (zb × Unit)):zcg→Option (zb × Unit):=fun (v44,v45,o0_0,o1_0,o2,c2,o3,c3,o4,o5,o6,o7,c7,o8,c8,o9,o10,o11) =>
  bif decide (v45 < v44) then inR v45 ((List.length o2):Int) (bif decide (c2 ≤ Int.toNat v45) then Option.bind (zjr ((ix za o2 v45).1,())) fun q6=>Option.bind (zjs ((ix za o2 v45).2.1,())) fun q7=>Option.bind (zjt ((ix za o2 v45).2.2.1,())) fun q8=>Option.bind (zju ((ix za o2 v45).2.2.2.1,())) fun q9=>Option.bind (zeW ((ix za o2 v45).2.2.2.2.1,())) fun q10=>Option.bind (zl9 ((ix za o2 v45).2.2.2.2.2.1,())) fun q11=>Option.bind (zk0 ((ix za o2 v45).2.2.2.2.2.2.1,())) fun q12=>inR v45 ((List.length o2):Int) (bif decide (Int.toNat v45 = c2) then k1 (v44,wI (v45 + 1),o0_0,o1_0,List.set o2 (Int.toNat v45) (q6.1,q7.1,q8.1,q9.1,q10.1,q11.1,q12.1,(ix za o2 v45).2.2.2.2.2.2.2.1,(ix za o2 v45).2.2.2.2.2.2.2.2.1,()),c2 + 1,o3,c3,o4,o5,o6,o7,c7,o8,c8,o9,o10,o11) else none) else none) else bif decide (c2 = List.length o2) then bif decide (c3 = List.length o3) then some ((o0_0,o2,o3,o4,o5,o6,()),()) else none else none
abbrev zcj (K:Nat):zcg→Option (zb × Unit):=zg zci K
theorem zzY (K:Nat):∀ n,evV Ed1 K Tryz.f12 3 (ch [zh]) [1,1,1,1,1,0,1,0] [] zpg n = zg zci n:=zr fun n1 (v44,v45,o0_0,o1_0,o2,c2,o3,c3,o4,o5,o6,o7,c7,o8,c8,o9,o10,o11)=>by kernel_rfl
def zab (L1:zcg→Option (zb × Unit)) (k0:zch→Option (zb × Unit)):zch→Option (zb × Unit):=fun (v25,v26,o0_0,o0_1,o1_0,o2,c2,o3,o4,o5,o6,c6,o7,c7,o8,o9,o10) =>
  bif decide (v26 < v25) then inR v26 ((List.length o2):Int) (bif decide (c2 ≤ Int.toNat v26) then Option.bind (zgU (List.getD o2 (Int.toNat v26) ([]:List Int),())) fun q4=>inR v26 ((List.length o2):Int) (bif decide (Int.toNat v26 = c2) then k0 (v25,wI (v26 + 1),o0_0,o0_1,o1_0,List.set o2 (Int.toNat v26) q4.1,c2 + 1,o3,o4,o5,o6,c6,o7,c7,o8,o9,o10) else none) else none) else Option.bind (ziG (o0_1,())) fun q5=>L1 (((List.length q5.1):Int),0,o0_0,o1_0,q5.1,0,o2,c2,o3,o4,o5,o6,c6,o7,c7,o8,o9,o10)
abbrev zjL (K:Nat):zch→Option (zb × Unit):=zg (fun k0=>zab (zcj K) k0) K
theorem zzZ (K:Nat):∀ n,evV Ed1 K Tryz.f12 3 (ch [zh]) [1,1,1,0,1,0] [] zzX n = zg (fun k0=>zab (zcj K) k0) n:=qC (B:=fun L1 k0=>zab L1 k0) (V1:=fun n0=>evV Ed1 K Tryz.f12 3 (ch [zh]) [1,1,1,1,1,0,1,0] [] zpg K) (W1:=fun k0=>(zcj K)) (fun n0=>zzY K K) fun n0 (v25,v26,o0_0,o0_1,o1_0,o2,c2,o3,o4,o5,o6,c6,o7,c7,o8,o9,o10)=>by kernel_rfl
def zil (L0:zch→Option (zb × Unit)):(zb × Unit)→Option (zb × Unit):=fun (x0,()) =>
  Option.bind (zeV (x0.2.2.2.1,())) fun q0=>Option.bind (ziF (x0.2.2.2.2.1,())) fun q1=>Option.bind (zgU (x0.2.2.2.2.2.1,())) fun q2=>Option.bind (zjq (x0.2.2.1,())) fun q3=>L0 (((List.length q3.1):Int),0,x0.1,x0.2.1,0,q3.1,0,q0.1,q1.1,q2.1,[],0,[],0,[],[],[])
def qB:(zb × Unit)→Option (zb × Unit):=zil (zjL K0)
abbrev zs9:Fun:=⟨12,(ch [zh]),(ch [zh]),3,qB⟩
theorem zDS:Sq zs9:=ml1 (d:=true) (S:=fun K=>zil (zjL K)) Tryz.func12 (by kernel_rfl) (fun K=>tr1 (T:=zil) (zzZ K K) fun (x0,())=>by kernel_rfl) rfl
def ze8:(zz × Unit)→Option (Bool × Unit):=fun (x0,()) =>
  Option.bind (zib (x0,())) fun q0=>bif q0.1 then some (false,()) else some (true,())
abbrev znX:Fun:=⟨319,(ch [zq]),(ch [.bool]),0,ze8⟩
theorem zx0:Sq znX:=ms1 (d:=false) (K:=0) Tryz.func319 (by kernel_rfl) (funext fun (x0,())=>by kernel_rfl)
def yl:((List zz) × ((Option ((zz × Unit)→Option (Bool × Unit))) × Unit))→Option (Bool × Unit):=fun (x0,x1,()) =>
  Option.bind (zaD (x0,x1,())) fun q0=>bif decide (q0.1 ≥ 0) then some (true,()) else some (false,())
abbrev zhq:Fun:=⟨320,(ch [(.sl zq),(.fn (ch [zq]) (ch [.bool]))]),(ch [.bool]),0,yl⟩
theorem zoF:Sq zhq:=ms1 (d:=false) (K:=0) Tryz.func320 (by kernel_rfl) (funext fun (x0,x1,())=>by kernel_rfl)
def zax:(Int × (Int × Unit))→Option (Int × Unit):=fun (x0,x1,()) =>
  Option.bind (zaa (x0,())) fun q0=>bif q0.1 then Option.bind (zaa (x1,())) fun q1=>bif q1.1 then some (0,()) else some ((-1),()) else Option.bind (zaa (x1,())) fun q2=>bif q2.1 then some (1,()) else bif decide (x0 < x1) then some ((-1),()) else bif decide (x0 > x1) then some (1,()) else some (0,())
abbrev zmP:Fun:=⟨389,(ch [tI,tI]),(ch [tI]),0,zax⟩
theorem zwr:Sq zmP:=ms1 (d:=false) (K:=0) Tryz.func389 (by kernel_rfl) (funext fun (x0,x1,())=>by kernel_rfl)
def vS:(Int × (Int × Unit))→Option (Int × Unit):=fun (x0,x1,()) =>
  Option.bind (vw (x0,())) fun q0=>bif q0.1 then Option.bind (vw (x1,())) fun q1=>bif q1.1 then some (0,()) else some ((-1),()) else Option.bind (vw (x1,())) fun q2=>bif q2.1 then some (1,()) else bif decide (x0 < x1) then some ((-1),()) else bif decide (x0 > x1) then some (1,()) else some (0,())
abbrev zjM:Fun:=⟨390,(ch [tU,tU]),(ch [tI]),0,vS⟩
theorem zsv:Sq zjM:=ms1 (d:=false) (K:=0) Tryz.func390 (by kernel_rfl) (funext fun (x0,x1,())=>by kernel_rfl)
end
end Go.Proofs.YtgomalidoilgbaaGreatDoor
end
section
namespace Go.Proofs.YtgomalidoilgbaaGreatDoor
open Go.Ev
noncomputable section
def zck:(Int × ((Option zf) × Unit))→Option (Bool × Unit):=fun (x0,x1,()) =>
  Option.bind x1 fun q0=>Option.bind (qt (x0,0,wI (((List.length q0.1):Int) - 1),())) fun q1=>bif q1.1 then some (false,()) else some (true,())
abbrev zph:Fun:=⟨322,(ch [tI,(.ptr zo)]),(ch [.bool]),0,zck⟩
theorem zz0:Sq zph:=ms1 (d:=false) (K:=0) Tryz.func322 (by kernel_rfl) (funext fun (x0,x1,())=>by kernel_rfl)
def qK:((List Int) × ((Option ((Int × Unit)→Option (Bool × Unit))) × Unit))→Option (Bool × Unit):=fun (x0,x1,()) =>
  Option.bind (zb6 (x0,x1,())) fun q0=>bif decide (q0.1 ≥ 0) then some (true,()) else some (false,())
abbrev zi9:Fun:=⟨281,(ch [(.sl tI),(.fn (ch [tI]) (ch [.bool]))]),(ch [.bool]),0,qK⟩
theorem zrf:Sq zi9:=ms1 (d:=false) (K:=0) Tryz.func281 (by kernel_rfl) (funext fun (x0,x1,())=>by kernel_rfl)
def vk:((List Int) × ((Option ((Int × Unit)→Option (Bool × Unit))) × Unit))→Option (Bool × Unit):=fun (x0,x1,()) =>
  Option.bind (zbB (x0,x1,())) fun q0=>bif decide (q0.1 ≥ 0) then some (true,()) else some (false,())
abbrev zhT:Fun:=⟨432,(ch [(.sl (.int .u8)),(.fn (ch [(.int .u8)]) (ch [.bool]))]),(ch [.bool]),0,vk⟩
theorem zqp:Sq zhT:=ms1 (d:=false) (K:=0) Tryz.func432 (by kernel_rfl) (funext fun (x0,x1,())=>by kernel_rfl)
def zgZ:(Int × Unit)→Option (Bool × Unit):=fun (x0,()) =>
  Option.bind (zgo (x0,())) fun q0=>bif q0.1 then some (true,()) else Option.bind (zjy (x0,())) fun q1=>bif q1.1 then some (true,()) else some (false,())
abbrev zrg:Fun:=⟨393,(ch [(.int .u8)]),(ch [.bool]),0,zgZ⟩
theorem zBW:Sq zrg:=ms1 (d:=false) (K:=0) Tryz.func393 (by kernel_rfl) (funext fun (x0,())=>by kernel_rfl)
def zaI:((List qy) × ((Option ((qy × Unit)→Option (Bool × Unit))) × Unit))→Option (Bool × Unit):=fun (x0,x1,()) =>
  Option.bind (yU (x0,x1,())) fun q0=>bif decide (q0.1 ≥ 0) then some (true,()) else some (false,())
abbrev zf3:Fun:=⟨325,(ch [(.sl qD),(.fn (ch [qD]) (ch [.bool]))]),(ch [.bool]),0,zaI⟩
theorem zm3:Sq zf3:=ms1 (d:=false) (K:=0) Tryz.func325 (by kernel_rfl) (funext fun (x0,x1,())=>by kernel_rfl)
def zbJ:((List zz) × (zz × Unit))→Option (Bool × Unit):=fun (x0,x1,()) =>
  Option.bind (ziI (x0,x1,())) fun q0=>bif decide (q0.1 ≥ 0) then some (true,()) else some (false,())
abbrev zkN:Fun:=⟨328,(ch [(.sl zq),zq]),(ch [.bool]),0,zbJ⟩
theorem zt8:Sq zkN:=ms1 (d:=false) (K:=0) Tryz.func328 (by kernel_rfl) (funext fun (x0,x1,())=>by kernel_rfl)
def ze9:(Int × Unit)→Option (Bool × Unit):=fun (x0,()) =>
  Option.bind (qt (x0,0,12,())) fun q0=>bif q0.1 then some (false,()) else some (true,())
abbrev znY:Fun:=⟨330,(ch [tI]),(ch [.bool]),0,ze9⟩
theorem zx1:Sq znY:=ms1 (d:=false) (K:=0) Tryz.func330 (by kernel_rfl) (funext fun (x0,())=>by kernel_rfl)
def y4:(zf × Unit)→Option (Bool × Unit):=fun (x0,()) =>
  Option.bind (qt (x0.2.2.2.2.2.1,0,24,())) fun q0=>bif q0.1 then Option.bind (qt (x0.2.2.2.2.2.2.1,0,48,())) fun q1=>bif q1.1 then Option.bind (qt (x0.2.2.2.2.2.2.2.1,1,4,())) fun q2=>bif q2.1 then Option.bind (qt (x0.2.2.2.2.2.2.2.2.1,1,16,())) fun q3=>bif q3.1 then some (true,()) else some (false,()) else some (false,()) else some (false,()) else some (false,())
abbrev zu9:Fun:=⟨213,(ch [zo]),(ch [.bool]),0,y4⟩
theorem zGq:Sq zu9:=ms1 (d:=false) (K:=0) Tryz.func213 (by kernel_rfl) (funext fun (x0,())=>by kernel_rfl)
def j3:((List zn) × ((Option ((zn × Unit)→Option (Bool × Unit))) × Unit))→Option (Bool × Unit):=fun (x0,x1,()) =>
  Option.bind (zaE (x0,x1,())) fun q0=>bif decide (q0.1 ≥ 0) then some (true,()) else some (false,())
abbrev zhr:Fun:=⟨339,(ch [(.sl zl),(.fn (ch [zl]) (ch [.bool]))]),(ch [.bool]),0,j3⟩
theorem zoG:Sq zhr:=ms1 (d:=false) (K:=0) Tryz.func339 (by kernel_rfl) (funext fun (x0,x1,())=>by kernel_rfl)
def zdx:((List qT) × ((Option ((qT × Unit)→Option (Bool × Unit))) × Unit))→Option (Bool × Unit):=fun (x0,x1,()) =>
  Option.bind (zbD (x0,x1,())) fun q0=>bif decide (q0.1 ≥ 0) then some (true,()) else some (false,())
abbrev zhU:Fun:=⟨341,(ch [(.sl qa),(.fn (ch [qa]) (ch [.bool]))]),(ch [.bool]),0,zdx⟩
theorem zqq:Sq zhU:=ms1 (d:=false) (K:=0) Tryz.func341 (by kernel_rfl) (funext fun (x0,x1,())=>by kernel_rfl)
def zjN:(qb × Unit)→Option (Bool × Unit):=fun (x0,()) =>
  bif x0.1 then Option.bind (zgq (x0.2.1,())) fun q0=>bif q0.1 then Option.bind (zgq (x0.2.2.1,())) fun q1=>bif q1.1 then Option.bind (zjC (x0.2.2.2.1,())) fun q2=>bif q2.1 then some (false,()) else some (true,()) else some (true,()) else some (true,()) else bif !eqI zO x0 (ze zO) then some (true,()) else some (false,())
abbrev zva:Fun:=⟨343,(ch [zO]),(ch [.bool]),0,zjN⟩
theorem zGr:Sq zva:=ms1 (d:=false) (K:=0) Tryz.func343 (by kernel_rfl) (funext fun (x0,())=>by kernel_rfl)
def zjO:((List qb) × (z8 × (Int × Unit)))→Option (Int × Unit):=fun (x0,x1,x2,()) =>
  Option.bind (yr (x0,some fun z=>zgV (z.1,some x1,some x2,()),())) fun q0=>some (q0.1,())
abbrev zvb:Fun:=⟨344,(ch [(.sl zO),zL,tI]),(ch [tI]),0,zjO⟩
theorem zGs:Sq zvb:=ms1 (d:=false) (K:=0) Tryz.func344 (by kernel_rfl) (funext fun (x0,x1,x2,())=>by kernel_rfl)
def jt:((List qc) × ((Option ((qc × Unit)→Option (Bool × Unit))) × Unit))→Option (Bool × Unit):=fun (x0,x1,()) =>
  Option.bind (zbE (x0,x1,())) fun q0=>bif decide (q0.1 ≥ 0) then some (true,()) else some (false,())
abbrev zhV:Fun:=⟨345,(ch [(.sl zw),(.fn (ch [zw]) (ch [.bool]))]),(ch [.bool]),0,jt⟩
theorem zqr:Sq zhV:=ms1 (d:=false) (K:=0) Tryz.func345 (by kernel_rfl) (funext fun (x0,x1,())=>by kernel_rfl)
def zcl:(zBx × Unit)→Option (Bool × Unit):=fun (x0,()) =>
  bif x0.1 == 1 then Option.bind (ze0 (x0.2.1,())) fun q0=>bif q0.1 then bif eqI zL x0.2.2.1 (ze zL) then some (true,()) else some (false,()) else some (false,()) else bif x0.1 == 3 then Option.bind (ze0 (x0.2.1,())) fun q1=>bif q1.1 then bif eqI zL x0.2.2.1 (ze zL) then some (true,()) else some (false,()) else some (false,()) else bif x0.1 == 2 then bif x0.2.1 == 0 then Option.bind (ze0 (x0.2.2.1.1,())) fun q2=>bif q2.1 then Option.bind (ze0 (x0.2.2.1.2.1,())) fun q3=>bif q3.1 then some (true,()) else some (false,()) else some (false,()) else some (false,()) else some (false,())
abbrev zlX:Fun:=⟨332,(ch [zfI]),(ch [.bool]),0,zcl⟩
theorem zvc:Sq zlX:=ms1 (d:=false) (K:=0) Tryz.func332 (by kernel_rfl) (funext fun (x0,())=>by kernel_rfl)
def ju:((List qq) × ((Option ((qq × Unit)→Option (Bool × Unit))) × Unit))→Option (Bool × Unit):=fun (x0,x1,()) =>
  Option.bind (zbF (x0,x1,())) fun q0=>bif decide (q0.1 ≥ 0) then some (true,()) else some (false,())
abbrev zhW:Fun:=⟨347,(ch [(.sl zV),(.fn (ch [zV]) (ch [.bool]))]),(ch [.bool]),0,ju⟩
theorem zqs:Sq zhW:=ms1 (d:=false) (K:=0) Tryz.func347 (by kernel_rfl) (funext fun (x0,x1,())=>by kernel_rfl)
def zk3:(qq × Unit)→Option (Bool × Unit):=fun (x0,()) =>
  Option.bind (zi8 (x0.2.1,())) fun q0=>bif q0.1 then Option.bind (zi8 (x0.2.2.1,())) fun q1=>bif q1.1 then Option.bind (zi8 (x0.2.2.2.1,())) fun q2=>bif q2.1 then some (true,()) else some (false,()) else some (false,()) else some (false,())
abbrev zrh:Fun:=⟨411,(ch [zV]),(ch [.bool]),0,zk3⟩
theorem zBX:Sq zrh:=ms1 (d:=false) (K:=0) Tryz.func411 (by kernel_rfl) (funext fun (x0,())=>by kernel_rfl)
def zg0:(ByteArray × (ByteArray × Unit))→Option (ByteArray × Unit):=fun (x0,x1,()) =>
  bif ByteArray.toList x0 == ByteArray.toList (ByteArray.mk #[]) then some (x0,()) else bif ByteArray.toList x1 == ByteArray.toList (ByteArray.mk #[]) then some (x0,()) else bif (↑(ByteArray.size x1):Int) == 1 then bif decide (0 < (↑(ByteArray.size x1):Int)) then bif decide ((↑(UInt8.toNat (List.getD (Array.toList (ByteArray.data x1)) (Int.toNat 0) 0)):Int) < 128) then bif decide (0 < (↑(ByteArray.size x1):Int)) then Option.bind (zbN (x0,(↑(UInt8.toNat (List.getD (Array.toList (ByteArray.data x1)) (Int.toNat 0) 0)):Int),())) fun q0=>bif decide (0 < (↑(ByteArray.size x1):Int)) then Option.bind (zds (q0.1,(↑(UInt8.toNat (List.getD (Array.toList (ByteArray.data x1)) (Int.toNat 0) 0)):Int),())) fun q1=>some (q1.1,()) else none else none else none else none else none
abbrev zri:Fun:=⟨436,(ch [.str,.str]),(ch [.str]),0,zg0⟩
theorem zBY:Sq zri:=ms1 (d:=false) (K:=0) Tryz.func436 (by kernel_rfl) (funext fun (x0,x1,())=>by kernel_rfl)
def jh:((List zv) × ((Option ((zv × Unit)→Option (Bool × Unit))) × Unit))→Option (Bool × Unit):=fun (x0,x1,()) =>
  Option.bind (zaF (x0,x1,())) fun q0=>bif decide (q0.1 ≥ 0) then some (true,()) else some (false,())
abbrev zhs:Fun:=⟨349,(ch [(.sl zx),(.fn (ch [zx]) (ch [.bool]))]),(ch [.bool]),0,jh⟩
theorem zoH:Sq zhs:=ms1 (d:=false) (K:=0) Tryz.func349 (by kernel_rfl) (funext fun (x0,x1,())=>by kernel_rfl)
def zhX:(zjp × Unit)→Option (Bool × Unit):=fun (x0,()) =>
  Option.bind (qV (x0.1,())) fun q0=>bif q0.1 then bif decide (x0.2.1 ≤ 4611686018427387904) then bif x0.2.2.1 == -1 then some (true,()) else Option.bind (zgW (x0.2.2.1,())) fun q1=>bif q1.1 then some (true,()) else some (false,()) else some (false,()) else some (false,())
abbrev zw3:Fun:=⟨415,(ch [zb4]),(ch [.bool]),0,zhX⟩
theorem zIp:Sq zw3:=ms1 (d:=false) (K:=0) Tryz.func415 (by kernel_rfl) (funext fun (x0,())=>by kernel_rfl)
def zgv:(Int × (Int × Unit))→Option (Int × (Int × Unit)):=fun (x0,x1,()) =>
  Option.bind (zdJ (x0,x1,())) fun q0=>bif q0.1 != 0 then some (0,7,()) else bif decide (q0.2.1 > 4611686018427387904) then some (0,7,()) else some (q0.2.1,0,())
abbrev zvd:Fun:=⟨382,(ch [tU,tU]),(ch [tU,tI]),0,zgv⟩
theorem zGt:Sq zvd:=ms1 (d:=false) (K:=0) Tryz.func382 (by kernel_rfl) (funext fun (x0,x1,())=>by kernel_rfl)
def zfa:(zt × ((Option qU) × Unit))→Option (Bool × Unit):=fun (x0,x1,()) =>
  bif x0.1 then Option.bind x1 fun q0=>Option.bind (zbQ (q0,x0.2.1,())) fun q1=>bif q1.1 then Option.bind x1 fun q2=>Option.bind (qW (q2,x0.2.2.1,())) fun q3=>bif q3.1 then Option.bind x1 fun q4=>bif decide (x0.2.2.2.2.2.2.2.2.2.1 < ((List.length q4.2.1.2.2.2.2.1):Int)) then some (true,()) else some (false,()) else some (false,()) else some (false,()) else some (true,())
abbrev znZ:Fun:=⟨243,(ch [zp,(.ptr qp)]),(ch [.bool]),0,zfa⟩
theorem zx2:Sq znZ:=ms1 (d:=false) (K:=0) Tryz.func243 (by kernel_rfl) (funext fun (x0,x1,())=>by kernel_rfl)
def j4:((List zt) × ((Option ((zt × Unit)→Option (Bool × Unit))) × Unit))→Option (Bool × Unit):=fun (x0,x1,()) =>
  Option.bind (zaG (x0,x1,())) fun q0=>bif decide (q0.1 ≥ 0) then some (true,()) else some (false,())
abbrev zht:Fun:=⟨355,(ch [(.sl zp),(.fn (ch [zp]) (ch [.bool]))]),(ch [.bool]),0,j4⟩
theorem zoI:Sq zht:=ms1 (d:=false) (K:=0) Tryz.func355 (by kernel_rfl) (funext fun (x0,x1,())=>by kernel_rfl)
def zba:(zH × ((Option qU) × Unit))→Option (Bool × Unit):=fun (x0,x1,()) =>
  Option.bind x1 fun q0=>bif decide (x0.2.1 < ((List.length q0.1.2.1):Int)) then Option.bind x1 fun q1=>inR x0.2.1 ((List.length q1.1.2.1):Int) (bif x0.2.2.1 == ix (0:Int) q1.1.2.1 x0.2.1 then Option.bind x1 fun q2=>Option.bind (qW (q2,x0.2.2.2.1,())) fun q3=>bif q3.1 then Option.bind x1 fun q4=>bif decide (x0.1 ≤ q4.2.1.1) then some (true,()) else some (false,()) else some (false,()) else some (false,())) else some (false,())
abbrev zn0:Fun:=⟨247,(ch [zu,(.ptr qp)]),(ch [.bool]),0,zba⟩
theorem zx3:Sq zn0:=ms1 (d:=false) (K:=0) Tryz.func247 (by kernel_rfl) (funext fun (x0,x1,())=>by kernel_rfl)
def j5:((List zH) × ((Option ((zH × Unit)→Option (Bool × Unit))) × Unit))→Option (Bool × Unit):=fun (x0,x1,()) =>
  Option.bind (zaH (x0,x1,())) fun q0=>bif decide (q0.1 ≥ 0) then some (true,()) else some (false,())
abbrev zhu:Fun:=⟨357,(ch [(.sl zu),(.fn (ch [zu]) (ch [.bool]))]),(ch [.bool]),0,j5⟩
theorem zoJ:Sq zhu:=ms1 (d:=false) (K:=0) Tryz.func357 (by kernel_rfl) (funext fun (x0,x1,())=>by kernel_rfl)
def vo:(Int × ((Option qU) × Unit))→Option (Bool × Unit):=fun (x0,x1,()) =>
  bif x0 == -1 then some (true,()) else Option.bind x1 fun q0=>Option.bind (qW (q0,x0,())) fun q1=>bif q1.1 then some (true,()) else some (false,())
abbrev zn1:Fun:=⟨249,(ch [tI,(.ptr qp)]),(ch [.bool]),0,vo⟩
theorem zx4:Sq zn1:=ms1 (d:=false) (K:=0) Tryz.func249 (by kernel_rfl) (funext fun (x0,x1,())=>by kernel_rfl)
def zhY:(qU × (Int × (Int × Unit)))→Option (Bool × Unit):=fun (x0,x1,x2,()) =>
  Option.bind (zbQ (x0,x1,())) fun q0=>bif q0.1 then Option.bind (zbQ (x0,x2,())) fun q1=>bif q1.1 then inR x1 ((List.length x0.1.1):Int) (inR x2 ((List.length x0.1.1):Int) (Option.bind (zhQ (ix jg x0.1.1 x1,ix jg x0.1.1 x2,())) fun q2=>bif q2.1 then some (true,()) else some (false,()))) else some (false,()) else some (false,())
abbrev zw4:Fun:=⟨259,(ch [qp,tI,tI]),(ch [.bool]),0,zhY⟩
theorem zIq:Sq zw4:=ms1 (d:=false) (K:=0) Tryz.func259 (by kernel_rfl) (funext fun (x0,x1,x2,())=>by kernel_rfl)
def vl:((List qb) × ((Option ((qb × Unit)→Option (Bool × Unit))) × Unit))→Option (Bool × Unit):=fun (x0,x1,()) =>
  Option.bind (yr (x0,x1,())) fun q0=>bif decide (q0.1 ≥ 0) then some (true,()) else some (false,())
abbrev zhZ:Fun:=⟨361,(ch [(.sl zO),(.fn (ch [zO]) (ch [.bool]))]),(ch [.bool]),0,vl⟩
theorem zqt:Sq zhZ:=ms1 (d:=false) (K:=0) Tryz.func361 (by kernel_rfl) (funext fun (x0,x1,())=>by kernel_rfl)
def vC:((List z8) × ((Option ((z8 × Unit)→Option (Bool × Unit))) × Unit))→Option (Bool × Unit):=fun (x0,x1,()) =>
  Option.bind (zca (x0,x1,())) fun q0=>bif decide (q0.1 ≥ 0) then some (true,()) else some (false,())
abbrev zja:Fun:=⟨364,(ch [(.sl zL),(.fn (ch [zL]) (ch [.bool]))]),(ch [.bool]),0,vC⟩
theorem zrj:Sq zja:=ms1 (d:=false) (K:=0) Tryz.func364 (by kernel_rfl) (funext fun (x0,x1,())=>by kernel_rfl)
def zbb:(qc × ((Option qU) × Unit))→Option (Bool × Unit):=fun (x0,x1,()) =>
  bif x0.2.2.1 != 1 then some (true,()) else Option.bind x1 fun q0=>Option.bind (qW (q0,x0.2.2.2.1,())) fun q1=>bif q1.1 then some (true,()) else some (false,())
abbrev zn2:Fun:=⟨256,(ch [zw,(.ptr qp)]),(ch [.bool]),0,zbb⟩
theorem zx5:Sq zn2:=ms1 (d:=false) (K:=0) Tryz.func256 (by kernel_rfl) (funext fun (x0,x1,())=>by kernel_rfl)
def qJ:(zv × ((Option qU) × Unit))→Option (Bool × Unit):=fun (x0,x1,()) =>
  bif x0.1 then Option.bind x1 fun q0=>Option.bind (qW (q0,x0.2.1,())) fun q1=>bif q1.1 then Option.bind x1 fun q2=>Option.bind (qW (q2,x0.2.2.1,())) fun q3=>bif q3.1 then some (true,()) else some (false,()) else some (false,()) else some (true,())
abbrev zn3:Fun:=⟨261,(ch [zx,(.ptr qp)]),(ch [.bool]),0,qJ⟩
theorem zx6:Sq zn3:=ms1 (d:=false) (K:=0) Tryz.func261 (by kernel_rfl) (funext fun (x0,x1,())=>by kernel_rfl)
def yK:((List zv) × ((Option ((zv × Unit)→Option (Bool × Unit))) × Unit))→Option ((Option zb5) × Unit):=fun (x0,x1,()) =>
  bif Option.isNone x1 then some (none,()) else Option.bind (zeW (x0,())) fun q0=>some (some (q0.1,x1,()),())
abbrev zn4:Fun:=⟨262,(ch [(.sl zx),(.fn (ch [zx]) (ch [.bool]))]),(ch [(.ptr vO)]),0,yK⟩
theorem zx7:Sq zn4:=ms1 (d:=false) (K:=0) Tryz.func262 (by kernel_rfl) (funext fun (x0,x1,())=>by kernel_rfl)
def vT:((Option zb5) × (Int × Unit))→Option (Bool × Unit):=fun (x0,x1,()) =>
  Option.bind (ze6 (x0,())) fun q0=>bif q0.1 then bif decide (x1 ≥ 0) then Option.bind x0 fun q1=>bif decide (x1 < ((List.length q1.1):Int)) then Option.bind x0 fun q2=>Option.bind x0 fun q3=>inR x1 ((List.length q3.1):Int) (Option.bind q2.2.1 fun q4=>Option.bind (q4 (ix zS q3.1 x1,())) fun q5=>bif q5.1 then some (true,()) else some (false,())) else some (false,()) else some (false,()) else some (false,())
abbrev zpi:Fun:=⟨264,(ch [(.ptr vO),tI]),(ch [.bool]),0,vT⟩
theorem zz1:Sq zpi:=ms1 (d:=false) (K:=0) Tryz.func264 (by kernel_rfl) (funext fun (x0,x1,())=>by kernel_rfl)
def ziK:((List zt) × ((Option ((zt × Unit)→Option (Bool × Unit))) × Unit))→Option ((Option zeU) × Unit):=fun (x0,x1,()) =>
  bif Option.isNone x1 then some (none,()) else Option.bind (zeV (x0,())) fun q0=>some (some (q0.1,x1,()),())
abbrev zn5:Fun:=⟨421,(ch [(.sl zp),(.fn (ch [zp]) (ch [.bool]))]),(ch [(.ptr yT)]),0,ziK⟩
theorem zx8:Sq zn5:=ms1 (d:=false) (K:=0) Tryz.func421 (by kernel_rfl) (funext fun (x0,x1,())=>by kernel_rfl)
def zf4:((Option zeU) × (Int × Unit))→Option (Bool × Unit):=fun (x0,x1,()) =>
  Option.bind (ze7 (x0,())) fun q0=>bif q0.1 then bif decide (x1 ≥ 0) then Option.bind x0 fun q1=>bif decide (x1 < ((List.length q1.1):Int)) then Option.bind x0 fun q2=>Option.bind x0 fun q3=>inR x1 ((List.length q3.1):Int) (Option.bind q2.2.1 fun q4=>Option.bind (q4 (ix zI q3.1 x1,())) fun q5=>bif q5.1 then some (true,()) else some (false,())) else some (false,()) else some (false,()) else some (false,())
abbrev zpj:Fun:=⟨424,(ch [(.ptr yT),tI]),(ch [.bool]),0,zf4⟩
theorem zz2:Sq zpj:=ms1 (d:=false) (K:=0) Tryz.func424 (by kernel_rfl) (funext fun (x0,x1,())=>by kernel_rfl)
abbrev zgw:Type:=Int × (List Int) × Int × Int
abbrev zGu:zgw→St:=fun (v4,v9,v10,v11)=>St.mk [(4,.dat tU v4),(9,.dat (.sl tU) v9),(10,.dat tI v10),(11,.dat tI v11)] []
def zgx (k0:zgw→Option (Int × (Int × Unit))):zgw→Option (Int × (Int × Unit)):=fun (v4,v9,v10,v11) =>
  bif decide (v11 < v10) then inR v11 ((List.length v9):Int) (Option.bind (zfJ (v4,ix (0:Int) v9 v11,())) fun q0=>bif q0.2.1 != 0 then some (0,q0.2.1,()) else k0 (q0.1,v9,v10,wI (v11 + 1))) else some (v4,0,())
abbrev zve (K:Nat):zgw→Option (Int × (Int × Unit)):=zg zgx K
theorem zGv (K:Nat):∀ n,evV Es1 K Tryz.f131 0 (ch [tU,tI]) [1,1,0,1,0] [] zGu n = zg zgx n:=zr fun n0 (v4,v9,v10,v11)=>by kernel_rfl
def zsw (L0:zgw→Option (Int × (Int × Unit))):((List Int) × Unit)→Option (Int × (Int × Unit)):=fun (x0,()) =>
  L0 (0,x0,((List.length x0):Int),0)
def zg1:((List Int) × Unit)→Option (Int × Int × Unit):=zsw (zve K0)
abbrev zz3:Fun:=⟨131,(ch [(.sl tU)]),(ch [tU,tI]),0,zg1⟩
theorem zKq:Sq zz3:=ml1 (d:=false) (S:=fun K=>zsw (zve K)) Tryz.func131 (by kernel_rfl) (fun K=>tr1 (T:=zsw) (zGv K K) fun (x0,())=>by kernel_rfl) rfl
def zfs:((List Int) × (Int × (Int × ((Option ((Int × (Int × Unit))→Option (Int × (Int × Unit)))) × Unit))))→Option ((List Int) × (Int × Unit)):=fun (x0,x1,x2,x3,()) =>
  Option.bind (qV (x1,())) fun q0=>bif q0.1 then inR x1 (↑4:Int) (Option.bind x3 fun q1=>Option.bind (q1 (ix (0:Int) x0 x1,x2,())) fun q2=>bif q2.2.1 != 0 then some ([0,0,0,0],q2.2.1,()) else inR x1 (↑4:Int) (some (List.set x0 (Int.toNat x1) q2.1,0,()))) else some ([0,0,0,0],1,())
abbrev zta:Fun:=⟨285,(ch [(.arr 4 tU),tI,tU,(.fn (ch [tU,tU]) (ch [tU,tI]))]),(ch [(.arr 4 tU),tI]),0,zfs⟩
theorem zDT:Sq zta:=ms1 (d:=false) (K:=0) Tryz.func285 (by kernel_rfl) (funext fun (x0,x1,x2,x3,())=>by kernel_rfl)
abbrev zbc:Type:=(List zz) × Int
abbrev zx9:zbc→St:=fun (v0,v3)=>St.mk [(0,.dat (.sl zq) v0),(3,.dat tI v3)] []
def zfb (k0:zbc→Option (Bool × Unit)):zbc→Option (Bool × Unit):=fun (v0,v3) =>
  bif decide (v3 < ((List.length v0):Int)) then inR v3 ((List.length v0):Int) (Option.bind (zie (ix jg v0 v3,())) fun q0=>bif q0.1 then inR (wI (v3 - 1)) ((List.length v0):Int) (inR v3 ((List.length v0):Int) (Option.bind (zlu (List.getD v0 (Int.toNat (wI (v3 - 1))) (ze zq),ix jg v0 v3,())) fun q1=>bif decide (q1.1 ≥ 0) then some (false,()) else k0 (v0,wI (v3 + 1)))) else some (false,())) else some (true,())
abbrev ziL (K:Nat):zbc→Option (Bool × Unit):=zg zfb K
theorem zya (K:Nat):∀ n,evV Es1 K Tryz.f163 0 (ch [.bool]) [1,1,0,1,0] [] zx9 n = zg zfb n:=zr fun n0 (v0,v3)=>by kernel_rfl
def zg2 (L0:zbc→Option (Bool × Unit)):((List zz) × Unit)→Option (Bool × Unit):=fun (x0,()) =>
  bif decide (((List.length x0):Int) < 1) then some (false,()) else bif decide (((List.length x0):Int) > 8) then some (false,()) else bif decide (0 < ((List.length x0):Int)) then bif !eqI zq (ix jg x0 0) (ze zq) then some (false,()) else L0 (x0,1) else none
def zg3:((List zz) × Unit)→Option (Bool × Unit):=zg2 (ziL K0)
abbrev zrk:Fun:=⟨163,(ch [(.sl zq)]),(ch [.bool]),0,zg3⟩
theorem zBZ:Sq zrk:=ml1 (d:=false) (S:=fun K=>zg2 (ziL K)) Tryz.func163 (by kernel_rfl) (fun K=>tr1 (T:=zg2) (zya K K) fun (x0,())=>by kernel_rfl) rfl
abbrev y5:Type:=(List qy) × Int × Int
abbrev zlY:y5→St:=fun (v0,v3,v4)=>St.mk [(0,.dat (.sl qD) v0),(3,.dat tI v3),(4,.dat tI v4)] []
abbrev jR:Type:=(List qy) × Int
abbrev zlZ:jR→St:=fun (v0,v3)=>St.mk [(0,.dat (.sl qD) v0),(3,.dat tI v3)] []
def zcm (k0:jR→Option (Bool × Unit)) (k1:y5→Option (Bool × Unit)):y5→Option (Bool × Unit):=fun (v0,v3,v4) =>
  bif decide (v4 < v3) then inR v4 ((List.length v0):Int) (inR v3 ((List.length v0):Int) (bif ByteArray.toList (ix qo v0 v4).1 == ByteArray.toList (ix qo v0 v3).1 then some (false,()) else k1 (v0,v3,wI (v4 + 1)))) else k0 (v0,wI (v3 + 1))
abbrev zcn (K:Nat) (k0:jR→Option (Bool × Unit)):y5→Option (Bool × Unit):=zg (fun k1=>zcm k0 k1) K
theorem zvf (K:Nat) (n0:Nat):∀ n,evV Es1 K Tryz.f164 0 (ch [.bool]) [1,1,0,1,0,0,1,0,0,1,1,0] [n0] zlY n = zg (fun k1=>zcm (evV Es1 K Tryz.f164 0 (ch [.bool]) [1,1,0,1,0] [] zlZ n0) k1) n:=zr fun n1 (v0,v3,v4)=>by kernel_rfl
def y6 (L1:y5→Option (Bool × Unit)) (k0:jR→Option (Bool × Unit)):jR→Option (Bool × Unit):=fun (v0,v3) =>
  bif decide (v3 < ((List.length v0):Int)) then inR v3 ((List.length v0):Int) (Option.bind (zD ((ix qo v0 v3).1,())) fun q0=>bif q0.1 then inR v3 ((List.length v0):Int) (Option.bind (zD ((ix qo v0 v3).2.1,())) fun q1=>bif q1.1 then inR v3 ((List.length v0):Int) (bif decide ((ix qo v0 v3).2.2.1 < 0) then some (false,()) else inR v3 ((List.length v0):Int) (bif decide ((ix qo v0 v3).2.2.1 > 3) then some (false,()) else L1 (v0,v3,0))) else some (false,())) else some (false,())) else some (true,())
abbrev zgy (K:Nat):jR→Option (Bool × Unit):=zg (fun k0=>y6 (zcn K k0) k0) K
theorem zvg (K:Nat):∀ n,evV Es1 K Tryz.f164 0 (ch [.bool]) [1,1,0,1,0] [] zlZ n = zg (fun k0=>y6 (zcn K k0) k0) n:=qC (B:=fun L1 k0=>y6 L1 k0) (V1:=fun n0=>evV Es1 K Tryz.f164 0 (ch [.bool]) [1,1,0,1,0,0,1,0,0,1,1,0] [n0] zlY K) (W1:=fun k0=>(zcn K k0)) (fun n0=>zvf K n0 K) fun n0 (v0,v3)=>by kernel_rfl
def zfc (L0:jR→Option (Bool × Unit)):((List qy) × Unit)→Option (Bool × Unit):=fun (x0,()) =>
  bif decide (((List.length x0):Int) < 1) then some (false,()) else bif decide (((List.length x0):Int) > 8) then some (false,()) else L0 (x0,0)
def zfd:((List qy) × Unit)→Option (Bool × Unit):=zfc (zgy K0)
abbrev zn6:Fun:=⟨164,(ch [(.sl qD)]),(ch [.bool]),0,zfd⟩
theorem zyb:Sq zn6:=ml1 (d:=false) (S:=fun K=>zfc (zgy K)) Tryz.func164 (by kernel_rfl) (fun K=>tr1 (T:=zfc) (zvg K K) fun (x0,())=>by kernel_rfl) rfl
abbrev zbd:Type:=(List z8) × (List zz) × Int × Int
abbrev zn7:zbd→St:=fun (v0,v1,v8,v9)=>St.mk [(0,.dat (.sl yo) v0),(1,.dat (.sl zq) v1),(8,.dat tI v8),(9,.dat tI v9)] []
abbrev vp:Type:=(List z8) × (List zz) × Int
abbrev ziM:vp→St:=fun (v0,v1,v8)=>St.mk [(0,.dat (.sl yo) v0),(1,.dat (.sl zq) v1),(8,.dat tI v8)] []
abbrev zbe:Type:=(List z8) × (List zz) × Int × Int
abbrev zyc:zbe→St:=fun (v0,v1,v2,v7)=>St.mk [(0,.dat (.sl yo) v0),(1,.dat (.sl zq) v1),(2,.dat tI v2),(7,.dat tI v7)] []
def yL (k1:vp→Option (Bool × Unit)) (k2:zbd→Option (Bool × Unit)):zbd→Option (Bool × Unit):=fun (v0,v1,v8,v9) =>
  bif decide (v9 < 64) then inR v8 ((List.length v1):Int) (Option.bind (zfK (ix jg v1 v8,v9,())) fun q4=>bif q4.1 then Option.bind (zqn (v0,v9,())) fun q5=>bif q5.1 then k2 (v0,v1,v8,wI (v9 + 1)) else some (false,()) else k2 (v0,v1,v8,wI (v9 + 1))) else k1 (v0,v1,wI (v8 + 1))
abbrev ziN (K:Nat) (k1:vp→Option (Bool × Unit)):zbd→Option (Bool × Unit):=zg (fun k2=>yL k1 k2) K
theorem zyd (K:Nat) (n1:Nat):∀ n,evV Es1 K Tryz.f165 0 (ch [.bool]) [1,1,1,0,1,0,0,1,0,0,1,0] [n1] zn7 n = zg (fun k2=>yL (evV Es1 K Tryz.f165 0 (ch [.bool]) [1,1,1,0,1,0] [] ziM n1) k2) n:=zr fun n2 (v0,v1,v8,v9)=>by kernel_rfl
def zbf (L2:zbd→Option (Bool × Unit)) (k1:vp→Option (Bool × Unit)):vp→Option (Bool × Unit):=fun (v0,v1,v8) =>
  bif decide (v8 < ((List.length v1):Int)) then L2 (v0,v1,v8,0) else some (true,())
abbrev zfe (K:Nat):vp→Option (Bool × Unit):=zg (fun k1=>zbf (ziN K k1) k1) K
theorem zye (K:Nat):∀ n,evV Es1 K Tryz.f165 0 (ch [.bool]) [1,1,1,0,1,0] [] ziM n = zg (fun k1=>zbf (ziN K k1) k1) n:=qC (B:=fun L2 k1=>zbf L2 k1) (V1:=fun n1=>evV Es1 K Tryz.f165 0 (ch [.bool]) [1,1,1,0,1,0,0,1,0,0,1,0] [n1] zn7 K) (W1:=fun k1=>(ziN K k1)) (fun n1=>zyd K n1 K) fun n1 (v0,v1,v8)=>by kernel_rfl
def zbg (L1:vp→Option (Bool × Unit)) (k0:zbe→Option (Bool × Unit)):zbe→Option (Bool × Unit):=fun (v0,v1,v2,v7) =>
  bif decide (v7 < ((List.length v0):Int)) then inR v7 ((List.length v0):Int) (bif decide ((ix qG v0 v7).1 < 0) then some (false,()) else inR v7 ((List.length v0):Int) (bif decide ((ix qG v0 v7).1 > 63) then some (false,()) else inR v7 ((List.length v0):Int) (bif decide ((ix qG v0 v7).2.1 < 0) then some (false,()) else inR v7 ((List.length v0):Int) (bif decide ((ix qG v0 v7).2.1 ≥ v2) then some (false,()) else bif decide (v7 > 0) then inR (wI (v7 - 1)) ((List.length v0):Int) (inR v7 ((List.length v0):Int) (bif decide ((List.getD v0 (Int.toNat (wI (v7 - 1))) (ze yo)).1 ≥ (ix qG v0 v7).1) then some (false,()) else inR v7 ((List.length v0):Int) (Option.bind (zgu ((ix qG v0 v7).1,())) fun q0=>Option.bind (zig (v1,q0.1,())) fun q1=>bif decide (q1.1 < 0) then some (false,()) else k0 (v0,v1,v2,wI (v7 + 1))))) else inR v7 ((List.length v0):Int) (Option.bind (zgu ((ix qG v0 v7).1,())) fun q2=>Option.bind (zig (v1,q2.1,())) fun q3=>bif decide (q3.1 < 0) then some (false,()) else k0 (v0,v1,v2,wI (v7 + 1))))))) else L1 (v0,v1,0)
abbrev ziO (K:Nat):zbe→Option (Bool × Unit):=zg (fun k0=>zbg (zfe K) k0) K
theorem zyf (K:Nat):∀ n,evV Es1 K Tryz.f165 0 (ch [.bool]) [1,1,0,1,0] [] zyc n = zg (fun k0=>zbg (zfe K) k0) n:=qC (B:=fun L1 k0=>zbg L1 k0) (V1:=fun n0=>evV Es1 K Tryz.f165 0 (ch [.bool]) [1,1,1,0,1,0] [] ziM K) (W1:=fun k0=>(zfe K)) (fun n0=>zye K K) fun n0 (v0,v1,v2,v7)=>by kernel_rfl
def zg4 (L0:zbe→Option (Bool × Unit)):((List z8) × ((List zz) × (Int × Unit)))→Option (Bool × Unit):=fun (x0,x1,x2,()) =>
  bif decide (((List.length x0):Int) > 8) then some (false,()) else L0 (x0,x1,x2,0)
def zg5:((List z8) × (List zz) × Int × Unit)→Option (Bool × Unit):=zg4 (ziO K0)
abbrev zrl:Fun:=⟨165,(ch [(.sl yo),(.sl zq),tI]),(ch [.bool]),0,zg5⟩
theorem zB0:Sq zrl:=ml1 (d:=false) (S:=fun K=>zg4 (ziO K)) Tryz.func165 (by kernel_rfl) (fun K=>tr1 (T:=zg4) (zyf K K) fun (x0,x1,x2,())=>by kernel_rfl) rfl
abbrev zbh:Type:=(List zaw) × Int × Int
abbrev zyg:zbh→St:=fun (v0,v3,v4)=>St.mk [(0,.dat (.sl za6) v0),(3,.dat tU v3),(4,.dat tI v4)] []
def yM (k0:zbh→Option (Bool × Unit)):zbh→Option (Bool × Unit):=fun (v0,v3,v4) =>
  bif decide (v4 < ((List.length v0):Int)) then inR v4 ((List.length v0):Int) (Option.bind (yf ((ix qg v0 v4).1,())) fun q0=>bif q0.1 then Option.bind (yf ((ix qg v0 v4).2.1,())) fun q1=>bif q1.1 then Option.bind (yf ((ix qg v0 v4).2.2.1,())) fun q2=>bif q2.1 then Option.bind (yf ((ix qg v0 v4).2.2.2.1,())) fun q3=>bif q3.1 then Option.bind (yf ((ix qg v0 v4).2.2.2.2.1,())) fun q4=>bif q4.1 then bif decide ((ix qg v0 v4).2.2.2.2.2.1 > v3) then some (false,()) else k0 (v0,wU (v3 - (ix qg v0 v4).2.2.2.2.2.1),wI (v4 + 1)) else some (false,()) else some (false,()) else some (false,()) else some (false,()) else some (false,())) else bif decide (((List.length v0):Int) > 0) then bif decide (0 < ((List.length v0):Int)) then bif decide ((ix qg v0 0).1 > 0) then some (true,()) else some (false,()) else none else some (false,())
abbrev zn8 (K:Nat):zbh→Option (Bool × Unit):=zg yM K
theorem zyh (K:Nat):∀ n,evV Es1 K Tryz.f166 0 (ch [.bool]) [1,1,0,1,0] [] zyg n = zg yM n:=zr fun n0 (v0,v3,v4)=>by kernel_rfl
def zk4 (L0:zbh→Option (Bool × Unit)):((List zaw) × Unit)→Option (Bool × Unit):=fun (x0,()) =>
  L0 (x0,4611686018427387904,0)
def zk5:((List zaw) × Unit)→Option (Bool × Unit):=zk4 (zn8 K0)
abbrev zrm:Fun:=⟨166,(ch [(.sl za6)]),(ch [.bool]),0,zk5⟩
theorem zB1:Sq zrm:=ml1 (d:=false) (S:=fun K=>zk4 (zn8 K)) Tryz.func166 (by kernel_rfl) (fun K=>tr1 (T:=zk4) (zyh K K) fun (x0,())=>by kernel_rfl) rfl
def zgz:(Int × (Int × (Int × Unit)))→Option (Int × (Int × Unit)):=fun (x0,x1,x2,()) =>
  bif decide (x0 < 1) then some (0,1,()) else bif decide (x0 > 2) then some (0,1,()) else bif x1 == 0 then some (0,1,()) else bif x2 == 0 then some (0,1,()) else Option.bind (zij (x1,x2,())) fun q0=>bif q0.2.1 == 0 then bif x0 == 2 then some (x1,q0.2.1,()) else some (q0.1,q0.2.1,()) else some (q0.1,q0.2.1,())
abbrev zvh:Fun:=⟨376,(ch [tI,tU,tU]),(ch [tU,tI]),0,zgz⟩
theorem zGw:Sq zvh:=ms1 (d:=false) (K:=0) Tryz.func376 (by kernel_rfl) (funext fun (x0,x1,x2,())=>by kernel_rfl)
abbrev zco:Type:=(List qT) × Int
abbrev zz4:zco→St:=fun (v0,v3)=>St.mk [(0,.dat (.sl qa) v0),(3,.dat tI v3)] []
def zcp (k0:zco→Option (Bool × Unit)):zco→Option (Bool × Unit):=fun (v0,v3) =>
  bif decide (v3 < ((List.length v0):Int)) then inR v3 ((List.length v0):Int) (bif (ix zgT v0 v3).1 then inR v3 ((List.length v0):Int) (Option.bind (zD ((ix zgT v0 v3).2.1,())) fun q0=>bif q0.1 then inR v3 ((List.length v0):Int) (bif (ix zgT v0 v3).1 then k0 (v0,wI (v3 + 1)) else inR v3 ((List.length v0):Int) (bif !ByteArray.toList (ix zgT v0 v3).2.1 == ByteArray.toList (ByteArray.mk #[]) then some (false,()) else k0 (v0,wI (v3 + 1)))) else some (false,())) else inR v3 ((List.length v0):Int) (Option.bind (zD ((ix zgT v0 v3).2.1,())) fun q1=>bif q1.1 then some (false,()) else inR v3 ((List.length v0):Int) (bif (ix zgT v0 v3).1 then k0 (v0,wI (v3 + 1)) else inR v3 ((List.length v0):Int) (bif !ByteArray.toList (ix zgT v0 v3).2.1 == ByteArray.toList (ByteArray.mk #[]) then some (false,()) else k0 (v0,wI (v3 + 1)))))) else some (true,())
abbrev zpk (K:Nat):zco→Option (Bool × Unit):=zg zcp K
theorem zz5 (K:Nat):∀ n,evV Es1 K Tryz.f171 0 (ch [.bool]) [1,0,1,0] [] zz4 n = zg zcp n:=zr fun n0 (v0,v3)=>by kernel_rfl
def zmb (L0:zco→Option (Bool × Unit)):((List qT) × Unit)→Option (Bool × Unit):=fun (x0,()) =>
  L0 (x0,0)
def zmc:((List qT) × Unit)→Option (Bool × Unit):=zmb (zpk K0)
abbrev ztb:Fun:=⟨171,(ch [(.sl qa)]),(ch [.bool]),0,zmc⟩
theorem zDU:Sq ztb:=ml1 (d:=false) (S:=fun K=>zmb (zpk K)) Tryz.func171 (by kernel_rfl) (fun K=>tr1 (T:=zmb) (zz5 K K) fun (x0,())=>by kernel_rfl) rfl
abbrev zcq:Type:=(List qb) × Int × Int × qb
abbrev zpl:zcq→St:=fun (v0,v3,v5,o0)=>St.mk [(0,.dat (.sl zO) v0),(3,.dat tI v3),(4,.bp 0 []),(5,.dat tI v5)] [.bx (.dat zO o0) false]
abbrev vU:Type:=(List qb) × Int
abbrev zpm:vU→St:=fun (v0,v3)=>St.mk [(0,.dat (.sl zO) v0),(3,.dat tI v3)] []
def zcr (k0:vU→Option (Bool × Unit)) (k1:zcq→Option (Bool × Unit)):zcq→Option (Bool × Unit):=fun (v0,v3,v5,o0) =>
  bif decide (v5 < v3) then bif o0.1 then inR v5 ((List.length v0):Int) (bif (ix qj v0 v5).1 then inR v5 ((List.length v0):Int) (bif eqI zL (ix qj v0 v5).2.1 o0.2.1 then inR v5 ((List.length v0):Int) (bif (ix qj v0 v5).2.2.2.1 == o0.2.2.2.1 then some (false,()) else k1 (v0,v3,wI (v5 + 1),o0)) else k1 (v0,v3,wI (v5 + 1),o0)) else k1 (v0,v3,wI (v5 + 1),o0)) else k1 (v0,v3,wI (v5 + 1),o0) else k0 (v0,wI (v3 + 1))
abbrev zcs (K:Nat) (k0:vU→Option (Bool × Unit)):zcq→Option (Bool × Unit):=zg (fun k1=>zcr k0 k1) K
theorem zz6 (K:Nat) (n0:Nat):∀ n,evV Es1 K Tryz.f172 0 (ch [.bool]) [1,0,1,0,0,1,0,0,1,1,1,0] [n0] zpl n = zg (fun k1=>zcr (evV Es1 K Tryz.f172 0 (ch [.bool]) [1,0,1,0] [] zpm n0) k1) n:=zr fun n1 (v0,v3,v5,o0)=>by kernel_rfl
def zac (L1:zcq→Option (Bool × Unit)) (k0:vU→Option (Bool × Unit)):vU→Option (Bool × Unit):=fun (v0,v3) =>
  bif decide (v3 < ((List.length v0):Int)) then inR v3 ((List.length v0):Int) (bif (ix qj v0 v3).1 then bif (ix qj v0 v3).1 then Option.bind (qI ((ix qj v0 v3).2.1,())) fun q0=>bif q0.1 then Option.bind (qI ((ix qj v0 v3).2.2.1,())) fun q1=>bif q1.1 then bif decide ((ix qj v0 v3).2.2.2.1 < 0) then some (false,()) else bif decide ((ix qj v0 v3).2.2.2.1 > 5) then some (false,()) else L1 (v0,v3,0,ix qj v0 v3) else some (false,()) else some (false,()) else L1 (v0,v3,0,ix qj v0 v3) else bif !eqI zO (ix qj v0 v3) (ze zO) then some (false,()) else bif (ix qj v0 v3).1 then Option.bind (qI ((ix qj v0 v3).2.1,())) fun q2=>bif q2.1 then Option.bind (qI ((ix qj v0 v3).2.2.1,())) fun q3=>bif q3.1 then bif decide ((ix qj v0 v3).2.2.2.1 < 0) then some (false,()) else bif decide ((ix qj v0 v3).2.2.2.1 > 5) then some (false,()) else L1 (v0,v3,0,ix qj v0 v3) else some (false,()) else some (false,()) else L1 (v0,v3,0,ix qj v0 v3)) else some (true,())
abbrev zpn (K:Nat):vU→Option (Bool × Unit):=zg (fun k0=>zac (zcs K k0) k0) K
theorem zz7 (K:Nat):∀ n,evV Es1 K Tryz.f172 0 (ch [.bool]) [1,0,1,0] [] zpm n = zg (fun k0=>zac (zcs K k0) k0) n:=qC (B:=fun L1 k0=>zac L1 k0) (V1:=fun n0=>evV Es1 K Tryz.f172 0 (ch [.bool]) [1,0,1,0,0,1,0,0,1,1,1,0] [n0] zpl K) (W1:=fun k0=>(zcs K k0)) (fun n0=>zz6 K n0 K) fun n0 (v0,v3)=>by kernel_rfl
def zmd (L0:vU→Option (Bool × Unit)):((List qb) × Unit)→Option (Bool × Unit):=fun (x0,()) =>
  L0 (x0,0)
def zme:((List qb) × Unit)→Option (Bool × Unit):=zmd (zpn K0)
abbrev ztc:Fun:=⟨172,(ch [(.sl zO)]),(ch [.bool]),0,zme⟩
theorem zDV:Sq ztc:=ml1 (d:=false) (S:=fun K=>zmd (zpn K)) Tryz.func172 (by kernel_rfl) (fun K=>tr1 (T:=zmd) (zz7 K K) fun (x0,())=>by kernel_rfl) rfl
abbrev zct:Type:=(List qc) × Int
abbrev zz8:zct→St:=fun (v0,v3)=>St.mk [(0,.dat (.sl zw) v0),(3,.dat tI v3)] []
def zcu (k0:zct→Option (Bool × Unit)):zct→Option (Bool × Unit):=fun (v0,v3) =>
  bif decide (v3 < ((List.length v0):Int)) then inR v3 ((List.length v0):Int) (bif (ix zB v0 v3).1 then bif (ix zB v0 v3).2.2.1 == 1 then Option.bind (zhS ((ix zB v0 v3).2.2.2.1,())) fun q0=>bif q0.1 then bif eqI zL (ix zB v0 v3).2.2.2.2.1 (ze zL) then bif (ix zB v0 v3).2.2.1 == 2 then bif (ix zB v0 v3).2.2.2.1 == 0 then Option.bind (qI ((ix zB v0 v3).2.2.2.2.1,())) fun q1=>bif q1.1 then Option.bind (zD ((ix zB v0 v3).2.1,())) fun q2=>bif q2.1 then k0 (v0,wI (v3 + 1)) else some (false,()) else Option.bind (zD ((ix zB v0 v3).2.1,())) fun q3=>bif q3.1 then k0 (v0,wI (v3 + 1)) else some (false,()) else Option.bind (zD ((ix zB v0 v3).2.1,())) fun q4=>bif q4.1 then k0 (v0,wI (v3 + 1)) else some (false,()) else Option.bind (zD ((ix zB v0 v3).2.1,())) fun q5=>bif q5.1 then k0 (v0,wI (v3 + 1)) else some (false,()) else bif (ix zB v0 v3).2.2.1 == 2 then bif (ix zB v0 v3).2.2.2.1 == 0 then Option.bind (qI ((ix zB v0 v3).2.2.2.2.1,())) fun q6=>bif q6.1 then Option.bind (zD ((ix zB v0 v3).2.1,())) fun q7=>bif q7.1 then k0 (v0,wI (v3 + 1)) else some (false,()) else Option.bind (zD ((ix zB v0 v3).2.1,())) fun q8=>bif q8.1 then some (false,()) else some (false,()) else Option.bind (zD ((ix zB v0 v3).2.1,())) fun q9=>bif q9.1 then some (false,()) else some (false,()) else Option.bind (zD ((ix zB v0 v3).2.1,())) fun q10=>bif q10.1 then some (false,()) else some (false,()) else bif (ix zB v0 v3).2.2.1 == 2 then bif (ix zB v0 v3).2.2.2.1 == 0 then Option.bind (qI ((ix zB v0 v3).2.2.2.2.1,())) fun q11=>bif q11.1 then Option.bind (zD ((ix zB v0 v3).2.1,())) fun q12=>bif q12.1 then k0 (v0,wI (v3 + 1)) else some (false,()) else Option.bind (zD ((ix zB v0 v3).2.1,())) fun q13=>bif q13.1 then some (false,()) else some (false,()) else Option.bind (zD ((ix zB v0 v3).2.1,())) fun q14=>bif q14.1 then some (false,()) else some (false,()) else Option.bind (zD ((ix zB v0 v3).2.1,())) fun q15=>bif q15.1 then some (false,()) else some (false,()) else bif (ix zB v0 v3).2.2.1 == 3 then Option.bind (zhS ((ix zB v0 v3).2.2.2.1,())) fun q16=>bif q16.1 then bif eqI zL (ix zB v0 v3).2.2.2.2.1 (ze zL) then bif (ix zB v0 v3).2.2.1 == 2 then bif (ix zB v0 v3).2.2.2.1 == 0 then Option.bind (qI ((ix zB v0 v3).2.2.2.2.1,())) fun q17=>bif q17.1 then Option.bind (zD ((ix zB v0 v3).2.1,())) fun q18=>bif q18.1 then k0 (v0,wI (v3 + 1)) else some (false,()) else Option.bind (zD ((ix zB v0 v3).2.1,())) fun q19=>bif q19.1 then k0 (v0,wI (v3 + 1)) else some (false,()) else Option.bind (zD ((ix zB v0 v3).2.1,())) fun q20=>bif q20.1 then k0 (v0,wI (v3 + 1)) else some (false,()) else Option.bind (zD ((ix zB v0 v3).2.1,())) fun q21=>bif q21.1 then k0 (v0,wI (v3 + 1)) else some (false,()) else bif (ix zB v0 v3).2.2.1 == 2 then bif (ix zB v0 v3).2.2.2.1 == 0 then Option.bind (qI ((ix zB v0 v3).2.2.2.2.1,())) fun q22=>bif q22.1 then Option.bind (zD ((ix zB v0 v3).2.1,())) fun q23=>bif q23.1 then k0 (v0,wI (v3 + 1)) else some (false,()) else Option.bind (zD ((ix zB v0 v3).2.1,())) fun q24=>bif q24.1 then some (false,()) else some (false,()) else Option.bind (zD ((ix zB v0 v3).2.1,())) fun q25=>bif q25.1 then some (false,()) else some (false,()) else Option.bind (zD ((ix zB v0 v3).2.1,())) fun q26=>bif q26.1 then some (false,()) else some (false,()) else bif (ix zB v0 v3).2.2.1 == 2 then bif (ix zB v0 v3).2.2.2.1 == 0 then Option.bind (qI ((ix zB v0 v3).2.2.2.2.1,())) fun q27=>bif q27.1 then Option.bind (zD ((ix zB v0 v3).2.1,())) fun q28=>bif q28.1 then k0 (v0,wI (v3 + 1)) else some (false,()) else Option.bind (zD ((ix zB v0 v3).2.1,())) fun q29=>bif q29.1 then some (false,()) else some (false,()) else Option.bind (zD ((ix zB v0 v3).2.1,())) fun q30=>bif q30.1 then some (false,()) else some (false,()) else Option.bind (zD ((ix zB v0 v3).2.1,())) fun q31=>bif q31.1 then some (false,()) else some (false,()) else bif (ix zB v0 v3).2.2.1 == 2 then bif (ix zB v0 v3).2.2.2.1 == 0 then Option.bind (qI ((ix zB v0 v3).2.2.2.2.1,())) fun q32=>bif q32.1 then Option.bind (zD ((ix zB v0 v3).2.1,())) fun q33=>bif q33.1 then k0 (v0,wI (v3 + 1)) else some (false,()) else Option.bind (zD ((ix zB v0 v3).2.1,())) fun q34=>bif q34.1 then some (false,()) else some (false,()) else Option.bind (zD ((ix zB v0 v3).2.1,())) fun q35=>bif q35.1 then some (false,()) else some (false,()) else Option.bind (zD ((ix zB v0 v3).2.1,())) fun q36=>bif q36.1 then some (false,()) else some (false,()) else bif !eqI zw (ix zB v0 v3) (ze zw) then some (false,()) else k0 (v0,wI (v3 + 1))) else some (true,())
abbrev zpo (K:Nat):zct→Option (Bool × Unit):=zg zcu K
theorem zz9 (K:Nat):∀ n,evV Es1 K Tryz.f173 0 (ch [.bool]) [1,0,1,0] [] zz8 n = zg zcu n:=zr fun n0 (v0,v3)=>by kernel_rfl
def zmf (L0:zct→Option (Bool × Unit)):((List qc) × Unit)→Option (Bool × Unit):=fun (x0,()) =>
  L0 (x0,0)
def zmg:((List qc) × Unit)→Option (Bool × Unit):=zmf (zpo K0)
abbrev ztd:Fun:=⟨173,(ch [(.sl zw)]),(ch [.bool]),0,zmg⟩
theorem zDW:Sq ztd:=ml1 (d:=false) (S:=fun K=>zmf (zpo K)) Tryz.func173 (by kernel_rfl) (fun K=>tr1 (T:=zmf) (zz9 K K) fun (x0,())=>by kernel_rfl) rfl
abbrev zei:Type:=ByteArray × Int
abbrev zB2:zei→St:=fun (v0,v3)=>St.mk [(0,.dat .str v0),(3,.dat tI v3)] []
def zg6 (k0:zei→Option (Bool × Unit)):zei→Option (Bool × Unit):=fun (v0,v3) =>
  bif decide (v3 < (↑(ByteArray.size v0):Int)) then inR v3 (↑(ByteArray.size v0):Int) (Option.bind (zlw ((↑(UInt8.toNat (List.getD (Array.toList (ByteArray.data v0)) (Int.toNat v3) 0)):Int),())) fun q0=>bif q0.1 then k0 (v0,wI (v3 + 1)) else some (false,())) else some (true,())
abbrev zk6 (K:Nat):zei→Option (Bool × Unit):=zg zg6 K
theorem zB3 (K:Nat):∀ n,evV Es1 K Tryz.f297 0 (ch [.bool]) [1,1,0,1,0] [] zB2 n = zg zg6 n:=zr fun n0 (v0,v3)=>by kernel_rfl
def zjP (L0:zei→Option (Bool × Unit)):(ByteArray × Unit)→Option (Bool × Unit):=fun (x0,()) =>
  bif (↑(ByteArray.size x0):Int) == 0 then some (false,()) else bif decide ((↑(ByteArray.size x0):Int) > 40) then some (false,()) else bif decide (0 < (↑(ByteArray.size x0):Int)) then bif (↑(UInt8.toNat (List.getD (Array.toList (ByteArray.data x0)) (Int.toNat 0) 0)):Int) == 32 then some (false,()) else inR (wI ((↑(ByteArray.size x0):Int) - 1)) (↑(ByteArray.size x0):Int) (bif (↑(UInt8.toNat (List.getD (Array.toList (ByteArray.data x0)) (Int.toNat (wI ((↑(ByteArray.size x0):Int) - 1))) 0)):Int) == 32 then some (false,()) else L0 (x0,0)) else none
def zjQ:(ByteArray × Unit)→Option (Bool × Unit):=zjP (zk6 K0)
abbrev zvi:Fun:=⟨297,(ch [.str]),(ch [.bool]),0,zjQ⟩
theorem zGx:Sq zvi:=ml1 (d:=false) (S:=fun K=>zjP (zk6 K)) Tryz.func297 (by kernel_rfl) (fun K=>tr1 (T:=zjP) (zB3 K K) fun (x0,())=>by kernel_rfl) rfl
def zjR:(zv × Unit)→Option (Bool × Unit):=fun (x0,()) =>
  bif decide (x0.2.2.2.1.2.1 > 0) then Option.bind (jp (x0.2.1,())) fun q0=>bif q0.1 then Option.bind (jp (x0.2.2.1,())) fun q1=>bif q1.1 then bif x0.2.1 != x0.2.2.1 then Option.bind (jq (x0.2.2.2.1,())) fun q2=>bif q2.1 then Option.bind (jq (x0.2.2.2.2.1,())) fun q3=>bif q3.1 then some (true,()) else some (false,()) else some (false,()) else some (false,()) else some (false,()) else some (false,()) else bif decide (x0.2.2.2.1.2.2.1 ≥ 0) then Option.bind (jp (x0.2.1,())) fun q4=>bif q4.1 then Option.bind (jp (x0.2.2.1,())) fun q5=>bif q5.1 then bif x0.2.1 != x0.2.2.1 then Option.bind (jq (x0.2.2.2.1,())) fun q6=>bif q6.1 then Option.bind (jq (x0.2.2.2.2.1,())) fun q7=>bif q7.1 then some (true,()) else some (false,()) else some (false,()) else some (false,()) else some (false,()) else some (false,()) else bif decide (x0.2.2.2.2.1.2.1 > 0) then Option.bind (jp (x0.2.1,())) fun q8=>bif q8.1 then Option.bind (jp (x0.2.2.1,())) fun q9=>bif q9.1 then bif x0.2.1 != x0.2.2.1 then Option.bind (jq (x0.2.2.2.1,())) fun q10=>bif q10.1 then Option.bind (jq (x0.2.2.2.2.1,())) fun q11=>bif q11.1 then some (true,()) else some (false,()) else some (false,()) else some (false,()) else some (false,()) else some (false,()) else bif decide (x0.2.2.2.2.1.2.2.1 ≥ 0) then Option.bind (jp (x0.2.1,())) fun q12=>bif q12.1 then Option.bind (jp (x0.2.2.1,())) fun q13=>bif q13.1 then bif x0.2.1 != x0.2.2.1 then Option.bind (jq (x0.2.2.2.1,())) fun q14=>bif q14.1 then Option.bind (jq (x0.2.2.2.2.1,())) fun q15=>bif q15.1 then some (true,()) else some (false,()) else some (false,()) else some (false,()) else some (false,()) else some (false,()) else Option.bind (jp (x0.2.1,())) fun q16=>bif q16.1 then Option.bind (jp (x0.2.2.1,())) fun q17=>bif q17.1 then bif x0.2.1 != x0.2.2.1 then Option.bind (jq (x0.2.2.2.1,())) fun q18=>bif q18.1 then Option.bind (jq (x0.2.2.2.2.1,())) fun q19=>bif q19.1 then some (false,()) else some (false,()) else some (false,()) else some (false,()) else some (false,()) else some (false,())
abbrev zvj:Fun:=⟨298,(ch [zx]),(ch [.bool]),0,zjR⟩
theorem zGy:Sq zvj:=ms1 (d:=false) (K:=0) Tryz.func298 (by kernel_rfl) (funext fun (x0,())=>by kernel_rfl)
abbrev zft:Type:=Int × zz × zz
abbrev zDX:zft→St:=fun (v5,o0,o1)=>St.mk [(2,.bp 0 []),(3,.bp 1 []),(5,.dat tI v5)] [.bx (.dat zq o0) false,.bx (.dat zq o1) false]
def zfu (k0:zft→Option (Bool × Unit)):zft→Option (Bool × Unit):=fun (v5,o0,o1) =>
  bif decide (v5 < 64) then Option.bind (zfK (o0,v5,())) fun q0=>bif q0.1 then Option.bind (zfK (o1,v5,())) fun q1=>bif q1.1 then k0 (wI (v5 + 1),o0,o1) else some (false,()) else k0 (wI (v5 + 1),o0,o1) else bif decide (o0.1 ≤ o1.1) then some (true,()) else some (false,())
abbrev zte (K:Nat):zft→Option (Bool × Unit):=zg zfu K
theorem zDY (K:Nat):∀ n,evV Es1 K Tryz.f155 0 (ch [.bool]) [1,0,1,0] [] zDX n = zg zfu n:=zr fun n0 (v5,o0,o1)=>by kernel_rfl
def zqu (L0:zft→Option (Bool × Unit)):(zz × (zz × Unit))→Option (Bool × Unit):=fun (x0,x1,()) =>
  L0 (0,x0,x1)
def zqv:(zz × zz × Unit)→Option (Bool × Unit):=zqu (zte K0)
abbrev zw5:Fun:=⟨155,(ch [zq,zq]),(ch [.bool]),0,zqv⟩
theorem zIr:Sq zw5:=ml1 (d:=false) (S:=fun K=>zqu (zte K)) Tryz.func155 (by kernel_rfl) (fun K=>tr1 (T:=zqu) (zDY K K) fun (x0,x1,())=>by kernel_rfl) rfl
def zjS:(zf × (zn × (Int × Unit)))→Option (Bool × Unit):=fun (x0,x1,x2,()) =>
  inR x2 ((List.length x1.2.2.2.2.1):Int) (bif (ix zS x1.2.2.2.2.1 x2).1 then Option.bind (jU (x0,(ix zS x1.2.2.2.2.1 x2).2.1,())) fun q0=>bif q0.1 then Option.bind (jU (x0,(ix zS x1.2.2.2.2.1 x2).2.2.1,())) fun q1=>bif q1.1 then bif decide ((ix zS x1.2.2.2.2.1 x2).2.2.2.1.2.2.1 ≥ ((List.length x1.2.2.1):Int)) then some (false,()) else bif decide ((ix zS x1.2.2.2.2.1 x2).2.2.2.2.1.2.2.1 ≥ ((List.length x1.2.2.1):Int)) then some (false,()) else bif decide ((ix zS x1.2.2.2.2.1 x2).2.2.2.1.2.2.1 < 0) then some (true,()) else inR (ix zS x1.2.2.2.2.1 x2).2.2.2.1.2.2.1 ((List.length x1.2.2.1):Int) (bif (List.getD x1.2.2.1 (Int.toNat (ix zS x1.2.2.2.2.1 x2).2.2.2.1.2.2.1) (ze zw)).1 then bif (List.getD x1.2.2.1 (Int.toNat (ix zS x1.2.2.2.2.1 x2).2.2.2.1.2.2.1) (ze zw)).2.2.1 == 3 then bif (List.getD x1.2.2.1 (Int.toNat (ix zS x1.2.2.2.2.1 x2).2.2.2.1.2.2.1) (ze zw)).2.2.2.1 == x2 then some (true,()) else some (false,()) else some (false,()) else some (false,())) else some (false,()) else some (false,()) else some (true,()))
abbrev zvk:Fun:=⟨178,(ch [zo,zl,tI]),(ch [.bool]),0,zjS⟩
theorem zGz:Sq zvk:=ms1 (d:=false) (K:=0) Tryz.func178 (by kernel_rfl) (funext fun (x0,x1,x2,())=>by kernel_rfl)
abbrev zej:Type:=(List zt) × Int × Int × Int
abbrev zB4:zej→St:=fun (v0,v1,v6,v7)=>St.mk [(0,.dat (.sl zp) v0),(1,.dat tI v1),(6,.dat tU v6),(7,.dat tI v7)] []
def zek (k0:zej→Option (Int × (Int × Unit))):zej→Option (Int × (Int × Unit)):=fun (v0,v1,v6,v7) =>
  bif decide (v7 < ((List.length v0):Int)) then inR v7 ((List.length v0):Int) (Option.bind (zik (ix zI v0 v7,v1,())) fun q0=>Option.bind (vj (v6,q0.1,())) fun q1=>bif q1.2.1 != 0 then some (0,q1.2.1,()) else k0 (v0,v1,q1.1,wI (v7 + 1))) else some (v6,0,())
abbrev zrn (K:Nat):zej→Option (Int × (Int × Unit)):=zg zek K
theorem zB5 (K:Nat):∀ n,evV Es1 K Tryz.f179 0 (ch [tU,tI]) [1,1,1,0,1,0] [] zB4 n = zg zek n:=zr fun n0 (v0,v1,v6,v7)=>by kernel_rfl
def zjT (L0:zej→Option (Int × (Int × Unit))):((List zt) × (Int × Unit))→Option (Int × (Int × Unit)):=fun (x0,x1,()) =>
  bif decide (x1 < 0) then some (0,1,()) else bif decide (x1 > 3) then some (0,1,()) else L0 (x0,x1,0,0)
def zjU:((List zt) × Int × Unit)→Option (Int × Int × Unit):=zjT (zrn K0)
abbrev zvl:Fun:=⟨179,(ch [(.sl zp),tI]),(ch [tU,tI]),0,zjU⟩
theorem zGA:Sq zvl:=ml1 (d:=false) (S:=fun K=>zjT (zrn K)) Tryz.func179 (by kernel_rfl) (fun K=>tr1 (T:=zjT) (zB5 K K) fun (x0,x1,())=>by kernel_rfl) rfl
end
end Go.Proofs.YtgomalidoilgbaaGreatDoor
end
