import Derived.Test.YtaokpakfhdeiiaaGreatDoorTeb
import Derived.Orders
import Derived.Scope
import Derived.Carry
import Derived.OpenShut
import Derived.Test.YtaokpakfhdeiiaaGreatDoorProg
set_option linter.unusedSimpArgs false
set_option linter.unusedVariables false
section
namespace Go.Ev
open Go.RowKit
section
variable {P:Program} {nt:Nat} {F0 F F':FH} {w0 w w':World} {st:St} {m m':MM} {a:Act} {fr fr':List (Nat × AV)} {H h':List Obj}
theorem Rel.start (h:Rel P nt F0 w0 st m F a w) (hf:∀ t v,look fr' t = some v→v.pure = true ∧ zq P st.h m F v (a.tmps.getD t undef)):Rel P nt F w ⟨fr',[]⟩ .emp F a w :=
  ⟨h.nt,fun t v ht=>(hf t v ht).2.pure (hf t v ht).1,fun i o ho=>(by simp [atN] at ho),fun _ _ _ _ _ h=>(nomatch h),fun _ _ _ h=>(nomatch h),fun _ _ _ _ _ h=>(nomatch h),fun _ _ _ _ _ _ _ _ _ h=>(nomatch h),h.fok,⟨.refl F,fun _ _=>rfl⟩,⟨rfl,rfl,rfl,Nat.le_refl _,fun _ _=>rfl⟩,h.dfr⟩
def MM.cat (m:MM) (n:Nat) (m':MM):MM:=⟨fun i=>if i < n then m i else m' (i - n),fun i=>if i < n then m.d i else m'.d (i - n)⟩
theorem MM.cat_f (m:MM) {n i:Nat} (m':MM) (h:i < n):(m.cat n m') i = m i:=by show (if i < n then m i else m' (i - n)) = m i; rw [if_pos h]
theorem MM.cat_d (m:MM) {n i:Nat} (m':MM) (h:i < n):(m.cat n m').d i = m.d i:=by show (if i < n then m.d i else m'.d (i - n)) = m.d i; rw [if_pos h]
theorem MM.cat_f2 (m:MM) (n i:Nat) (m':MM):(m.cat n m') (n + i) = m' i:=by show (if n + i < n then m (n + i) else m' (n + i - n)) = m' i; rw [if_neg (by omega),Nat.add_sub_cancel_left]
theorem MM.cat_d2 (m:MM) (n i:Nat) (m':MM):(m.cat n m').d (n + i) = m'.d i:=by show (if n + i < n then m.d (n + i) else m'.d (n + i - n)) = m'.d i; rw [if_neg (by omega),Nat.add_sub_cancel_left]
theorem zkg {n j:Nat} (h:¬ j < n):∃ i,j = n + i:=⟨j - n,by omega⟩
theorem qa1 {H h':List Obj} {i:Nat} {o:Obj} (ho:atN h' i = some o):atN (H ++ h'.map (Obj.sh H.length)) (H.length + i) = some (o.rn (H.length + ·)):=by
  rw [jg,List.getElem?_append_right (by omega),Nat.add_sub_cancel_left,List.getElem?_map,← jg,ho,Option.map_some,Obj.sh_rn]
theorem Rel.cat (h:Rel P nt F0 w0 ⟨fr,H⟩ m F a w) (h2:Rel P nt F w ⟨fr',h'⟩ m' F' a w') (hle:F.le F'):Rel P nt F0 w0 ⟨fr,H ++ h'.map (Obj.sh H.length)⟩ (m.cat H.length m') F' a w':=by
  have h1:=h.step (F':=F') h2.bel h2.gro h2.fok
  have hm:∀ j u,atN H j = some u→Same (H ++ h'.map (Obj.sh H.length)) m (m.cat H.length m') j u:=fun j u hu=>⟨MM.cat_f m m' (yN hu),fun _ _ _ _=>by rw [MM.cat_d m m' (yN hu)]⟩
  have hh:HLe H (H ++ h'.map (Obj.sh H.length)):=HLe.append _ _
  have hR:∀ i o,atN h' i = some o→atN (H ++ h'.map (Obj.sh H.length)) (H.length + i) = some (o.rn (H.length + ·)) ∧ (m.cat H.length m') (H.length + i) = m' i ∧ (m.cat H.length m').d (H.length + i) = m'.d i:=fun i o ho=>⟨qa1 ho,MM.cat_f2 _ _ _ _,MM.cat_d2 _ _ _ _⟩
  have hlast:∀ i b n,m' i = some (b,n)→w.heap.size ≤ b:=fun i b n hi=>(h2.rng _ _ _ hi).2.1
  have hlastd:∀ i j p b n,m'.d i j p = some (b,n)→w.heap.size ≤ b:=fun i j p b n hi=>(h2.dok _ _ _ _ _ hi).2.1
  have hfst:∀ i b n,m i = some (b,n)→b < w.heap.size:=fun i b n hi=>(h.rng _ _ _ hi).2.2
  have hfstd:∀ i j p b n,m.d i j p = some (b,n)→b < w.heap.size:=fun i j p b n hi=>(h.dok _ _ _ _ _ hi).2.2.1
  refine ⟨h.nt,fun t v ht=>(h1.fr t v ht).mono hh hm (.refl F'),fun j u hu=>?_,fun i j b n n' hi hj=>?_,fun j b n hj=>?_,fun i j p b n hp=>?_,fun i1 j1 p1 b n i2 j2 p2 n' q1 q2=>?_,h2.fok,h1.gro,h1.bel,h.dfr⟩
  · by_cases hj:j < H.length
    · have hu':atN H j = some u:=by rw [zb5 hj] at hu; exact hu
      exact (h1.obs j u hu').mono hh hm (.refl F') hu' hu (fun _ _ _=>rfl) (fun _ _ _ hn=>hn) (fun _ _ _ _ _ _=>⟨rfl,fun hn=>hn⟩)
    · obtain ⟨i,rfl⟩:=zkg hj
      rw [jg,List.getElem?_append_right (by omega),Nat.add_sub_cancel_left,List.getElem?_map,← jg] at hu
      obtain ⟨o,ho,rfl⟩:=Option.map_eq_some_iff.1 hu
      rw [Obj.sh_rn]
      exact (h2.obs i o ho).rn (fun _ _ _ i _ o' ho'=>hR i o' ho') (hR i o ho).2.1 (hR i o ho).2.2
  · by_cases e1:i < H.length <;> by_cases e2:j < H.length
    · rw [MM.cat_f _ _ e1] at hi; rw [MM.cat_f _ _ e2] at hj; exact h.inj _ _ _ _ _ hi hj
    · obtain ⟨j,rfl⟩:=zkg e2
      rw [MM.cat_f _ _ e1] at hi; rw [MM.cat_f2] at hj
      have:=hfst _ _ _ hi; have:=hlast _ _ _ hj; omega
    · obtain ⟨i,rfl⟩:=zkg e1
      rw [MM.cat_f2] at hi; rw [MM.cat_f _ _ e2] at hj
      have:=hfst _ _ _ hj; have:=hlast _ _ _ hi; omega
    · obtain ⟨i,rfl⟩:=zkg e1
      obtain ⟨j,rfl⟩:=zkg e2
      rw [MM.cat_f2] at hi hj
      have:=h2.inj _ _ _ _ _ hi hj; omega
  · have hs:=h.bel.size
    simp only [List.length_append,List.length_map]
    by_cases e:j < H.length
    · rw [MM.cat_f _ _ e] at hj
      have:=h1.rng _ _ _ hj
      simp only at this
      omega
    · obtain ⟨j,rfl⟩:=zkg e
      rw [MM.cat_f2] at hj
      have:=h2.rng _ _ _ hj
      simp only at this
      omega
  · have hs:=h.bel.size
    by_cases e:i < H.length
    · rw [MM.cat_d _ _ e] at hp
      obtain ⟨⟨o,g1,g2⟩,g3,g4,g5,g6⟩:=h1.dok _ _ _ _ _ hp
      refine ⟨⟨o,by rw [zb5 e]; exact g1,g2⟩,g3,g4,g5,fun i' n'=>?_⟩
      by_cases e':i' < H.length
      · rw [MM.cat_f _ _ e']; exact g6 _ _
      · obtain ⟨i',rfl⟩:=zkg e'
        rw [MM.cat_f2]
        intro hi'
        have:=hfstd _ _ _ _ _ hp; have:=hlast _ _ _ hi'; omega
    · obtain ⟨i,rfl⟩:=zkg e
      rw [MM.cat_d2] at hp
      obtain ⟨⟨o,g1,g2⟩,g3,g4,g5,g6⟩:=h2.dok _ _ _ _ _ hp
      refine ⟨⟨_,qa1 g1,by rw [zSW]; exact g2⟩,by omega,g4,g5,fun i' n'=>?_⟩
      by_cases e':i' < H.length
      · rw [MM.cat_f _ _ e']
        intro hi'
        have:=hfst _ _ _ hi'; omega
      · obtain ⟨i',rfl⟩:=zkg e'
        rw [MM.cat_f2]; exact g6 _ _
  · by_cases e1:i1 < H.length <;> by_cases e2:i2 < H.length
    · rw [MM.cat_d _ _ e1] at q1; rw [MM.cat_d _ _ e2] at q2; exact h.din _ _ _ _ _ _ _ _ _ q1 q2
    · obtain ⟨i2,rfl⟩:=zkg e2
      rw [MM.cat_d _ _ e1] at q1; rw [MM.cat_d2] at q2
      have:=hfstd _ _ _ _ _ q1; have:=hlastd _ _ _ _ _ q2; omega
    · obtain ⟨i1,rfl⟩:=zkg e1
      rw [MM.cat_d2] at q1; rw [MM.cat_d _ _ e2] at q2
      have:=hfstd _ _ _ _ _ q2; have:=hlastd _ _ _ _ _ q1; omega
    · obtain ⟨i1,rfl⟩:=zkg e1
      obtain ⟨i2,rfl⟩:=zkg e2
      rw [MM.cat_d2] at q1 q2
      have:=h2.din _ _ _ _ _ _ _ _ _ q1 q2
      exact ⟨by omega,this.2⟩
theorem Rel.holes (h:Rel P nt F0 w0 ⟨fr,H⟩ m F a w) (n:Nat):Rel P nt F0 w0 ⟨fr,H ++ List.replicate n .hole⟩ m F a w:=by
  have hk:z6P H (H ++ List.replicate n .hole) m m:=fun i o ho _=>⟨by rw [zb5 (yN ho)]; exact ho,rfl,rfl⟩
  refine ⟨h.nt,fun t v ht=>(h.fr t v ht).keep hk,fun j u hu=>?_,h.inj,fun i b n' hi=>?_,fun i j p b n' hp=>?_,h.din,h.fok,h.gro,h.bel,h.dfr⟩
  · by_cases hj:j < H.length
    · have hu':atN H j = some u:=by rw [zb5 hj] at hu; exact hu
      exact (h.obs j u hu').keep hk rfl rfl
    · rw [jg,List.getElem?_append_right (by omega)] at hu
      have hm:=List.mem_of_getElem? hu
      rw [List.mem_replicate] at hm
      obtain ⟨_,rfl⟩:=hm
      show m j = none
      cases hmj:m j with
      | none=>rfl
      | some bn =>
        obtain ⟨b,n'⟩:=bn
        have:=(h.rng _ _ _ hmj).1
        exact absurd this hj
  · have:=h.rng _ _ _ hi
    simp only [List.length_append] at this ⊢
    omega
  · obtain ⟨⟨o,g1,g2⟩,g3⟩:=h.dok _ _ _ _ _ hp
    exact ⟨⟨o,by rw [zb5 (yN g1)]; exact g1,g2⟩,g3⟩
def MM.fill (m:MM) (s n:Nat) (m':MM):MM:=⟨fun i=>if s ≤ i ∧ i < s + n then m' (i - s) else m i,fun i=>if s ≤ i ∧ i < s + n then m'.d (i - s) else m.d i⟩
theorem MM.fill_f (m:MM) {s n i:Nat} (m':MM) (h:¬(s ≤ i ∧ i < s + n)):(m.fill s n m') i = m i:=by show (if s ≤ i ∧ i < s + n then m' (i - s) else m i) = m i; rw [if_neg h]
theorem MM.fill_d (m:MM) {s n i:Nat} (m':MM) (h:¬(s ≤ i ∧ i < s + n)):(m.fill s n m').d i = m.d i:=by show (if s ≤ i ∧ i < s + n then m'.d (i - s) else m.d i) = m.d i; rw [if_neg h]
theorem MM.fill_f2 (m:MM) {s n i:Nat} (m':MM) (h:i < n):(m.fill s n m') (s + i) = m' i:=by show (if s ≤ s + i ∧ s + i < s + n then m' (s + i - s) else m (s + i)) = m' i; rw [if_pos (by omega),Nat.add_sub_cancel_left]
theorem MM.fill_d2 (m:MM) {s n i:Nat} (m':MM) (h:i < n):(m.fill s n m').d (s + i) = m'.d i:=by show (if s ≤ s + i ∧ s + i < s + n then m'.d (s + i - s) else m.d (s + i)) = m'.d i; rw [if_pos (by omega),Nat.add_sub_cancel_left]
theorem Rel.fill (h:Rel P nt F0 w0 ⟨fr,H⟩ m F a w) (h2:Rel P nt F w ⟨fr',h'⟩ m' F' a w') {s:Nat} {H2:List Obj} (hlen:H2.length = H.length)
    (hs:∀ i o,atN h' i = some o→atN H (s + i) = some .hole ∧ atN H2 (s + i) = some (o.rn (s + ·))) (hn:∀ i,¬(s ≤ i ∧ i < s + h'.length)→atN H2 i = atN H i) :
    Rel P nt F0 w0 ⟨fr,H2⟩ (m.fill s h'.length m') F' a w':=by
  have h1:=h.step (F':=F') h2.bel h2.gro h2.fok
  have hin:∀ i,i < h'.length→atN H (s + i) = some .hole:=fun i hi=>(hs i h'[i] (by rw [jg,List.getElem?_eq_getElem hi])).1
  have hmh:∀ i,i < h'.length→m (s + i) = none:=fun i hi=>h.obs _ _ (hin i hi)
  have seg:∀ {i:Nat},(s ≤ i ∧ i < s + h'.length)→∃ j,j < h'.length ∧ i = s + j:=fun {i} hi=>⟨i - s,by omega,by omega⟩
  have hk:z6P H H2 m (m.fill s h'.length m'):=fun i o ho hne=>by
    by_cases e:s ≤ i ∧ i < s + h'.length
    · obtain ⟨j,hj,rfl⟩:=seg e
      rw [hin j hj] at ho; cases ho; exact absurd rfl hne
    · exact ⟨by rw [hn i e]; exact ho,MM.fill_f m m' e,MM.fill_d m m' e⟩
  have hlast:∀ i b n,m' i = some (b,n)→w.heap.size ≤ b:=fun i b n hi=>(h2.rng _ _ _ hi).2.1
  have hlastd:∀ i j p b n,m'.d i j p = some (b,n)→w.heap.size ≤ b:=fun i j p b n hi=>(h2.dok _ _ _ _ _ hi).2.1
  have hfst:∀ i b n,m i = some (b,n)→b < w.heap.size:=fun i b n hi=>(h.rng _ _ _ hi).2.2
  have hfstd:∀ i j p b n,m.d i j p = some (b,n)→b < w.heap.size:=fun i j p b n hi=>(h.dok _ _ _ _ _ hi).2.2.1
  have hnd:∀ {i j p b n},i < h'.length→m.d (s + i) j p ≠ some (b,n):=fun hi hp=>by
    obtain ⟨⟨o,g1,g2⟩,_⟩:=h.dok _ _ _ _ _ hp
    simp only at g1
    rw [hin _ hi] at g1; cases g1; cases g2
  have hR:∀ i o,atN h' i = some o→atN H2 (s + i) = some (o.rn (s + ·)) ∧ (m.fill s h'.length m') (s + i) = m' i ∧ (m.fill s h'.length m').d (s + i) = m'.d i:=fun i o ho=>⟨(hs i o ho).2,MM.fill_f2 _ _ (yN ho),MM.fill_d2 _ _ (yN ho)⟩
  refine ⟨h.nt,fun t v ht=>(h1.fr t v ht).keep hk,fun j u hu=>?_,fun i j b n n' hi hj=>?_,fun j b n hj=>?_,fun i j p b n hp=>?_,fun i1 j1 p1 b n i2 j2 p2 n' q1 q2=>?_,h2.fok,h1.gro,h1.bel,h.dfr⟩
  · by_cases e:s ≤ j ∧ j < s + h'.length
    · obtain ⟨i,hi,rfl⟩:=seg e
      obtain ⟨o,ho⟩:∃ o,atN h' i = some o:=⟨h'[i],by rw [jg,List.getElem?_eq_getElem hi]⟩
      have:=(hR i o ho).1
      simp only at hu
      rw [this] at hu
      cases hu
      exact (h2.obs i o ho).rn (fun _ _ _ i _ o' ho'=>hR i o' ho') (hR i o ho).2.1 (hR i o ho).2.2
    · simp only at hu
      rw [hn j e] at hu
      exact (h1.obs j u hu).keep hk (MM.fill_f m m' e) (MM.fill_d m m' e)
  · by_cases e1:s ≤ i ∧ i < s + h'.length <;> by_cases e2:s ≤ j ∧ j < s + h'.length
    · obtain ⟨i,l1,rfl⟩:=seg e1
      obtain ⟨j,l2,rfl⟩:=seg e2
      rw [MM.fill_f2 _ _ l1] at hi; rw [MM.fill_f2 _ _ l2] at hj
      have:=h2.inj _ _ _ _ _ hi hj; omega
    · obtain ⟨i,l1,rfl⟩:=seg e1
      rw [MM.fill_f2 _ _ l1] at hi; rw [MM.fill_f _ _ e2] at hj
      have:=hfst _ _ _ hj; have:=hlast _ _ _ hi; omega
    · obtain ⟨j,l2,rfl⟩:=seg e2
      rw [MM.fill_f _ _ e1] at hi; rw [MM.fill_f2 _ _ l2] at hj
      have:=hfst _ _ _ hi; have:=hlast _ _ _ hj; omega
    · rw [MM.fill_f _ _ e1] at hi; rw [MM.fill_f _ _ e2] at hj; exact h.inj _ _ _ _ _ hi hj
  · have hsz:=h.bel.size
    by_cases e:s ≤ j ∧ j < s + h'.length
    · obtain ⟨i,l1,rfl⟩:=seg e
      rw [MM.fill_f2 _ _ l1] at hj
      have:=h2.rng _ _ _ hj
      have:=yN (hin i l1)
      simp only at *
      omega
    · rw [MM.fill_f _ _ e] at hj
      have:=h1.rng _ _ _ hj
      simp only at *
      omega
  · have hsz:=h.bel.size
    by_cases e:s ≤ i ∧ i < s + h'.length
    · obtain ⟨i,l1,rfl⟩:=seg e
      rw [MM.fill_d2 _ _ l1] at hp
      obtain ⟨⟨o,g1,g2⟩,g3,g4,g5,g6⟩:=h2.dok _ _ _ _ _ hp
      refine ⟨⟨_,(hR i o g1).1,by rw [zSW]; exact g2⟩,by omega,g4,g5,fun i' n'=>?_⟩
      by_cases e':s ≤ i' ∧ i' < s + h'.length
      · obtain ⟨i',l2,rfl⟩:=seg e'
        rw [MM.fill_f2 _ _ l2]; exact g6 _ _
      · rw [MM.fill_f _ _ e']
        intro hi'
        have:=hfst _ _ _ hi'; omega
    · rw [MM.fill_d _ _ e] at hp
      obtain ⟨⟨o,g1,g2⟩,g3,g4,g5,g6⟩:=h1.dok _ _ _ _ _ hp
      refine ⟨⟨o,by simp only at g1 ⊢; rw [hn i e]; exact g1,g2⟩,g3,g4,g5,fun i' n'=>?_⟩
      by_cases e':s ≤ i' ∧ i' < s + h'.length
      · obtain ⟨i',l2,rfl⟩:=seg e'
        rw [MM.fill_f2 _ _ l2]
        intro hi'
        have:=hfstd _ _ _ _ _ hp; have:=hlast _ _ _ hi'; omega
      · rw [MM.fill_f _ _ e']; exact g6 _ _
  · by_cases e1:s ≤ i1 ∧ i1 < s + h'.length <;> by_cases e2:s ≤ i2 ∧ i2 < s + h'.length
    · obtain ⟨i1,l1,rfl⟩:=seg e1
      obtain ⟨i2,l2,rfl⟩:=seg e2
      rw [MM.fill_d2 _ _ l1] at q1; rw [MM.fill_d2 _ _ l2] at q2
      have:=h2.din _ _ _ _ _ _ _ _ _ q1 q2
      exact ⟨by omega,this.2⟩
    · obtain ⟨i1,l1,rfl⟩:=seg e1
      rw [MM.fill_d2 _ _ l1] at q1; rw [MM.fill_d _ _ e2] at q2
      have:=hfstd _ _ _ _ _ q2; have:=hlastd _ _ _ _ _ q1; omega
    · obtain ⟨i2,l2,rfl⟩:=seg e2
      rw [MM.fill_d _ _ e1] at q1; rw [MM.fill_d2 _ _ l2] at q2
      have:=hfstd _ _ _ _ _ q1; have:=hlastd _ _ _ _ _ q2; omega
    · rw [MM.fill_d _ _ e1] at q1; rw [MM.fill_d _ _ e2] at q2; exact h.din _ _ _ _ _ _ _ _ _ q1 q2
theorem zq.fill {v:AV} {u:Value} {s:Nat} {H2:List Obj} (hs:∀ i o,atN h' i = some o→atN H2 (s + i) = some (o.rn (s + ·))) (hv:zq P h' m' F' v u):zq P H2 (m.fill s h'.length m') F' (v.shT s) u:=by
  have hR:∀ i o,atN h' i = some o→atN H2 (s + i) = some (o.rn (s + ·)) ∧ (m.fill s h'.length m') (s + i) = m' i ∧ (m.fill s h'.length m').d (s + i) = m'.d i:=fun i o ho=>⟨hs i o ho,MM.fill_f2 _ _ (yN ho),MM.fill_d2 _ _ (yN ho)⟩
  cases v with
  | tup vs =>
    obtain ⟨arr,e,h1,h3⟩:=hv
    refine ⟨arr,e,by simpa using h1,fun i x hx=>?_⟩
    rw [List.getElem?_map] at hx
    obtain ⟨y,hy,rfl⟩:=Option.map_eq_some_iff.1 hx
    obtain ⟨z,hz,hyz⟩:=h3 i y hy
    refine ⟨z,hz,?_⟩
    rw [AV.sh_rn]
    exact hyz.rn fun i _ o ho=>hR i o ho
  | _ =>
    rw [zq.eq1 (by intro vs e; cases e)] at hv
    refine zq.of1 ?_
    simp only [AV.shT]
    rw [AV.sh_rn]
    exact hv.rn fun i _ o ho=>hR i o ho
end
end Go.Ev
end
section
namespace Go.Ev
open Go.RowKit
section
variable {P:Program} {nt:Nat} {F0 F G:FH} {w0 w:World} {st st':St} {m:MM} {a:Act} {E:Env} {v:AV} {u:Value}
theorem zYY {R:Type} {q:Bool} {args:Array Operand} {ts:Array TypeId} {k:AV→St→Option R}:zss q E ⟨.builtin .len,args,ts⟩ st k = match args.toList,ts.toList with | [x],[t]=>(match rd E st none x with | some v=>zjZ E t v st k | none=>none) | _,_=>none:=rfl
theorem qbO {q:Bool} {o:Oper} (hE:qv P G E) (hG:G.le F0) (h:Rel P nt F0 w0 st m F a w) (hs:znC o.op = true) (he:zcT q E o.op o.type st pk = some (v,st')) :
    st' = st ∧ ∃ u,(execOp a.eval o).run P w = .ok (.value u) w ∧ zq P st.h m F v u:=by
  obtain ⟨dst,op,ty,pos,after,guard⟩:=o
  simp only at he hs
  cases op <;> (try (simp only [znC] at hs; cases hs; done)) <;> simp only [zcT] at he
  case load t x =>
    split at he
    · rename_i av hav
      obtain ⟨u,h1,rfl,h2⟩:=zPp hE h (zM hE hG h hav) he
      exact ⟨rfl,u,by simp only [execOp]; exact qt h1,h2⟩
    · cases he
  case nilCheck x =>
    split at he
    · rename_i τ y hx
      obtain ⟨y,rfl,he⟩:=Option.bind_eq_some_iff.1 he
      cases he
      have hr:=zM hE hG h hx
      obtain ⟨d,cc,hp,_⟩:=hr.ptr
      exact ⟨rfl,a.eval x,by simp only [execOp,hp]; rfl,hr⟩
    · rename_i τ σ y hx
      obtain ⟨y,rfl,he⟩:=Option.bind_eq_some_iff.1 he
      cases he
      have hr:=zM hE hG h hx
      obtain ⟨f,first,caps,hp,_⟩:=zq.one rfl hr
      simp only [List.cons.injEq,and_true] at hp
      exact ⟨rfl,a.eval x,by simp only [execOp,hp]; rfl,hr⟩
    · rename_i id p hx
      obtain ⟨hlive,he⟩:=zf he
      cases he
      have hr:=zM hE hG h hx
      obtain ⟨b,n,o,off,_,_,hp,_⟩:=(show qR P st.h m F (.bp id p) _ from hr).resolve_left (zy4 hlive)
      exact ⟨rfl,a.eval x,by simp only [execOp,hp]; rfl,hr⟩
    · rename_i id i p hx
      obtain ⟨hlive,he⟩:=zf he
      cases he
      have hr:=zM hE hG h hx
      obtain ⟨b,n,o,τ,len,off,σ,_,_,_,_,_,hp⟩:=(show qR P st.h m F (.rp id i p) _ from hr).resolve_left (zy4 hlive)
      exact ⟨rfl,a.eval x,by simp only [execOp,hp]; rfl,hr⟩
    · rename_i id i p j q hx
      split at he
      · rename_i τ xs k ho
        cases he
        have hr:=zM hE hG h hx
        obtain ⟨o,ho',_,hr'⟩:=(show qR P st.h m F (.dp id i p j q) _ from hr)
        rw [ho] at ho'
        cases ho'
        obtain ⟨_,σ,len,off,ρ,b,n,_,_,_,_,hp⟩:=hr' _ _ _ rfl
        exact ⟨rfl,a.eval x,by simp only [execOp,hp]; rfl,hr⟩
      · cases he
    · cases he
  case binOp op t x y ty' =>
    split at he
    · rename_i av au hav hau
      obtain ⟨u,h1,rfl,h2⟩:=zYI (X:=x) (Y:=y) (w:=w) hE zLB (zM hE hG h hav) (zM hE hG h hau) he
      exact ⟨rfl,u,by simp only [execOp]; exact qt h1,h2⟩
    · cases he
  case fieldAddr t x f =>
    split at he
    · rename_i av hav
      obtain ⟨u,h1,rfl,h2⟩:=zJ8 hE h (zM hE hG h hav) he
      exact ⟨rfl,u,by simp only [execOp]; exact qt h1,h2⟩
    · cases he
  case indexAddr t x i =>
    split at he
    · rename_i av au hav hau
      obtain ⟨u,h1,rfl,h2⟩:=zJ9 hE h (zM hE hG h hav) (zM hE hG h hau) he
      exact ⟨rfl,u,by simp only [execOp]; exact qt h1,h2⟩
    · cases he
  case lookup t x i ok =>
    split at he
    · rename_i av au hav hau
      obtain ⟨u,h1,rfl,h2⟩:=zSU hE h (zM hE hG h hav) (zM hE hG h hau) he
      exact ⟨rfl,u,by simp only [execOp]; exact qt h1,h2⟩
    · cases he
  case call c =>
    obtain ⟨callee,args,argTypes⟩:=c
    simp only [znC] at hs
    split at hs
    · rw [zYY] at he
      split at he
      · rename_i x t hx ht
        split at he
        · rename_i av hav
          obtain ⟨u,h1,rfl,h2⟩:=z3z (ty:=ty) hE h (zM hE hG h hav) ht he
          have hargs:args.map a.eval = #[a.eval x]:=by apply Array.ext'; simp [hx]
          refine ⟨rfl,u,?_,h2⟩
          simp only [execOp,resolve,Sem.run_bind,Sem.run_pure,Result.andThen_ok,invoke,builtin,hargs]
          simp [h1]
        · cases he
      · cases he
    · cases hs
theorem zFO {α:Type} {h k:List α} {i:Nat} {o:α} (ho:atN h i = some o):atN (h ++ k) i = some o:=by
  rw [jg] at ho ⊢
  rw [List.getElem?_append_left (List.getElem?_eq_some_iff.1 ho).1]
  exact ho
theorem z6Q {h k:List Obj} {i:Nat} (hk:∀ o,atN h i = some o→atN k i = some o) (ho:live h i = true):live k i = true:=by
  unfold live at ho ⊢
  cases hi:atN h i with
  | none=>rw [hi] at ho; cases ho
  | some o=>rw [hi] at ho; rw [hk _ hi]; exact ho
def more (k:List Obj) (st:St):St:=⟨st.fr,k⟩
def zy5 (h k:List Obj) (v:AV):Prop:=∀ i,v.has1 i = true→∀ o,atN h i = some o→atN k i = some o
def Sup (h k:List Obj) (v:AV):Prop:=∀ i,v.has i = true→∀ o,atN h i = some o→atN k i = some o
theorem zy5.refl (h:List Obj) (v:AV):zy5 h h v:=fun _ _ _ h=>h
variable {k:List Obj}
theorem zBA {x:(τ:Ty) × τ.I × St} (hk:zy5 st.h k v) (h:yf true st v = some x):yf true (more k st) v = some ⟨x.1,x.2.1,more k x.2.2⟩ ∧ x.2.2 = st:=by
  cases v with
  | dat τ y=>simp only [yf,Option.some.injEq] at h ⊢; subst h; exact ⟨rfl,rfl⟩
  | clip τ y=>simp only [yf,Option.some.injEq] at h ⊢; subst h; exact ⟨rfl,rfl⟩
  | ow id =>
    simp only [yf] at h ⊢
    split at h
    · rename_i τ xs ho
      cases h
      rw [show atN (more k st).h id = some (.row τ xs true) from hk _ (Nat.beq_refl _) _ ho]
      exact ⟨rfl,rfl⟩
    · cases h
    · cases h
    · cases h
  | bp id p =>
    cases p with
    | cons _ _=>cases h
    | nil =>
      simp only [yf] at h ⊢
      split at h
      · rename_i τ xs ho
        cases h
        rw [show atN (more k st).h id = some (.bx (.dat τ xs) true) from hk _ (Nat.beq_refl _) _ ho]
        exact ⟨rfl,rfl⟩
      · cases h
      · cases h
  | _=>cases h
theorem zVZ {σ:Ty} {x:σ.I × St} (hk:zy5 st.h k v) (h:zeW true σ st v = some x):zeW true σ (more k st) v = some (x.1,more k x.2) ∧ x.2 = st:=by
  unfold zeW at h ⊢
  split at h
  · rename_i τ y st1 hz
    obtain ⟨h1,h2⟩:=zBA (k:=k) hk hz
    simp only at h1 h2
    subst h2
    rw [h1]
    split at h
    · rename_i z hc
      cases h
      simp only [hc,and_self]
    · cases h
  · cases h
theorem z6R:∀ {τ:Ty} {vs:List AV} {st:St} {x:τ.I × St},(∀ v ∈ vs,zy5 st.h k v)→yE true τ vs st = some x→yE true τ vs (more k st) = some (x.1,more k x.2) ∧ x.2 = st:=by
  intro τ
  induction τ with
  | unit=>intro vs st x _ h; cases vs <;> first | (cases h; exact ⟨rfl,rfl⟩) | cases h
  | pair a b _ ihb =>
    intro vs st x hk h
    cases vs with
    | nil=>cases h
    | cons v vs =>
      simp only [yE] at h ⊢
      split at h
      · rename_i y st1 hy
        split at h
        · rename_i ys st2 hys
          cases h
          obtain ⟨h1,h2⟩:=zVZ (k:=k) (hk v (by simp)) hy
          simp only at h1 h2
          subst h2
          obtain ⟨h3,h4⟩:=ihb (fun v hv=>hk v (by simp [hv])) hys
          simp only at h3 h4
          subst h4
          rw [h1]
          simp only [h3,and_self]
        · cases h
      · cases h
  | _=>intro vs st x _ h; cases vs <;> cases h
theorem qef {x:(τ:Ty) × τ.I × St} (hk:Sup st.h k v) (h:frz true st v = some x):frz true (more k st) v = some ⟨x.1,x.2.1,more k x.2.2⟩ ∧ x.2.2 = st:=by
  cases v with
  | fld b vs =>
    simp only [frz] at h ⊢
    split at h
    · rename_i y st1 hy
      cases h
      obtain ⟨h1,h2⟩:=z6R (k:=k) (fun v hv i hi=>hk i (by simp only [AV.has,List.any_eq_true]; exact ⟨v,hv,hi⟩)) hy
      simp only at h1 h2
      subst h2
      simp only [h1,and_self]
    · cases h
  | dat τ x=>exact zBA (v:=.dat τ x) hk h
  | clip τ x=>exact zBA (v:=.clip τ x) hk h
  | bp id p=>exact zBA (v:=.bp id p) hk h
  | ow id=>exact zBA (v:=.ow id) hk h
  | _=>cases h
theorem qfH {v':AV} {s s':St} (h:kAV v' s pk = some (v,st')):kAV v' s' pk = some (v,s'):=by
  obtain ⟨rfl,rfl⟩:=zcX h
  unfold kAV at h ⊢
  split
  · rename_i b; cases b <;> rfl
  · rfl
theorem qc9 {R:Type} {k:AV→St→Option R} {s s2:St} {t:TypeId} {x:AV} (hat:∀ i,x.has1 i = true→atN s.h i = atN s2.h i):zbw E t x s k = zbw E t x s2 (fun v _=>k v s):=by
  unfold zbw
  cases x with
  | bp id p =>
    have hh:atN s.h id = atN s2.h id:=hat id (Nat.beq_refl _)
    first | (simp only [hh]; done) | (simp only [hh]; rfl)
  | rp id i' p =>
    have hh:atN s.h id = atN s2.h id:=hat id (Nat.beq_refl _)
    first | (simp only [hh]; done) | (simp only [hh]; rfl)
  | dp id i' p j' q =>
    have hh:atN s.h id = atN s2.h id:=hat id (Nat.beq_refl _)
    first | (simp only [hh]; done) | (simp only [hh]; rfl)
  | dat τ y=>cases τ <;> rfl
  | _=>rfl
theorem z6S {t:TypeId} {x:AV} (he:zbw E t x st pk = some (v,st')) {i0:Nat} (hx:x.has1 i0 = true):∃ o,atN st.h i0 = some o:=by
  cases ho:atN st.h i0 with
  | some o=>exact ⟨o,rfl⟩
  | none =>
    exfalso
    unfold zbw at he
    cases x with
    | bp id p =>
      obtain rfl:id = i0:=Nat.eq_of_beq_eq_true hx
      first | (cases he; done) | (simp only [ho] at he; cases he)
    | rp id i' p =>
      obtain rfl:id = i0:=Nat.eq_of_beq_eq_true hx
      first | (cases he; done) | (simp only [ho] at he; cases he)
    | dp id i' p j' q =>
      obtain rfl:id = i0:=Nat.eq_of_beq_eq_true hx
      first | (cases he; done) | (simp only [ho] at he; cases he)
    | ds id i' p =>
      obtain rfl:id = i0:=Nat.eq_of_beq_eq_true hx
      first | (cases he; done) | (simp only [ho] at he; cases he)
    | ow id =>
      obtain rfl:id = i0:=Nat.eq_of_beq_eq_true hx
      first | (cases he; done) | (simp only [ho] at he; cases he)
    | om id =>
      obtain rfl:id = i0:=Nat.eq_of_beq_eq_true hx
      first | (cases he; done) | (simp only [ho] at he; cases he)
    | _=>cases hx
theorem z9i {t:TypeId} {x:AV} (hk:zy5 st.h k x) (he:zbw E t x st pk = some (v,st')):zbw E t x (more k st) pk = some (v,more k st):=by
  have hat:∀ i,x.has1 i = true→atN (more k st).h i = atN st.h i:=fun i hi=>by
    obtain ⟨o,ho⟩:=z6S he hi
    rw [ho]; exact hk i hi o ho
  rw [qc9 hat,zYB,he]
  rfl
theorem z1w {R:Type} {k:AV→St→Option R} {s s2:St} {t:TypeId} {x i:AV} (hat:∀ i,x.has1 i = true→atN s.h i = atN s2.h i):vJ E t x i s k = vJ E t x i s2 (fun v _=>k v s):=by
  unfold vJ
  cases x with
  | bp id p =>
    have hh:atN s.h id = atN s2.h id:=hat id (Nat.beq_refl _)
    cases i with
    | dat τ n=>cases τ <;> first | rfl | (simp only [hh]; done) | (simp only [hh]; rfl)
    | _=>rfl
  | rp id i' p =>
    have hh:atN s.h id = atN s2.h id:=hat id (Nat.beq_refl _)
    cases i with
    | dat τ n=>cases τ <;> first | rfl | (simp only [hh]; done) | (simp only [hh]; rfl)
    | _=>rfl
  | dp id i' p j' q =>
    have hh:atN s.h id = atN s2.h id:=hat id (Nat.beq_refl _)
    cases i with
    | dat τ n=>cases τ <;> first | rfl | (simp only [hh]; done) | (simp only [hh]; rfl)
    | _=>rfl
  | ds id i' p =>
    have hh:atN s.h id = atN s2.h id:=hat id (Nat.beq_refl _)
    cases i with
    | dat τ n=>cases τ <;> first | rfl | (simp only [hh]; done) | (simp only [hh]; rfl)
    | _=>rfl
  | ow id =>
    have hh:atN s.h id = atN s2.h id:=hat id (Nat.beq_refl _)
    cases i with
    | dat τ n=>cases τ <;> first | rfl | (simp only [hh]; done) | (simp only [hh]; rfl)
    | _=>rfl
  | dat τ y =>
    cases i with
    | dat τ' n=>cases τ with
      | ptr a=>cases a <;> cases τ' <;> rfl
      | _=>cases τ' <;> rfl
    | _=>cases τ with
      | ptr a=>cases a <;> rfl
      | _=>rfl
  | clip τ y=>cases i with
    | dat τ' n=>cases τ' <;> rfl
    | _=>rfl
  | _=>rfl
theorem zU9 {t:TypeId} {x i:AV} (he:vJ E t x i st pk = some (v,st')) {i0:Nat} (hx:x.has1 i0 = true):∃ o,atN st.h i0 = some o:=by
  cases ho:atN st.h i0 with
  | some o=>exact ⟨o,rfl⟩
  | none =>
    exfalso
    unfold vJ at he
    cases x with
    | bp id p =>
      obtain rfl:id = i0:=Nat.eq_of_beq_eq_true hx
      cases i with
      | dat τ n=>cases τ <;> first | (cases he; done) | (simp only [ho] at he; cases he)
      | _=>cases he
    | rp id i' p =>
      obtain rfl:id = i0:=Nat.eq_of_beq_eq_true hx
      cases i with
      | dat τ n=>cases τ <;> first | (cases he; done) | (simp only [ho] at he; cases he)
      | _=>cases he
    | dp id i' p j' q =>
      obtain rfl:id = i0:=Nat.eq_of_beq_eq_true hx
      cases i with
      | dat τ n=>cases τ <;> first | (cases he; done) | (simp only [ho] at he; cases he)
      | _=>cases he
    | ds id i' p =>
      obtain rfl:id = i0:=Nat.eq_of_beq_eq_true hx
      cases i with
      | dat τ n=>cases τ <;> first | (cases he; done) | (simp only [ho] at he; cases he)
      | _=>cases he
    | ow id =>
      obtain rfl:id = i0:=Nat.eq_of_beq_eq_true hx
      cases i with
      | dat τ n=>cases τ <;> first | (cases he; done) | (simp only [ho] at he; cases he)
      | _=>cases he
    | om id =>
      obtain rfl:id = i0:=Nat.eq_of_beq_eq_true hx
      cases i with
      | dat τ n=>cases τ <;> first | (cases he; done) | (simp only [ho] at he; cases he)
      | _=>cases he
    | _=>cases hx
theorem zWN {t:TypeId} {x i:AV} (hk:zy5 st.h k x) (he:vJ E t x i st pk = some (v,st')):vJ E t x i (more k st) pk = some (v,more k st):=by
  have hat:∀ i,x.has1 i = true→atN (more k st).h i = atN st.h i:=fun i hi=>by
    obtain ⟨o,ho⟩:=zU9 he hi
    rw [ho]; exact hk i hi o ho
  rw [z1w hat,zJ4,he]
  rfl
theorem z1x {R:Type} {k:AV→St→Option R} {s s2:St} {t:TypeId} {x:AV} {f:Nat} (hat:∀ i,x.has1 i = true→atN s.h i = atN s2.h i):vK E t x f s k = vK E t x f s2 (fun v _=>k v s):=by
  unfold vK
  cases x with
  | bp id p =>
    have hh:atN s.h id = atN s2.h id:=hat id (Nat.beq_refl _)
    first | (simp only [hh]; done) | (simp only [hh]; rfl)
  | rp id i' p =>
    have hh:atN s.h id = atN s2.h id:=hat id (Nat.beq_refl _)
    first | (simp only [hh]; done) | (simp only [hh]; rfl)
  | dp id i' p j' q =>
    have hh:atN s.h id = atN s2.h id:=hat id (Nat.beq_refl _)
    first | (simp only [hh]; done) | (simp only [hh]; rfl)
  | dat τ y=>cases τ with
    | ptr a=>cases a <;> rfl
    | _=>rfl
  | _=>rfl
theorem zVa {t:TypeId} {x:AV} {f:Nat} (he:vK E t x f st pk = some (v,st')) {i0:Nat} (hx:x.has1 i0 = true):∃ o,atN st.h i0 = some o:=by
  cases ho:atN st.h i0 with
  | some o=>exact ⟨o,rfl⟩
  | none =>
    exfalso
    unfold vK at he
    cases x with
    | bp id p =>
      obtain rfl:id = i0:=Nat.eq_of_beq_eq_true hx
      first | (cases he; done) | (simp only [ho] at he; cases he)
    | rp id i' p =>
      obtain rfl:id = i0:=Nat.eq_of_beq_eq_true hx
      first | (cases he; done) | (simp only [ho] at he; cases he)
    | dp id i' p j' q =>
      obtain rfl:id = i0:=Nat.eq_of_beq_eq_true hx
      first | (cases he; done) | (simp only [ho] at he; cases he)
    | ds id i' p =>
      obtain rfl:id = i0:=Nat.eq_of_beq_eq_true hx
      first | (cases he; done) | (simp only [ho] at he; cases he)
    | ow id =>
      obtain rfl:id = i0:=Nat.eq_of_beq_eq_true hx
      first | (cases he; done) | (simp only [ho] at he; cases he)
    | om id =>
      obtain rfl:id = i0:=Nat.eq_of_beq_eq_true hx
      first | (cases he; done) | (simp only [ho] at he; cases he)
    | _=>cases hx
theorem zWO {t:TypeId} {x:AV} {f:Nat} (hk:zy5 st.h k x) (he:vK E t x f st pk = some (v,st')):vK E t x f (more k st) pk = some (v,more k st):=by
  have hat:∀ i,x.has1 i = true→atN (more k st).h i = atN st.h i:=fun i hi=>by
    obtain ⟨o,ho⟩:=zVa he hi
    rw [ho]; exact hk i hi o ho
  rw [z1x hat,zJ5,he]
  rfl
theorem qeg {R:Type} {k:AV→St→Option R} {s s2:St} {t:TypeId} {x:AV} (hat:∀ i,x.has1 i = true→atN s.h i = atN s2.h i):zjZ E t x s k = zjZ E t x s2 (fun v _=>k v s):=by
  unfold zjZ
  cases x with
  | ds id i' p =>
    have hh:atN s.h id = atN s2.h id:=hat id (Nat.beq_refl _)
    first | (simp only [hh]; done) | (simp only [hh]; rfl)
  | ow id =>
    have hh:atN s.h id = atN s2.h id:=hat id (Nat.beq_refl _)
    first | (simp only [hh]; done) | (simp only [hh]; rfl)
  | om id =>
    have hh:atN s.h id = atN s2.h id:=hat id (Nat.beq_refl _)
    first | (simp only [hh]; done) | (simp only [hh]; rfl)
  | dat τ y=>cases τ <;> rfl
  | _=>rfl
theorem z9j {t:TypeId} {x:AV} (he:zjZ E t x st pk = some (v,st')) {i0:Nat} (hx:x.has1 i0 = true):∃ o,atN st.h i0 = some o:=by
  cases ho:atN st.h i0 with
  | some o=>exact ⟨o,rfl⟩
  | none =>
    exfalso
    unfold zjZ at he
    cases x with
    | bp id p =>
      obtain rfl:id = i0:=Nat.eq_of_beq_eq_true hx
      first | (cases he; done) | (simp only [ho] at he; cases he)
    | rp id i' p =>
      obtain rfl:id = i0:=Nat.eq_of_beq_eq_true hx
      first | (cases he; done) | (simp only [ho] at he; cases he)
    | dp id i' p j' q =>
      obtain rfl:id = i0:=Nat.eq_of_beq_eq_true hx
      first | (cases he; done) | (simp only [ho] at he; cases he)
    | ds id i' p =>
      obtain rfl:id = i0:=Nat.eq_of_beq_eq_true hx
      first | (cases he; done) | (simp only [ho] at he; cases he)
    | ow id =>
      obtain rfl:id = i0:=Nat.eq_of_beq_eq_true hx
      first | (cases he; done) | (simp only [ho] at he; cases he)
    | om id =>
      obtain rfl:id = i0:=Nat.eq_of_beq_eq_true hx
      first | (cases he; done) | (simp only [ho] at he; cases he)
    | _=>cases hx
theorem qbP {t:TypeId} {x:AV} (hk:zy5 st.h k x) (he:zjZ E t x st pk = some (v,st')):zjZ E t x (more k st) pk = some (v,more k st):=by
  have hat:∀ i,x.has1 i = true→atN (more k st).h i = atN st.h i:=fun i hi=>by
    obtain ⟨o,ho⟩:=z9j he hi
    rw [ho]; exact hk i hi o ho
  rw [qeg hat,z3n,he]
  rfl
theorem z31 {t:TypeId} {x i:AV} {ok:Bool} (hk:zy5 st.h k x) (he:zeA E t x i ok st pk = some (v,st')):zeA E t x i ok (more k st) pk = some (v,more k st):=by
  unfold zeA at he ⊢
  split at he
  · split at he
    · rename_i ho
      split at he
      · split at he
        · rename_i hc
          obtain ⟨h1,h2⟩:=zf he
          simp only [show atN (more k st).h _ = _ from hk _ (Nat.beq_refl _) _ ho,hc,h1,cond_true]
          cases ok with
          | false=>exact qfH h2
          | true=>cases h2; rfl
        · cases he
      · cases he
    · cases he
  · cases he
theorem z9k {nil:Bool} {op:BinOp} {t:TypeId} {x y:AV} {st2:St} (he:zmH nil E op t x y st pk = some (v,st')):zmH nil E op t x y st2 pk = some (v,st2):=by
  have hst:∀ {R:Type} {s s2:St} {k:AV→St→Option R},zmH nil E op t x y s k = zmH nil E op t x y s2 (fun v _=>k v s):=rfl
  rw [hst (s2:=st),zYA,he]
  rfl
theorem z3F {q:Bool} {op:Op} {ty:TypeId} (hs:znC op = true) (hk:∀ x θ v,x ∈ op.operands→rd E st θ x = some v→zy5 st.h k v) (he:zcT q E op ty st pk = some (v,st')):zcT q E op ty (more k st) pk = some (v,more k st):=by
  have hrd:∀ θ x,rd E (more k st) θ x = rd E st θ x:=fun θ x=>by cases x <;> rfl
  cases op <;> (try (simp only [znC] at hs; cases hs; done)) <;> simp only [zcT,hrd] at he ⊢
  case load t x =>
    split at he
    · rename_i hx; exact z9i (hk _ _ _ (by simp [Op.operands]) hx) he
    · cases he
  case nilCheck x =>
    split at he
    · obtain ⟨y,rfl,he⟩:=Option.bind_eq_some_iff.1 he
      cases he; rfl
    · obtain ⟨y,rfl,he⟩:=Option.bind_eq_some_iff.1 he
      cases he; rfl
    · rename_i hx
      obtain ⟨h1,h2⟩:=zf he
      cases h2
      simp only [show live (more k st).h _ = true from z6Q (hk _ _ _ (by simp [Op.operands]) hx _ (Nat.beq_refl _)) h1,cond_true]
    · rename_i hx
      obtain ⟨h1,h2⟩:=zf he
      cases h2
      simp only [show live (more k st).h _ = true from z6Q (hk _ _ _ (by simp [Op.operands]) hx _ (Nat.beq_refl _)) h1,cond_true]
    · rename_i hx
      split at he
      · rename_i ho
        cases he
        simp only [show atN (more k st).h _ = _ from hk _ _ _ (by simp [Op.operands]) hx _ (Nat.beq_refl _) _ ho]
      · cases he
    · cases he
  case binOp op t x y ty' =>
    split at he
    · exact z9k he
    · cases he
  case fieldAddr t x f =>
    split at he
    · rename_i hx; exact zWO (hk _ _ _ (by simp [Op.operands]) hx) he
    · cases he
  case indexAddr t x i =>
    split at he
    · rename_i hx _; exact zWN (hk _ _ _ (by simp [Op.operands]) hx) he
    · cases he
  case lookup t x i ok =>
    split at he
    · rename_i hx _; exact z31 (hk _ _ _ (by simp [Op.operands]) hx) he
    · cases he
  case call c =>
    obtain ⟨callee,args,argTypes⟩:=c
    simp only [znC] at hs
    split at hs
    · rw [zYY] at he ⊢
      simp only [hrd] at he ⊢
      split at he
      · split at he
        · rename_i hx
          exact qbP (hk _ _ _ (by
            rename_i e1 _ _ _
            simp only [Op.operands,Call.operands]
            have:args = #[_]:=Array.toList_inj.1 e1
            simp [this]) hx) he
        · cases he
      · cases he
    · cases hs
end
end Go.Ev
end
section
namespace Go.Ev
open Go.RowKit
section
variable {P:Program} {nt:Nat} {F0 F G:FH} {w0 w:World} {st st':St} {m:MM} {a:Act} {E:Env} {v:AV} {u:Value} {R:Type}
def Inv (P:Program) (nt:Nat) (F0:FH) (w0:World) (st:St) (a:Act) (w:World):Prop:=∃ m F,Rel P nt F0 w0 st m F a w
theorem zF1 {ops:Array Oper} {o:Oper} {b:Bool} (h:Rel P nt F0 w0 st m F a w) (hg:zo6 ops.toList st.fr o = some b):Region.wanted o (yielded ops a.tmps) = b:=by
  unfold zo6 at hg
  unfold Region.wanted
  cases hgd:o.guard with
  | none=>rw [hgd] at hg; simpa using hg
  | some gw =>
    obtain ⟨g,want⟩:=gw
    rw [hgd] at hg
    simp only at hg ⊢
    have hd:zJ0 ops.toList g = (ops[g]?).bind (·.dst):=by unfold zJ0; rw [jg,Array.getElem?_toList]
    rw [hd] at hg
    unfold yielded
    cases ht:(ops[g]?).bind (·.dst) with
    | none=>rw [ht] at hg; cases hg
    | some d =>
      rw [ht] at hg
      simp only [Option.bind_some] at hg ⊢
      cases hl:look st.fr d with
      | none=>rw [hl] at hg; cases hg
      | some x =>
        rw [hl] at hg
        have hr:=h.fr d x hl
        split at hg
        · rename_i y hy
          cases hy
          cases hg
          have:=zq.bool (st:=st) hr
          cases hT:a.tmps[d]? with
          | none=>simp [hT,undef] at this
          | some z=>simp [hT] at this; subst this; simp
        · rename_i hy
          cases hy
          cases hg
          obtain ⟨arr,e,_⟩:=hr
          cases hT:a.tmps[d]? with
          | none=>simp
          | some z=>simp [hT] at e; subst e; simp
        · cases hg
theorem zYZ {o:Oper} (h:zYu E o = true):∀ d,o.dst = some d→d < E.nt:=by
  intro d hd
  unfold zYu at h
  rw [hd] at h
  simp only [Nat.blt_eq] at h
  exact h
theorem qda {x y:Option R} {r:R} (h:both x y = some r):x = some r ∧ y = some r:=by
  unfold both at h
  split at h
  · rename_i e; exact ⟨h,e ▸ h⟩
  · cases h
theorem qdb (x:Option R):both x x = x:=by unfold both; rw [if_pos rfl]
theorem qdc {o:Oper} {k:AV→St→Option R} {r:R} (hE:qv P G E) (hG:G.le F0) (h:Rel P nt F0 w0 st m F a w) (he:qbj E o.op o.type st k = some r) :
    (∃ p,zcT false E o.op o.type st pk = some p ∧ k p.1 p.2 = some r) ∨ ∃ b:Bool,(execOp a.eval o).run P w = .ok (.value (.bool b)) w ∧ k (.dat .bool b) st = some r:=by
  obtain ⟨dst,op,ty,pos,after,guard⟩:=o
  simp only at he ⊢
  unfold qbj at he
  split at he
  · split at he
    · rename_i t X Y ty' _ _ τ xs hY hX
      right
      obtain ⟨h1,he⟩:=zf he
      have hr:=zM hE hG h hX
      obtain ⟨e,hu,_⟩:=(hE.types t _ (Env.is_spec h1)).sl
      obtain ⟨ad,cap,hp,_,hm⟩:=hr.sl
      have hq:a.eval Y = .slice none 0 0:=zLB hY
      have hb:∀ b:Bool,(ad.isNone = b)→(execOp a.eval ⟨dst,.binOp .eql t X Y ty',ty,pos,after,guard⟩).run P w = .ok (.value (.bool b)) w:=by
        intro b hb
        simp only [execOp]
        refine qt ?_
        rw [hp,hq]
        simp only [Sem.run_bind,yH .eql t X Y (p:=.slice ad (List.length xs) cap) rfl,Result.andThen_ok]
        have h:∀ k,(Op.equalIn (k + 1) t (.slice ad (List.length xs) cap) (.slice none 0 0)).run P w = .ok b w:=fun k=>by
          subst hb
          cases ad <;> simp [Op.equalIn,zt hu]
        have hrun:(Op.equal t (.slice ad (List.length xs) cap) (.slice none 0 0)).run P w = .ok b w:=h 9999
        simp [binOp,hrun]
      cases hxs:List.isEmpty xs with
      | true =>
        rw [hxs] at he
        obtain ⟨e1,e2⟩:=qda he
        refine ⟨ad.isNone,hb _ rfl,?_⟩
        cases ad.isNone
        · exact e2
        · exact e1
      | false =>
        rw [hxs] at he
        obtain ⟨d,cc,rfl,_⟩:=hm (by rintro rfl; simp at hxs)
        exact ⟨false,hb _ rfl,he⟩
    · left
      rw [ztD] at he
      exact Option.bind_eq_some_iff.1 he
  · left
    rw [ztD] at he
    exact Option.bind_eq_some_iff.1 he
theorem qdd {ops:Array Oper} {Q:Exit→Act→World→Prop} {k:St→Option R} {r:R} (hE:qv P G E) (hG:G.le F0) (hnt:E.nt = nt)
    (hQ:∀ st a w,Inv P nt F0 w0 st a w→k st = some r→Q .normal a w) :
    ∀ (rest pre:List Oper) (st:St) (a:Act) (w:World),ops.toList = pre ++ rest→Inv P nt F0 w0 st a w→zYv E ops.toList rest st k = some r→wpOps P ops Q (List.range' pre.length rest.length) a w:=by
  intro rest
  induction rest with
  | nil=>intro pre st a w _ hi he; exact hQ st a w hi he
  | cons o rest ih =>
    intro pre st a w hp ⟨m,F,h⟩ he
    have hget:ops[pre.length]? = some o:=by rw [← Array.getElem?_toList,hp]; simp
    simp only [zYv] at he
    obtain ⟨hd,he⟩:=zf he
    have hd':∀ d,o.dst = some d→d < nt:=fun d h=>hnt ▸ zYZ hd d h
    cases hg:zo6 ops.toList st.fr o with
    | none=>rw [hg] at he; cases he
    | some b =>
      rw [hg] at he
      have hw:=zF1 h hg
      simp only [List.length_cons,List.range'_succ]
      unfold wpOps
      simp only [hget,hw]
      have hnext:=ih (pre ++ [o])
      simp only [List.length_append,List.length_cons,List.length_nil,List.append_assoc,List.singleton_append] at hnext
      cases b with
      | false =>
        simp only [Bool.false_eq_true,if_false]
        exact hnext _ _ _ hp ⟨m,F,h.put hd' zbo⟩ he
      | true =>
        simp only [if_true]
        left
        simp only [cond_true] at he
        rcases qdc hE hG h he with ⟨⟨v,st'⟩,h1,h2⟩ | ⟨b,h1,h2⟩
        · refine zWK hE hG h h1 _ _ ?_
          rintro u w' ⟨m',F',_,h3,h4⟩
          exact hnext _ _ _ hp ⟨m',F',h3.put hd' h4⟩ h2
        · refine jl.val (R:=fun u' w'=>u' = .bool b ∧ w' = w) h1 ⟨rfl,rfl⟩ _ _ ?_
          rintro u' w' ⟨rfl,rfl⟩
          exact hnext _ _ _ hp ⟨m,F,h.put (v:=.dat .bool b) hd' (show qB P F .bool b (.bool b) from ⟨rfl,rfl⟩)⟩ h2
end
end Go.Ev
end
section
namespace Go.Ev
open Go.RowKit
section
variable {R:Type} {E:Env}
def zY0 (E:Env) (all:List Oper) (s s1:St) (o:Oper) (v:AV) (d:Did):Prop :=
  zYu E o = true ∧ s1.fr = (s.put o.dst v).fr ∧
  ((zo6 all s.fr o = some false ∧ v = .tup [] ∧ s1.h = s.h ∧ d.rd = false ∧ d.wr = false ∧ d.ch = false) ∨
   (zo6 all s.fr o = some true ∧
    ((∃ fr' v0 st',zqr s (zmI o) = (fr',true,d.rd) ∧ zcT false E o.op o.type ⟨fr',[]⟩ pk = some (v0,st') ∧ v = v0.shT s.h.length ∧ s1.h = s.h ++ st'.h.map (Obj.sh s.h.length) ∧ d.wr = !isNil st'.h ∧ d.ch = false ∧ d.lk = zvN s o) ∨
     (∃ st',znC o.op = true ∧ zcT false E o.op o.type s pk = some (v,st') ∧ s1.h = st'.h ∧ d.rd = true ∧ d.wr = false ∧ d.ch = false ∧ d.lk = zvN s o) ∨
     (∃ st',zcT false E o.op o.type s pk = some (v,st') ∧ s1.h = st'.h ∧ d.rd = true ∧ d.wr = true ∧ d.ch = true ∧ d.cg = z1j E s o.op) ∨
     (∃ a vs z,z6j E o.op s = some (a,vs,z) ∧ v = .fld a vs ∧ s1.h = s.h ++ z ∧ d.rd = true ∧ d.wr = !isNil z ∧ d.ch = false ∧ d.lk = zvN s o))))
def Apt (e d:Did):Prop:=(e.ch = true→d.wr = false ∧ (d.rd = true→apart e.cg d.lk = true)) ∧ (d.ch = true→e.wr = false ∧ (e.rd = true→apart d.cg e.lk = true))
def Ok (bs:List Nat) (e d:Did):Prop:=Nat.testBit ((atN bs d.i).getD 0) e.i = true ∨ Apt e d
theorem zqy {bj:Nat} {d:Did}:∀ {l:List Did},zJ2 bj d l = true→∀ e ∈ l,Nat.testBit bj e.i = true ∨ Apt e d
  | [],_,e,he=>by simp at he
  | x :: l,h,e,he=>by
    simp only [zJ2] at h
    cases hb:Nat.testBit bj x.i with
    | true =>
      rw [hb] at h
      rcases List.mem_cons.1 he with rfl | he
      · exact .inl hb
      · exact zqy h e he
    | false =>
      rw [hb] at h
      simp only [cond_false] at h
      cases h1:(x.ch && (d.wr || (d.rd && !apart x.cg d.lk))) with
      | true=>rw [h1] at h; cases h
      | false =>
        rw [h1] at h
        simp only [cond_false] at h
        cases h2:(d.ch && (x.wr || (x.rd && !apart d.cg x.lk))) with
        | true=>rw [h2] at h; cases h
        | false =>
          rw [h2] at h
          rcases List.mem_cons.1 he with rfl | he
          · refine .inr ⟨fun hx=>?_,fun hx=>?_⟩
            · rw [hx] at h1
              simp only [Bool.true_and,Bool.or_eq_false_iff,Bool.and_eq_false_iff,Bool.not_eq_false'] at h1
              exact ⟨h1.1,fun hr=>by rw [hr] at h1; simpa using h1.2⟩
            · rw [hx] at h2
              simp only [Bool.true_and,Bool.or_eq_false_iff,Bool.and_eq_false_iff,Bool.not_eq_false'] at h2
              exact ⟨h2.1,fun hr=>by rw [hr] at h2; simpa using h2.2⟩
          · exact zqy h e he
theorem Apt.idle {e d:Did} (h1:d.rd = false) (h2:d.wr = false) (h3:d.ch = false):Apt e d:=⟨fun _=>⟨h2,fun h=>(by rw [h1] at h; cases h)⟩,fun h=>(by rw [h3] at h; cases h)⟩
theorem Apt.idle' {e d:Did} (h1:d.rd = false) (h2:d.wr = false) (h3:d.ch = false):Apt d e:=⟨fun h=>(by rw [h3] at h; cases h),fun _=>⟨h2,fun h=>(by rw [h1] at h; cases h)⟩⟩
theorem z3G {all:List Oper} {bs:List Nat} {k:St→Option R} {r:R}:∀ (rest:List Oper) (j:Nat) (seen:List Did) (st:St),evD E all bs rest j seen st k = some r →
    ∃ (S:Nat→St) (V:Nat→AV) (D:Nat→Did),S j = st ∧ k (S (j + rest.length)) = some r ∧ (∀ i,(D i).i = i) ∧
      (∀ i o,rest[i]? = some o→zY0 E all (S (j + i)) (S (j + i + 1)) o (V (j + i)) (D (j + i))) ∧
      (∀ i,i < rest.length→∀ e ∈ seen,Ok bs e (D (j + i))) ∧
      (∀ i i',i < i'→i' < rest.length→Ok bs (D (j + i)) (D (j + i')))
  | [],j,seen,st,h=>⟨fun _=>st,fun _=>.dead,fun i=>⟨i,false,false,false,[],none⟩,rfl,h,fun _=>rfl,by simp,by simp,by simp⟩
  | o :: rest,j,seen,st,h=>by
    have key:∀ (s1:St) (v:AV) (d:Did) (seen':List Did),zY0 E all st s1 o v d→d.i = j→(∀ e ∈ seen,Ok bs e d)→(seen' = d :: seen ∨ (seen' = seen ∧ d.rd = false ∧ d.wr = false ∧ d.ch = false))→evD E all bs rest (j + 1) seen' s1 k = some r →
        ∃ (S:Nat→St) (V:Nat→AV) (D:Nat→Did),S j = st ∧ k (S (j + (o :: rest).length)) = some r ∧ (∀ i,(D i).i = i) ∧
          (∀ i o',(o :: rest)[i]? = some o'→zY0 E all (S (j + i)) (S (j + i + 1)) o' (V (j + i)) (D (j + i))) ∧
          (∀ i,i < (o :: rest).length→∀ e ∈ seen,Ok bs e (D (j + i))) ∧
          (∀ i i',i < i'→i' < (o :: rest).length→Ok bs (D (j + i)) (D (j + i'))):=by
      intro s1 v d seen' hs hd ho hse he
      obtain ⟨S,V,D,h1,h2,h3,h4,h5,h6⟩:=z3G rest (j + 1) seen' s1 he
      have hne:∀ i,j + 1 + i ≠ j:=fun i=>by omega
      have hS:∀ i,(if j + (i + 1) = j then st else S (j + (i + 1))) = S (j + 1 + i):=fun i=>by rw [if_neg (by omega),show j + (i + 1) = j + 1 + i by omega]
      have hV:∀ i,(if j + (i + 1) = j then v else V (j + (i + 1))) = V (j + 1 + i):=fun i=>by rw [if_neg (by omega),show j + (i + 1) = j + 1 + i by omega]
      have hD:∀ i,(if j + (i + 1) = j then d else D (j + (i + 1))) = D (j + 1 + i):=fun i=>by rw [if_neg (by omega),show j + (i + 1) = j + 1 + i by omega]
      refine ⟨fun i=>if i = j then st else S i,fun i=>if i = j then v else V i,fun i=>if i = j then d else D i,by simp,?_,?_,?_,?_,?_⟩
      · simp only [List.length_cons,hS]; exact h2
      · intro i
        by_cases e:i = j
        · subst e; simp [hd]
        · simp [e,h3]
      · intro i o' hi
        cases i with
        | zero =>
          simp only [List.getElem?_cons_zero,Option.some.injEq] at hi
          subst hi
          simp only [Nat.add_zero,if_true]
          rw [if_neg (by omega),h1]
          exact hs
        | succ i =>
          rw [List.getElem?_cons_succ] at hi
          have:=h4 i o' hi
          simp only [hS,hV,hD]
          rw [if_neg (by omega),show j + (i + 1) + 1 = j + 1 + i + 1 by omega]
          exact this
      · intro i hi e hes
        cases i with
        | zero=>simp only [Nat.add_zero,if_true]; exact ho e hes
        | succ i =>
          simp only [hD]
          refine h5 i (by simpa using hi) e ?_
          rcases hse with rfl | ⟨rfl,_⟩
          · exact List.mem_cons_of_mem _ hes
          · exact hes
      · intro i i' hii hi'
        cases i' with
        | zero=>omega
        | succ i' =>
          simp only [hD]
          cases i with
          | zero =>
            simp only [Nat.add_zero,if_true]
            rcases hse with rfl | ⟨_,g1,g2,g3⟩
            · exact h5 i' (by simpa using hi') d (by simp)
            · exact .inr (Apt.idle' g1 g2 g3)
          | succ i =>
            simp only [hD]
            exact h6 i i' (by omega) (by simpa using hi')
    simp only [evD] at h
    obtain ⟨hdst,h⟩:=zf h
    cases hg:zo6 all st.fr o with
    | none=>rw [hg] at h; cases h
    | some b =>
      rw [hg] at h
      simp only at h
      cases b with
      | false =>
        simp only [cond_false] at h
        refine key _ (.tup []) ⟨j,false,false,false,[],none⟩ seen ⟨hdst,rfl,.inl ⟨hg,rfl,?_,rfl,rfl,rfl⟩⟩ rfl (fun e _=>.inr (Apt.idle rfl rfl rfl)) (.inr ⟨rfl,rfl,rfl,rfl⟩) h
        cases o.dst <;> rfl
      | true =>
        simp only [cond_true] at h
        cases hpu:(zqr st (zmI o)).2.1 with
        | true =>
          rw [hpu] at h
          simp only [cond_true] at h
          rw [ztD] at h
          obtain ⟨⟨v0,st'⟩,h1,h2⟩:=Option.bind_eq_some_iff.1 h
          obtain ⟨h3,h4⟩:=zf h2
          have hord:=zqy h3
          refine key _ (v0.shT st.h.length) ⟨j,(zqr st (zmI o)).2.2,!isNil st'.h,false,zvN st o,none⟩ _ ⟨hdst,?_,.inr ⟨hg,.inl ⟨(zqr st (zmI o)).1,v0,st',by rw [← hpu],h1,rfl,?_,rfl,rfl,rfl⟩⟩⟩ rfl hord (.inl rfl) h4
          · cases o.dst <;> rfl
          · cases o.dst <;> rfl
        | false =>
          rw [hpu] at h
          simp only [cond_false] at h
          cases hb:z6j E o.op st with
          | some q =>
            obtain ⟨a,vs,z⟩:=q
            rw [hb] at h
            simp only at h
            obtain ⟨h3,h⟩:=zf h
            have hord:=zqy h3
            refine key _ (.fld a vs) ⟨j,true,!isNil z,false,zvN st o,none⟩ _ ⟨hdst,?_,.inr ⟨hg,.inr (.inr (.inr ⟨a,vs,z,hb,rfl,?_,rfl,rfl,rfl,rfl⟩))⟩⟩ rfl hord (.inl rfl) h
            · cases o.dst <;> rfl
            · cases o.dst <;> rfl
          | none =>
          rw [hb] at h
          simp only at h
          cases hs:znC o.op with
          | true =>
            rw [hs] at h
            simp only [cond_true] at h
            obtain ⟨h3,h⟩:=zf h
            have hord:=zqy h3
            rw [ztD] at h
            obtain ⟨⟨v0,st'⟩,h1,h2⟩:=Option.bind_eq_some_iff.1 h
            have hf:=zYX h1
            refine key _ v0 ⟨j,true,false,false,zvN st o,none⟩ _ ⟨hdst,?_,.inr ⟨hg,.inr (.inl ⟨st',hs,h1,?_,rfl,rfl,rfl,rfl⟩)⟩⟩ rfl hord (.inl rfl) h2
            · cases o.dst <;> simp [St.put,hf]
            · cases o.dst <;> rfl
          | false =>
            rw [hs] at h
            simp only [cond_false] at h
            obtain ⟨h3,h⟩:=zf h
            have hord:=zqy h3
            rw [ztD] at h
            obtain ⟨⟨v0,st'⟩,h1,h2⟩:=Option.bind_eq_some_iff.1 h
            have hf:=zYX h1
            refine key _ v0 ⟨j,true,true,true,[],z1j E st o.op⟩ _ ⟨hdst,?_,.inr ⟨hg,.inr (.inr (.inl ⟨st',h1,?_,rfl,rfl,rfl,rfl⟩))⟩⟩ rfl hord (.inl rfl) h2
            · cases o.dst <;> simp [St.put,hf]
            · cases o.dst <;> rfl
theorem qde {x:Nat} {u:Obj}:∀ {b:Ty} {vs:List AV} {h:List Obj} {r:b.I × List Obj},z1h b vs h = some r→atN h x = some u→x ∉ vs.flatMap AV.ids1→atN r.2 x = some u:=by
  intro b
  induction b with
  | unit=>intro vs h r hz hx _; cases vs with
    | nil=>cases hz; exact hx
    | cons _ _=>cases hz
  | pair a b _ ihb =>
    intro vs h r hz hx hn
    cases vs with
    | nil=>cases hz
    | cons v vs =>
      simp only [z1h] at hz
      split at hz
      · rename_i y h1 hy
        split at hz
        · rename_i ys h2 hys
          cases hz
          simp only [List.flatMap_cons,List.mem_append,not_or] at hn
          refine ihb hys ?_ hn.2
          unfold zSM at hy
          split at hy
          · obtain ⟨_,hy⟩:=zdS hy
            split at hy
            · cases hy; exact hx
            · cases hy
          · rename_i id
            split at hy
            · split at hy
              · cases hy
                have:id ≠ x:=fun e=>hn.1 (by simp [AV.ids1,e])
                rw [jV this]; exact hx
              · cases hy
            · cases hy
          · cases hy
        · cases hz
      · cases hz
  | _=>intro vs h r hz; cases vs <;> cases hz
theorem qdf {x:Nat} {u:Obj} {σ:Ty} {v:AV} {h:List Obj} {r:σ.I × List Obj} (hz:zWD σ v h = some r) (hx:atN h x = some u) (hn:x ∉ v.ids):atN r.2 x = some u:=by
  unfold zWD at hz
  split at hz
  · rename_i a b vs
    obtain ⟨_,hz⟩:=zf hz
    exact qde (b:=a) (r:=r) hz hx hn
  · rename_i τ id
    unfold zSM at hz
    simp only at hz
    split at hz
    · split at hz
      · cases hz
        have:id ≠ x:=fun e=>hn (by simp [AV.ids,AV.ids1,e])
        rw [jV this]; exact hx
      · cases hz
    · cases hz
  · cases hz
theorem qe4 {s st':St} {op:Op} {ty:TypeId} {v:AV} {l:List Nat} (hc:z1j E s op = some l) (he:zcT false E op ty s pk = some (v,st')) {x:Nat} {u:Obj} (hx:atN s.h x = some u) (hn:x ∉ l):atN st'.h x = some u:=by
  unfold z1j at hc
  split at hc
  · rename_i t ps
    split at hc
    · rename_i τ hτ
      split at hc
      · rename_i w hps
        split at hc
        · rename_i r hr
          cases hc
          simp only [zcT,hτ,hps,hr] at he
          obtain ⟨_,he⟩:=zf he
          cases he
          simp only
          refine zFO ?_
          unfold zYt at hr
          split at hr
          · rename_i heq
            cases heq
            exact qdf hr hx hn
          · cases hr
        · cases hc
      · cases hc
    · cases hc
  · cases hc
theorem qdg {acc:List Nat}:∀ {es:List Edge} {i:Nat},Nat.testBit (qbk acc es) i = true→∃ e ∈ es,Region.binds .any e = true ∧ (e.on = i ∨ ∃ b,atN acc e.on = some b ∧ Nat.testBit b i = true):=by
  have key:∀ (es:List Edge) (s i:Nat),Nat.testBit (es.foldl (fun s e=>cond (Region.binds .any e) ((s ||| 2 ^ e.on) ||| (atN acc e.on).getD 0) s) s) i = true→Nat.testBit s i = true ∨ ∃ e ∈ es,Region.binds .any e = true ∧ (e.on = i ∨ ∃ b,atN acc e.on = some b ∧ Nat.testBit b i = true):=by
    intro es
    induction es with
    | nil=>intro s i h; exact .inl h
    | cons e es ih =>
      intro s i h
      rw [List.foldl_cons] at h
      rcases ih _ _ h with h1 | ⟨e',he',h1⟩
      · cases hb:Region.binds .any e with
        | false=>rw [hb] at h1; exact .inl h1
        | true =>
          rw [hb] at h1
          simp only [cond_true,Nat.testBit_or,Bool.or_eq_true] at h1
          rcases h1 with (h1 | h1) | h1
          · exact .inl h1
          · rw [Nat.testBit_two_pow] at h1
            exact .inr ⟨e,by simp,hb,.inl (by simpa using h1)⟩
          · cases ha:atN acc e.on with
            | none=>rw [ha] at h1; simp at h1
            | some b=>rw [ha] at h1; exact .inr ⟨e,by simp,hb,.inr ⟨b,ha,h1⟩⟩
      · exact .inr ⟨e',by simp [he'],h1⟩
  intro es i h
  rcases key es 0 i h with h1 | h1
  · simp at h1
  · exact h1
theorem qbQ:∀ (l:List Oper) (acc:List Nat) (j:Nat) (o:Oper),l[j]? = some o→∃ acc',atN (zBb l acc) (acc.length + j) = some (qbk acc' o.after.toList) ∧ ∀ x b,atN acc' x = some b→atN (zBb l acc) x = some b:=by
  have pre:∀ (l:List Oper) (acc:List Nat) (x b:Nat),atN acc x = some b→atN (zBb l acc) x = some b:=by
    intro l
    induction l with
    | nil=>intro acc x b h; exact h
    | cons o l ih=>intro acc x b h; exact ih _ _ _ (zFO h)
  intro l
  induction l with
  | nil=>intro acc j o h; simp at h
  | cons u l ih =>
    intro acc j o h
    cases j with
    | zero =>
      simp only [List.getElem?_cons_zero,Option.some.injEq] at h
      subst h
      refine ⟨acc,?_,fun x b hx=>pre l _ x b (zFO hx)⟩
      refine pre l _ _ _ ?_
      rw [jg]; simp
    | succ j =>
      rw [List.getElem?_cons_succ] at h
      obtain ⟨acc',h1,h2⟩:=ih (acc ++ [qbk acc u.after.toList]) j o h
      refine ⟨acc',?_,h2⟩
      simp only [List.length_append,List.length_cons,List.length_nil] at h1
      rw [show acc.length + (j + 1) = acc.length + (0 + 1) + j by omega]
      exact h1
theorem zF2 {t:Nat}:∀ {l:List Nat},zLx t l = true ↔ t ∈ l
  | []=>by simp [zLx]
  | x :: l=>by
    simp only [zLx,List.mem_cons]
    by_cases e:x = t
    · subst e; simp [beq_self]
    · rw [zh5 e,cond_false,zF2]
      exact ⟨.inr,fun h=>h.resolve_left fun h'=>e h'.symm⟩
theorem zvP {bj j:Nat} {o:Oper}:∀ {l:List Oper} {i0:Nat},zFL bj j o l i0 = true→∀ i u d,l[i]? = some u→u.dst = some d→(i0 + i = j ∨ o.dst ≠ some d) ∧ (d ∈ zmI o→Nat.testBit bj (i0 + i) = true ∧ i0 + i < j)
  | [],_,_,i,u,d,hi,_=>by simp at hi
  | x :: l,i0,h,i,u,d,hi,hd=>by
    simp only [zFL,Bool.and_eq_true] at h
    cases i with
    | zero =>
      simp only [List.getElem?_cons_zero,Option.some.injEq] at hi
      subst hi
      rw [hd] at h
      simp only [Bool.and_eq_true,Bool.or_eq_true,Bool.not_eq_true'] at h
      obtain ⟨⟨h1,h2⟩,_⟩:=h
      refine ⟨?_,fun hm=>?_⟩
      · rcases h1 with h1 | h1
        · exact .inl (Nat.eq_of_beq_eq_true h1)
        · right
          intro he
          rw [he] at h1
          simp [beq_self] at h1
      · rcases h2 with h2 | h2
        · rw [zF2.2 hm] at h2; cases h2
        · exact ⟨h2.1,by simpa using h2.2⟩
    | succ i =>
      rw [List.getElem?_cons_succ] at hi
      have:=zvP h.2 i u d hi hd
      rw [show i0 + (i + 1) = i0 + 1 + i by omega]
      exact this
theorem zBd {bs:List Nat} {all:List Oper} (h:zYw bs all = true) {j:Nat} {o:Oper} (hj:all[j]? = some o) :
    zFL ((atN bs j).getD 0) j o all 0 = true ∧ (∀ g b,o.guard = some (g,b)→Nat.testBit ((atN bs j).getD 0) g = true ∧ g < j) ∧ ∀ e ∈ o.after.toList,Region.binds .any e = true→e.on < j:=by
  have key:∀ (l:List Oper) (j0 j:Nat) (o:Oper),zJ1 bs all l j0 = true→l[j]? = some o→zFL ((atN bs (j0 + j)).getD 0) (j0 + j) o all 0 = true ∧ (∀ g b,o.guard = some (g,b)→Nat.testBit ((atN bs (j0 + j)).getD 0) g = true ∧ g < j0 + j) ∧ ∀ e ∈ o.after.toList,Region.binds .any e = true→e.on < j0 + j:=by
    intro l
    induction l with
    | nil=>intro j0 j o _ h; simp at h
    | cons x l ih =>
      intro j0 j o h hj
      simp only [zJ1,Bool.and_eq_true] at h
      cases j with
      | zero =>
        simp only [List.getElem?_cons_zero,Option.some.injEq] at hj
        subst hj
        obtain ⟨⟨⟨h1,h2⟩,h3⟩,_⟩:=h
        refine ⟨h1,fun g b hg=>?_,fun e he hb=>?_⟩
        · rw [hg] at h2
          simp only [Bool.and_eq_true,Nat.blt_eq] at h2
          exact h2
        · have:=List.all_eq_true.1 h3 e he
          simp only [hb,Bool.not_true,Bool.false_or,Nat.blt_eq] at this
          exact this
      | succ j =>
        rw [List.getElem?_cons_succ] at hj
        have:=ih (j0 + 1) j o h.2 hj
        rw [show j0 + (j + 1) = j0 + 1 + j by omega]
        exact this
  have:=key all 0 j o h hj
  simpa using this
end
end Go.Ev
end
section
namespace Go.Ev
open Go.RowKit
section
variable {P:Program} {nt:Nat} {F0 F G:FH} {w0 w:World} {st st':St} {m:MM} {a:Act} {E:Env} {v:AV} {u:Value} {R:Type}
theorem zY1 {τ:Ty} {x:τ.I} (hz:yf true st v = some ⟨τ,x,st'⟩) (h:Rel P nt F0 w0 st m F a w) (hv:qR P st.h m F v u):qB P F τ x u:=by
  cases v with
  | dat τ' y =>
    simp only [yf,Option.some.injEq] at hz
    cases hz
    exact hv
  | clip τ' ys =>
    simp only [yf,Option.some.injEq] at hz
    cases hz
    obtain ⟨ad,rfl,h1⟩:=hv
    exact ⟨⟨ad,_,rfl,Nat.le_refl _,h1⟩,rfl⟩
  | ow id =>
    simp only [yf] at hz
    split at hz
    · rename_i σ xs ho
      cases hz
      have hu:=qR.owAt ho rfl hv
      cases hmi:m id with
      | none =>
        rw [hmi] at hu
        obtain ⟨hl,ad,rfl⟩:=hu
        obtain rfl:=List.length_eq_zero_iff.1 hl
        exact .sl_nil
      | some bn =>
        obtain ⟨b,n⟩:=bn
        rw [hmi] at hu
        obtain ⟨cap,hn,hcap,rfl⟩:=hu
        obtain ⟨el,fr,cs,c,d,h1,h2,h3,h4,h5⟩:=h.row ho hmi
        exact .sl_of_row h5 h3 h4 hcap
    · cases hz
    · cases hz
    · cases hz
  | bp id p =>
    cases p with
    | cons _ _=>simp [yf] at hz
    | nil =>
      simp only [yf] at hz
      split at hz
      · rename_i σ y ho
        cases hz
        obtain ⟨b,n,off,hmi,rfl,ρ,h3⟩:=(show zq P st.h m F (.bp id []) u from hv).bpAt ho
        simp only [jo,Option.some.injEq,Prod.mk.injEq] at h3
        obtain ⟨rfl,rfl⟩:=h3
        obtain ⟨b',n',el,fr,cs,h4,h5,h6,h7⟩:=h.obs id _ ho
        rw [hmi] at h4
        cases h4
        exact ⟨⟨_,_,rfl,⟨rfl,cs,h7,fun j v hj=>by rw [Nat.zero_add,← Array.getElem?_toList]; exact hj⟩,h6⟩,rfl⟩
      · cases hz
      · cases hz
  | _=>simp [yf] at hz
theorem qe5 {σ:Ty} {x:σ.I} {c:List Value} (hz:zeW true σ st v = some (x,st')) (h:Rel P nt F0 w0 st m F a w) (hv:zb4 P st.h m F σ v c):Rep P F σ x c ∧ st' = st:=by
  have hsame:=(zVZ (zy5.refl _ _) hz).2
  simp only at hsame
  unfold zeW at hz
  split at hz
  · rename_i τ y st1 hz1
    split at hz
    · rename_i z hc
      cases hz
      obtain ⟨rfl,rfl⟩:=qo hc
      refine ⟨?_,hsame⟩
      cases v with
      | dat τ' y' =>
        simp only [yf,Option.some.injEq] at hz1
        cases hz1
        exact hv.2
      | ow id =>
        obtain ⟨ρ,u,rfl,rfl,h1,_,ad,l,cc,rfl⟩:=hv
        have:=(zY1 hz1 h h1).1
        simpa [Value.cells] using this
      | _=>exact hv.elim
    · cases hz
  · cases hz
theorem qeh:∀ {b:Ty} {vs:List AV} {x:b.I} {cs:List Value} {st st':St},yE true b vs st = some (x,st')→Rel P nt F0 w0 st m F a w→qO P st.h m F b vs cs→Rep P F b x cs:=by
  intro b
  induction b with
  | unit =>
    intro vs x cs st st' hz h hv
    cases vs with
    | nil=>exact hv
    | cons _ _=>exact hv.elim
  | pair a b _ ihb =>
    intro vs x cs st st' hz h hv
    cases vs with
    | nil=>exact hv.elim
    | cons v vs =>
      obtain ⟨c,d,e,h1,h2⟩:=hv
      simp only [yE] at hz
      split at hz
      · rename_i y st1 hy
        split at hz
        · rename_i ys st2 hys
          cases hz
          obtain ⟨g1,rfl⟩:=qe5 hy h h1
          exact ⟨c,d,e,g1,ihb hys h h2⟩
        · cases hz
      · cases hz
  | _=>intro vs x cs st st' hz h hv; cases vs <;> exact hv.elim
theorem qf9 {τ:Ty} {x:τ.I} (hz:frz true st v = some ⟨τ,x,st'⟩) (h:Rel P nt F0 w0 st m F a w) (hv:zq P st.h m F v u):qB P F τ x u:=by
  cases v with
  | fld b vs =>
    simp only [frz] at hz
    split at hz
    · rename_i y st1 hy
      cases hz
      obtain ⟨cs,rfl,h1⟩:=(show qf P st.h m F (.fld b vs) u from hv)
      exact ⟨qeh (b:=b) hy h h1,rfl⟩
    · cases hz
  | dat τ x=>exact zY1 (v:=.dat τ x) hz h hv
  | clip τ x=>exact zY1 (v:=.clip τ x) hz h hv
  | bp id p=>exact zY1 (v:=.bp id p) hz h hv
  | ow id=>exact zY1 (v:=.ow id) hz h hv
  | _=>cases hz
theorem qbR {h k:List Obj} {fr:List (Nat × AV)} (hr:Rel P nt F0 w0 ⟨fr,k⟩ m F a w) (hs:Sup h k v) (hv:zq P k m F v u):zq P k m F (zo7 h v).1 u:=by
  unfold zo7
  cases hp:v.pure with
  | true=>exact hv
  | false =>
    simp only [cond_false]
    split
    · rename_i τ x s hz
      have h1:=(qef (st:=⟨[],h⟩) (k:=k) hs hz).1
      exact qf9 (st:=⟨[],k⟩) h1 (hr.frames (fr:=[]) (fun t v ht=>by simp [look] at ht)) hv
    · exact hv
theorem z9l {h:List Obj} (hp:(zo7 h v).2 = false):(zo7 h v).1 = v:=by
  unfold zo7 at hp ⊢
  cases hq:v.pure with
  | true=>rfl
  | false =>
    rw [hq] at hp
    simp only [cond_false] at hp
    split at hp <;> cases hp
theorem zPA {s:St}:∀ {l:List Nat} {fr':List (Nat × AV)} {pu rs:Bool},zqr s l = (fr',pu,rs) →
    ∀ t v',look fr' t = some v'→t ∈ l ∧ ∃ v,look s.fr t = some v ∧ v' = (zo7 s.h v).1 ∧ (rs = false→v' = v) ∧ (pu = true→v'.pure = true)
  | [],_,_,_,h,t,v',ht=>by cases h; simp [look] at ht
  | x :: l,fr',pu,rs,h,t,v',ht=>by
    simp only [zqr] at h
    cases hx:look s.fr x with
    | none =>
      rw [hx] at h
      obtain ⟨h1,h2⟩:=zPA h t v' ht
      exact ⟨List.mem_cons_of_mem _ h1,h2⟩
    | some v =>
      rw [hx] at h
      simp only [Prod.mk.injEq] at h
      obtain ⟨rfl,rfl,rfl⟩:=h
      by_cases e:x = t
      · subst e
        simp only [look,beq_self,cond_true,Option.some.injEq] at ht
        subst ht
        refine ⟨by simp,v,hx,rfl,fun hr=>?_,fun hp=>?_⟩
        · simp only [Bool.or_eq_false_iff] at hr
          exact z9l hr.1
        · simp only [Bool.and_eq_true] at hp
          exact hp.1
      · simp only [look,zh5 e,cond_false] at ht
        obtain ⟨h1,v2,h2,h3,h4,h5⟩:=zPA (Prod.ext rfl (Prod.ext rfl rfl):zqr s l = ((zqr s l).1,(zqr s l).2.1,(zqr s l).2.2)) t v' ht
        refine ⟨List.mem_cons_of_mem _ h1,v2,h2,h3,fun hr=>h4 ?_,fun hp=>h5 ?_⟩
        · simp only [Bool.or_eq_false_iff] at hr
          exact hr.2
        · simp only [Bool.and_eq_true] at hp
          exact hp.2
theorem zq.nowhere {h2:List Obj} {m2:MM} {n:Nat} (hv:zq P [] m F v u):zq P h2 m2 F (v.shT n) u:=by
  have key:∀ {x:AV} {y:Value},qf P [] m F x y→qf P h2 m2 F (x.sh n) y:=by
    intro x y hx
    have one:∀ {x:AV} {y:Value},qR P [] m F x y→qR P h2 m2 F (x.sh1 n) y:=by
      intro x y hx
      cases x with
      | dat τ z=>exact hx
      | clip τ z=>exact hx
      | dead=>trivial
      | tup vs=>exact hx.elim
      | fld b vs=>exact hx.elim
      | bp id p=>rcases hx with hg | ⟨b,n,o,off,h1,ho,_⟩ <;> simp_all [atN]
      | rp id i p=>rcases hx with hg | ⟨b,n,o,τ,len,off,σ,h1,ho,_⟩ <;> simp_all [atN]
      | ow id=>rcases hx with hg | ⟨o,τ,len,ho,_⟩ <;> simp_all [atN]
      | om id=>rcases hx with hg | ⟨b,n,κ,σ,es,h1,ho,_⟩ <;> simp_all [atN]
      | ds id i p=>obtain ⟨o,ho,_⟩:=hx; simp [atN] at ho
      | dp id i p j q=>obtain ⟨o,ho,_⟩:=hx; simp [atN] at ho
    have zPi:∀ {b:Ty} {vs:List AV} {cs:List Value},qO P [] m F b vs cs→qO P h2 m2 F b (vs.map (AV.sh1 n)) cs:=by
      intro b
      induction b with
      | unit=>intro vs cs hv; cases vs with
        | nil=>exact hv
        | cons _ _=>exact hv.elim
      | pair a b _ ihb =>
        intro vs cs hv
        cases vs with
        | nil=>exact hv.elim
        | cons v vs =>
          obtain ⟨c,d,e,h1,h2⟩:=hv
          refine ⟨c,d,e,?_,ihb h2⟩
          cases v with
          | dat τ x=>exact h1
          | ow id =>
            obtain ⟨σ,u,_,_,h3,_⟩:=h1
            rcases h3 with hg | ⟨o,τ,len,ho,_⟩
            · simp [atN] at hg
            · simp [atN] at ho
          | _=>exact h1.elim
      | _=>intro vs cs hv; cases vs <;> exact hv.elim
    cases x with
    | fld b vs=>obtain ⟨cs,e,h1⟩:=hx; exact ⟨cs,e,zPi h1⟩
    | tup vs=>exact hx.elim
    | dat τ z=>exact hx
    | clip τ z=>exact hx
    | dead=>trivial
    | bp id p=>exact one (x:=.bp id p) hx
    | rp id i p=>exact one (x:=.rp id i p) hx
    | ow id=>exact one (x:=.ow id) hx
    | om id=>exact one (x:=.om id) hx
    | ds id i p=>exact one (x:=.ds id i p) hx
    | dp id i p j q=>exact one (x:=.dp id i p j q) hx
  cases v with
  | tup vs =>
    obtain ⟨arr,e,h1,h3⟩:=hv
    refine ⟨arr,e,by simpa using h1,fun i x hx=>?_⟩
    rw [List.getElem?_map] at hx
    obtain ⟨y,hy,rfl⟩:=Option.map_eq_some_iff.1 hx
    obtain ⟨z,hz,hyz⟩:=h3 i y hy
    exact ⟨z,hz,key hyz⟩
  | _ =>
    rw [zq.eq1 (by intro vs e; cases e)] at hv
    exact zq.of1 (key hv)
def zBe (f:Nat→Bool):Nat→Nat
  | 0=>0
  | n + 1=>zBe f n + cond (f n) 0 1
theorem z3H {f:Nat→Bool}:∀ {n:Nat},zBe f n = 0→∀ i,i < n→f i = true
  | n + 1,h,i,hi=>by
    simp only [zBe] at h
    by_cases e:i = n
    · subst e
      cases hf:f i with
      | true=>rfl
      | false=>rw [hf] at h; simp at h
    · exact z3H (n:=n) (by omega) i (by omega)
theorem left_step {f g:Nat→Bool} {j:Nat}:∀ {n:Nat},f j = false→g j = true→(∀ i,i ≠ j→g i = f i)→zBe f n = zBe g n + (if j < n then 1 else 0)
  | 0,_,_,_=>by simp [zBe]
  | n + 1,h1,h2,h3=>by
    have ih:=left_step (n:=n) h1 h2 h3
    simp only [zBe]
    by_cases e:n = j
    · subst e
      simp only [h1,h2,cond_true,cond_false]
      simp at ih
      simp [ih]
    · rw [h3 n e,ih]
      by_cases h4:j < n
      · have h5:j < n + 1:=by omega
        simp only [if_pos h4,if_pos h5]
        generalize cond (f n) 0 1 = z
        omega
      · have h5:¬ j < n + 1:=by omega
        simp only [if_neg h4,if_neg h5]
        generalize cond (f n) 0 1 = z
        omega
theorem z3I {f:Nat→Bool}:∀ {n:Nat},(∀ i,i < n→f i = false)→zBe f n = n
  | 0,_=>rfl
  | n + 1,h=>by
    have ih:=z3I (n:=n) (fun i hi=>h i (by omega))
    simp only [zBe,ih,h n (by omega),cond_false]
theorem qbS {q:Bool} {op:Op} {ty:TypeId} (hs:znC op = true) (he:zcT q E op ty st pk = some (v,st')):st' = st:=by
  have:=z3F (k:=st.h) hs (fun x θ v _ _=>zy5.refl _ _) he
  rw [show more st.h st = st from rfl,he] at this
  cases this
  rfl
structure Hol (n:Nat) (S:Nat→St) (D:Nat→Did) (done:Nat→Bool) (c e:Nat) (H:List Obj):Prop where
  ce:c ≤ e
  en:e ≤ n
  chg:∀ i,i < n→(D i).ch = true→(done i = true ↔ i < c)
  quiet:∀ i,c ≤ i→i < e→(D i).ch = false
  fst:c = 0 ∨ (0 < c ∧ (D (c - 1)).ch = true)
  lst:e = n ∨ (D e).ch = true
  len:H.length = (S e).h.length
  hol:∀ i,c ≤ i→i < e→done i = false→∀ x,(S i).h.length ≤ x→x < (S (i + 1)).h.length→atN H x = some .hole
  own:∀ x o,atN (S e).h x = some o→(∀ i,c ≤ i→i < e→(S i).h.length ≤ x→x < (S (i + 1)).h.length→done i = true)→atN H x = some o
structure Mid (P:Program) (nt:Nat) (F0:FH) (w0:World) (all:List Oper) (bs:List Nat) (S:Nat→St) (V:Nat→AV) (D:Nat→Did) (done:Nat→Bool) (a:Act) (w:World):Prop where
  down:∀ j,j < all.length→done j = true→∀ i,Nat.testBit ((atN bs j).getD 0) i = true→done i = true
  rel:∃ c e H,Hol all.length S D done c e H ∧ ∃ fr m F,Rel P nt F0 w0 ⟨fr,H⟩ m F a w ∧
    (∀ (i:Nat) (o:Oper) (d:Nat),all[i]? = some o→done i = true→o.dst = some d→look fr d = some (V i)) ∧
    (∀ t,(∀ (i:Nat) (o:Oper),all[i]? = some o→o.dst ≠ some t)→look fr t = look (S 0).fr t)
structure Reg (E:Env) (all:List Oper) (bs:List Nat) (S:Nat→St) (V:Nat→AV) (D:Nat→Did):Prop where
  data:zYw bs all = true
  bits:bs = zBb all []
  id:∀ i,(D i).i = i
  step:∀ i o,all[i]? = some o→zY0 E all (S i) (S (i + 1)) o (V i) (D i)
  ok:∀ i i',i < i'→i' < all.length→Ok bs (D i) (D i')
section
variable {all:List Oper} {bs:List Nat} {S:Nat→St} {V:Nat→AV} {D:Nat→Did} {done:Nat→Bool}
theorem Reg.chwr (g:Reg E all bs S V D) {i:Nat} (hi:i < all.length) (hc:(D i).ch = true):(D i).wr = true:=by
  obtain ⟨_,_,h⟩:=g.step i all[i] (List.getElem?_eq_getElem hi)
  rcases h with ⟨_,_,_,_,_,h⟩ | ⟨_,⟨_,_,_,_,_,_,_,_,h,_⟩ | ⟨_,_,_,_,_,_,h,_⟩ | ⟨_,_,_,_,h,_⟩ | ⟨_,_,_,_,_,_,_,_,h,_⟩⟩
  · rw [h] at hc; cases hc
  · rw [h] at hc; cases hc
  · rw [h] at hc; cases hc
  · exact h
  · rw [h] at hc; cases hc
theorem Reg.quiet (g:Reg E all bs S V D) {i:Nat} (hi:i < all.length) (hq:(D i).wr = false):(S (i + 1)).h = (S i).h:=by
  obtain ⟨_,_,h⟩:=g.step i all[i] (List.getElem?_eq_getElem hi)
  rcases h with ⟨_,_,h,_⟩ | ⟨_,⟨_,_,st',_,_,_,h1,h2,_⟩ | ⟨st',h1,h2,h3,_⟩ | ⟨_,_,_,_,h,_⟩ | ⟨_,_,z,_,_,h1,_,h2,_⟩⟩
  · exact h
  · rw [h2] at hq
    cases hs:st'.h with
    | nil=>rw [h1,hs]; simp
    | cons x l=>rw [hs] at hq; cases hq
  · rw [h3,qbS h1 h2]
  · rw [h] at hq; cases hq
  · rw [h2] at hq
    cases z with
    | nil=>rw [h1]; simp
    | cons x l=>cases hq
theorem Reg.grow (g:Reg E all bs S V D) {i:Nat} (hi:i < all.length) (hq:(D i).ch = false):∃ k,(S (i + 1)).h = (S i).h ++ k:=by
  cases hw:(D i).wr with
  | false=>exact ⟨[],by rw [g.quiet hi hw]; simp⟩
  | true =>
    obtain ⟨_,_,h⟩:=g.step i all[i] (List.getElem?_eq_getElem hi)
    rcases h with ⟨_,_,_,_,h,_⟩ | ⟨_,⟨_,_,st',_,_,_,h1,h2,_⟩ | ⟨st',_,_,_,_,h,_⟩ | ⟨_,_,_,_,_,h,_⟩ | ⟨_,_,z,_,_,h1,_⟩⟩
    · rw [h] at hw; cases hw
    · exact ⟨_,h1⟩
    · rw [h] at hw; cases hw
    · rw [h] at hq; cases hq
    · exact ⟨_,h1⟩
theorem Reg.grows (g:Reg E all bs S V D) {j:Nat}:∀ {c:Nat},j ≤ c→c ≤ all.length→(∀ i,j ≤ i→i < c→(D i).ch = false)→∃ k,(S c).h = (S j).h ++ k:=by
  intro c
  induction c with
  | zero=>intro h _ _; exact ⟨[],by rw [Nat.le_zero.1 h]; simp⟩
  | succ c ih =>
    intro h hl hq
    by_cases e:j = c + 1
    · exact ⟨[],by rw [e]; simp⟩
    · obtain ⟨k,hk⟩:=ih (by omega) (by omega) fun i h1 h2=>hq i h1 (by omega)
      obtain ⟨k',hk'⟩:=g.grow (i:=c) (by omega) (hq c (by omega) (by omega))
      exact ⟨k ++ k',by rw [hk',hk,List.append_assoc]⟩
structure Next (all:List Oper) (bs:List Nat) (done:Nat→Bool) (j:Nat):Prop where
  lt:j < all.length
  un:done j = false
  bef:∀ i,Nat.testBit ((atN bs j).getD 0) i = true→done i = true
theorem Reg.pass (g:Reg E all bs S V D) (hd:∀ j,j < all.length→done j = true→∀ i,Nat.testBit ((atN bs j).getD 0) i = true→done i = true) {j:Nat} (hn:Next all bs done j) (hf:(D j).wr = true) {c e:Nat} {H:List Obj} (hh:Hol all.length S D done c e H):c ≤ j ∧ j ≤ e:=by
  constructor
  · rcases Nat.lt_or_ge j c with h | h
    · exfalso
      rcases hh.fst with h0 | ⟨h0,h1⟩
      · omega
      · have hlt:c - 1 < all.length:=by have:=hh.ce; have:=hh.en; omega
        have hdn:done (c - 1) = true:=(hh.chg _ hlt h1).2 (by omega)
        by_cases e1:j = c - 1
        · subst e1; rw [hn.un] at hdn; cases hdn
        · rcases g.ok j (c - 1) (by omega) hlt with h2 | h2
          · rw [g.id,g.id] at h2
            have:=hd _ hlt hdn j h2
            rw [hn.un] at this; cases this
          · have h3:=(h2.2 h1).1
            rw [h3] at hf; cases hf
    · exact h
  · rcases Nat.lt_or_ge e j with h | h
    · exfalso
      have hlt:=hn.lt
      rcases hh.lst with h0 | h0
      · have:=hh.en; omega
      · rcases g.ok e j h hlt with h2 | h2
        · rw [g.id,g.id] at h2
          have h3:=(hh.chg e (by omega) h0).1 (hn.bef _ h2)
          have:=hh.ce
          omega
        · have h3:=(h2.1 h0).1
          rw [h3] at hf; cases hf
    · exact h
theorem Reg.growLen (g:Reg E all bs S V D) {c e:Nat} {H:List Obj} (hh:Hol all.length S D done c e H) {i j:Nat} (hc:c ≤ i) (hij:i ≤ j) (hj:j ≤ e):∃ k,(S j).h = (S i).h ++ k:=by
  induction j with
  | zero => obtain rfl:i = 0:=by omega
            exact ⟨[],by simp⟩
  | succ j ih =>
    by_cases e1:i = j + 1
    · subst e1; exact ⟨[],by simp⟩
    · obtain ⟨k,hk⟩:=ih (by omega) (by omega)
      obtain ⟨k',hk'⟩:=g.grow (i:=j) (by have:=hh.en; omega) (hh.quiet j (by omega) (by omega))
      exact ⟨k ++ k',by rw [hk',hk,List.append_assoc]⟩
theorem zvQ {α:Type} {a b k:List α} (h:a = b ++ k):b.length ≤ a.length:=by rw [h]; simp
theorem Reg.sees (g:Reg E all bs S V D) {c e j:Nat} {H:List Obj} (hh:Hol all.length S D done c e H) (hcj:c ≤ j) (hje:j ≤ e) {x:Nat} {o:Obj} (ho:atN (S j).h x = some o) (hx:atN H x ≠ some .hole):atN H x = some o:=by
  obtain ⟨k,hk⟩:=g.growLen hh hcj hje (Nat.le_refl e)
  refine hh.own x o (by rw [hk]; exact zFO ho) fun i h1 h2 h3 h4=>?_
  cases hd:done i with
  | true=>rfl
  | false=>exact absurd (hh.hol i h1 h2 hd x h3 h4) hx
theorem Reg.full (g:Reg E all bs S V D) {c e:Nat} {H:List Obj} (hh:Hol all.length S D done c e H) (hall:∀ i,c ≤ i→i < e→(D i).wr = true→done i = true):H = (S e).h:=by
  apply List.ext_getElem?
  intro x
  cases hx:(S e).h[x]? with
  | none =>
    have:(S e).h.length ≤ x:=by simpa using hx
    have hl:=hh.len
    rw [List.getElem?_eq_none_iff]; omega
  | some o =>
    rw [← jg]
    rw [← jg] at hx
    refine hh.own x o hx fun i h1 h2 h3 h4=>?_
    cases hw:(D i).wr with
    | true=>exact hall i h1 h2 hw
    | false =>
      have:=g.quiet (i:=i) (by have:=hh.en; omega) hw
      rw [this] at h4
      omega
theorem Reg.before (g:Reg E all bs S V D) {j:Nat} (hn:Next all bs done j) (hc:(D j).ch = true) {i:Nat} (hi:i < j) (hw:(D i).wr = true):done i = true:=by
  rcases g.ok i j hi hn.lt with h | h
  · rw [g.id,g.id] at h; exact hn.bef i h
  · have:=(h.2 hc).1
    rw [this] at hw; cases hw
theorem apart_spec {o:Option (List Nat)} {k:List Nat} (h:apart o k = true) {x:Nat} (hx:x ∈ k):∃ l,o = some l ∧ x ∉ l:=by
  cases o with
  | none=>cases h
  | some l =>
    refine ⟨l,rfl,fun hl=>?_⟩
    have:=List.all_eq_true.1 h x hx
    rw [zF2.2 hl] at this
    cases this
theorem Reg.keeps (g:Reg E all bs S V D) {i:Nat} (hi:i < all.length) {x:Nat} {o:Obj} (hx:atN (S i).h x = some o) (hc:(D i).ch = true→∃ l,(D i).cg = some l ∧ x ∉ l):atN (S (i + 1)).h x = some o:=by
  cases hch:(D i).ch with
  | false =>
    obtain ⟨k,hk⟩:=g.grow hi hch
    rw [hk]; exact zFO hx
  | true =>
    obtain ⟨l,hl,hn⟩:=hc hch
    obtain ⟨_,_,h⟩:=g.step i all[i] (List.getElem?_eq_getElem hi)
    rcases h with ⟨_,_,_,_,_,h⟩ | ⟨_,⟨_,_,_,_,_,_,_,_,h,_⟩ | ⟨_,_,_,_,_,_,h,_⟩ | ⟨st',hev,hh,_,_,_,hcg⟩ | ⟨_,_,_,_,_,_,_,_,h,_⟩⟩
    · rw [h] at hch; cases hch
    · rw [h] at hch; cases hch
    · rw [h] at hch; cases hch
    · rw [hl] at hcg
      rw [hh]
      exact qe4 hcg.symm hev hx hn
    · rw [h] at hch; cases hch
theorem Reg.looks (g:Reg E all bs S V D) (hd:∀ j,j < all.length→done j = true→∀ i,Nat.testBit ((atN bs j).getD 0) i = true→done i = true) {j:Nat} (hn:Next all bs done j) (hr:(D j).rd = true) {c e:Nat} {H:List Obj} (hh:Hol all.length S D done c e H) {x:Nat} {o o':Obj}
    (hx:x ∈ (D j).lk) (ho:atN (S j).h x = some o) (hH:atN H x = some o') (hne:o' ≠ .hole):atN H x = some o:=by
  have hne':atN H x ≠ some .hole:=by rw [hH]; intro e; cases e; exact hne rfl
  have hlt:=hn.lt
  rcases Nat.lt_or_ge j c with h1 | h1
  ·
    have key:∀ i,j ≤ i→i ≤ c→atN (S i).h x = some o:=by
      intro i
      induction i with
      | zero => intro h2 _; obtain rfl:j = 0:=by omega
                exact ho
      | succ i ih =>
        intro h2 h3
        by_cases e1:j = i + 1
        · rw [← e1]; exact ho
        · refine g.keeps (by have:=hh.ce; have:=hh.en; omega) (ih (by omega) (by omega)) fun hch=>?_
          have hil:i < all.length:=by have:=hh.ce; have:=hh.en; omega
          have hdi:done i = true:=(hh.chg i hil hch).2 (by omega)
          have hne2:j ≠ i:=fun e2=>by subst e2; rw [hn.un] at hdi; cases hdi
          rcases g.ok j i (by omega) hil with h4 | h4
          · rw [g.id,g.id] at h4
            have:=hd i hil hdi j h4
            rw [hn.un] at this; cases this
          · exact apart_spec ((h4.2 hch).2 hr) hx
    exact g.sees hh (Nat.le_refl c) hh.ce (key c (by omega) (Nat.le_refl c)) hne'
  · rcases Nat.lt_or_ge e j with h2 | h2
    ·
      have hxe:x < (S e).h.length:=by rw [← hh.len]; exact yN hH
      obtain ⟨u,hu⟩:∃ u,atN (S e).h x = some u:=⟨(S e).h[x],by rw [jg,List.getElem?_eq_getElem hxe]⟩
      have key:∀ i,e ≤ i→i ≤ j→atN (S i).h x = some u:=by
        intro i
        induction i with
        | zero => intro h3 _; obtain rfl:e = 0:=by omega
                  exact hu
        | succ i ih =>
          intro h3 h4
          by_cases e1:e = i + 1
          · rw [← e1]; exact hu
          · refine g.keeps (by omega) (ih (by omega) (by omega)) fun hch=>?_
            have hil:i < all.length:=by omega
            rcases g.ok i j (by omega) hlt with h5 | h5
            · rw [g.id,g.id] at h5
              have h6:=(hh.chg i hil hch).1 (hn.bef i h5)
              have:=hh.ce
              omega
            · exact apart_spec ((h5.1 hch).2 hr) hx
      have h3:=key j (by omega) (Nat.le_refl j)
      rw [ho] at h3
      cases h3
      exact g.sees hh hh.ce (Nat.le_refl e) hu hne'
    · exact g.sees hh h1 h2 ho hne'
theorem qe6 (D:Nat→Did) (n:Nat):∀ k c,c + k = n→∃ e,c ≤ e ∧ e ≤ n ∧ (∀ i,c ≤ i→i < e→(D i).ch = false) ∧ (e = n ∨ (D e).ch = true):=by
  intro k
  induction k with
  | zero=>intro c h; exact ⟨c,Nat.le_refl c,by omega,fun i h1 h2=>by omega,.inl (by omega)⟩
  | succ k ih =>
    intro c h
    cases hc:(D c).ch with
    | true=>exact ⟨c,Nat.le_refl c,by omega,fun i h1 h2=>by omega,.inr hc⟩
    | false =>
      obtain ⟨e,h1,h2,h3,h4⟩:=ih (c + 1) (by omega)
      refine ⟨e,by omega,h2,fun i h5 h6=>?_,h4⟩
      by_cases e1:i = c
      · subst e1; exact hc
      · exact h3 i (by omega) h6
theorem Reg.open (g:Reg E all bs S V D) {c:Nat} (hcn:c ≤ all.length) (hfst:c = 0 ∨ (0 < c ∧ (D (c - 1)).ch = true)) (hchg:∀ i,i < all.length→(D i).ch = true→(done i = true ↔ i < c)) (hund:∀ i,c ≤ i→i < all.length→(D i).wr = true→done i = false) :
    ∃ e n,Hol all.length S D done c e ((S c).h ++ List.replicate n .hole):=by
  obtain ⟨e,h1,h2,h3,h4⟩:=qe6 D all.length (all.length - c) c (by omega)
  have grow:∀ j,c ≤ j→j ≤ e→∃ k,(S j).h = (S c).h ++ k:=fun j hj hje=>g.grows hj (by omega) fun i h5 h6=>h3 i h5 (by omega)
  obtain ⟨k,hk⟩:=grow e h1 (Nat.le_refl e)
  have hlenc:∀ i,c ≤ i→i < e→(S c).h.length ≤ (S i).h.length:=fun i h5 h6=>zvQ (grow i h5 (by omega)).choose_spec
  have hlene:∀ i,c ≤ i→i < e→(S (i + 1)).h.length ≤ (S e).h.length:=fun i h5 h6=>by
    obtain ⟨k',hk'⟩:=g.grows (j:=i + 1) (c:=e) (by omega) (by omega) fun i' h7 h8=>h3 i' (by omega) h8
    exact zvQ hk'
  refine ⟨e,k.length,h1,h2,hchg,h3,hfst,h4,by rw [hk]; simp,fun i h5 h6 h7 x h8 h9=>?_,fun x o ho hall=>?_⟩
  · have:=hlenc i h5 h6
    have:=hlene i h5 h6
    rw [hk] at this
    simp only [List.length_append] at this
    rw [jg,List.getElem?_append_right (by omega),List.getElem?_replicate,if_pos (by omega)]
  · by_cases hx:x < (S c).h.length
    · rw [zb5 hx]
      rw [hk,zb5 hx] at ho
      exact ho
    · exfalso
      have hxe:=yN ho
      have key:∀ j,c ≤ j→j ≤ e→x < (S j).h.length→∃ i,c ≤ i ∧ i < e ∧ (S i).h.length ≤ x ∧ x < (S (i + 1)).h.length:=by
        intro j
        induction j with
        | zero => intro h5 _ h6; obtain rfl:c = 0:=by omega
                  exact absurd h6 hx
        | succ j ih =>
          intro h5 h6 h7
          by_cases e1:c = j + 1
          · rw [← e1] at h7; exact absurd h7 hx
          · by_cases h8:x < (S j).h.length
            · exact ih (by omega) (by omega) h8
            · exact ⟨j,by omega,by omega,by omega,h7⟩
      obtain ⟨i,h5,h6,h7,h8⟩:=key e h1 (Nat.le_refl e) hxe
      have hdi:=hall i h5 h6 h7 h8
      cases hw:(D i).wr with
      | true=>rw [hund i h5 (by omega) hw] at hdi; cases hdi
      | false =>
        have:=g.quiet (i:=i) (by omega) hw
        rw [this] at h8
        omega
theorem Reg.slots (g:Reg E all bs S V D):∀ {j:Nat},j ≤ all.length →
    (∀ (i:Nat) (o:Oper) (d:Nat),all[i]? = some o→i < j→o.dst = some d→look (S j).fr d = some (V i)) ∧
    (∀ t,(∀ (i:Nat) (o:Oper),all[i]? = some o→i < j→o.dst ≠ some t)→look (S j).fr t = look (S 0).fr t):=by
  intro j
  induction j with
  | zero=>intro _; exact ⟨fun i o d _ h=>by omega,fun t _=>rfl⟩
  | succ j ih =>
    intro hj
    obtain ⟨h1,h2⟩:=ih (by omega)
    have hget:=List.getElem?_eq_getElem (show j < all.length by omega)
    obtain ⟨_,hf,_⟩:=g.step j _ hget
    have hfr:∀ t,look (S (j + 1)).fr t = if all[j].dst = some t then some (V j) else look (S j).fr t:=by
      intro t
      rw [hf]
      cases hd:all[j].dst with
      | none=>simp [St.put]
      | some d=>simp [St.put,zFW]
    have hdist:=(zBd g.data hget).1
    constructor
    · intro i o d hi hij hd
      rw [hfr]
      by_cases e:i = j
      · subst e
        rw [hget] at hi
        cases hi
        rw [if_pos hd]
      · rw [if_neg ?_]
        · exact h1 i o d hi (by omega) hd
        · have:=(zvP hdist i o d hi hd).1
          rw [Nat.zero_add] at this
          exact this.resolve_left e
    · intro t ht
      rw [hfr,if_neg (ht j _ hget (by omega))]
      exact h2 t fun i o hi hij=>ht i o hi (by omega)
end
end
end Go.Ev
end
section
namespace Go.Ev
open Go.RowKit
section
variable {P:Program} {nt:Nat} {F0 G:FH} {w0:World} {E:Env} {R:Type} {bs:List Nat} {S:Nat→St} {V:Nat→AV} {D:Nat→Did} {done:Nat→Bool} {ops:Array Oper} {Q:Exit→Act→World→Prop}
def add (done:Nat→Bool) (j:Nat):Nat→Bool:=fun i=>if i = j then true else done i
theorem zNN {i j:Nat}:add done j i = true ↔ done i = true ∨ i = j:=by
  unfold add
  by_cases e:i = j
  · simp [e]
  · simp [e]
theorem put_eq (fr:List (Nat × AV)) (h:List Obj) (dst:Option Tmp) (v:AV):(⟨fr,h⟩:St).put dst v = ⟨((⟨fr,h⟩:St).put dst v).fr,h⟩:=by cases dst <;> rfl
theorem Reg.filled (g:Reg E ops.toList bs S V D) (hd:∀ j,j < ops.toList.length→done j = true→∀ i,Nat.testBit ((atN bs j).getD 0) i = true→done i = true) {j c e:Nat} {H z:List Obj} (hn:Next ops.toList bs done j) (hh:Hol ops.toList.length S D done c e H)
    (hf:(D j).wr = true) (hch:(D j).ch = false) (hz:(S (j + 1)).h = (S j).h ++ z) :
    ∃ H2:List Obj,H2.length = H.length ∧ (∀ i o,atN z i = some o→atN H ((S j).h.length + i) = some .hole ∧ atN H2 ((S j).h.length + i) = some o) ∧
      (∀ i,¬((S j).h.length ≤ i ∧ i < (S j).h.length + z.length)→atN H2 i = atN H i) ∧ Hol ops.toList.length S D (add done j) c e H2:=by
  obtain ⟨hcj,hje⟩:=g.pass hd hn hf hh
  have hlt:=hn.lt
  have hjlt:j < e:=by
    rcases Nat.lt_or_ge j e with h | h
    · exact h
    · obtain rfl:j = e:=by omega
      rcases hh.lst with h0 | h0
      · omega
      · rw [hch] at h0; cases h0
  have adn:∀ {i},i ≠ j→add done j i = done i:=fun {i} hi=>by unfold add; rw [if_neg hi]
  have hlen1:(S (j + 1)).h.length = (S j).h.length + z.length:=by rw [hz]; simp
  obtain ⟨k,hk⟩:=g.growLen hh (i:=j + 1) (j:=e) (by omega) (by omega) (Nat.le_refl e)
  have hLe:(S j).h.length + z.length ≤ H.length:=by rw [hh.len,← hlen1]; exact zvQ hk
  have hholes:∀ i,i < z.length→atN H ((S j).h.length + i) = some .hole:=fun i hi=>hh.hol j hcj hjlt hn.un _ (by omega) (by omega)
  let H2:List Obj:=H.take (S j).h.length ++ z ++ H.drop ((S j).h.length + z.length)
  have hH2len:H2.length = H.length:=by simp [H2]; omega
  have hH2in:∀ i o',atN z i = some o'→atN H2 ((S j).h.length + i) = some o':=by
    intro i o' ho'
    have hil:=yN ho'
    simp only [H2]
    rw [jg,List.append_assoc,List.getElem?_append_right (by simp; omega),List.length_take,Nat.min_eq_left (by omega),Nat.add_sub_cancel_left,List.getElem?_append_left hil,← jg,ho']
  have hH2out:∀ i,¬((S j).h.length ≤ i ∧ i < (S j).h.length + z.length)→atN H2 i = atN H i:=by
    intro i hi
    simp only [H2]
    rw [jg,jg,List.append_assoc]
    by_cases h5:i < (S j).h.length
    · rw [List.getElem?_append_left (by simp; omega),List.getElem?_take,if_pos h5]
    · rw [List.getElem?_append_right (by simp; omega),List.length_take,Nat.min_eq_left (by omega),List.getElem?_append_right (by omega),List.getElem?_drop]
      congr 1
      omega
  refine ⟨H2,hH2len,fun i o' ho'=>⟨hholes i (yN ho'),hH2in i o' ho'⟩,hH2out,?_⟩
  have disj:∀ i,c ≤ i→i < e→i ≠ j→∀ x,(S i).h.length ≤ x→x < (S (i + 1)).h.length→¬((S j).h.length ≤ x ∧ x < (S j).h.length + z.length):=by
    intro i h5 h6 hne x h7 h8 h9
    rcases Nat.lt_or_gt_of_ne hne with h10 | h10
    · obtain ⟨k',hk'⟩:=g.growLen hh (i:=i + 1) (j:=j) (by omega) (by omega) (by omega)
      have:=zvQ hk'
      omega
    · obtain ⟨k',hk'⟩:=g.growLen hh (i:=j + 1) (j:=i) (by omega) (by omega) (by omega)
      have:=zvQ hk'
      omega
  refine ⟨hh.ce,hh.en,fun i hi hci=>?_,hh.quiet,hh.fst,hh.lst,by rw [hH2len]; exact hh.len,fun i h5 h6 h7 x h8 h9=>?_,fun x o' ho' hall=>?_⟩
  · have hne:i ≠ j:=by rintro rfl; rw [hch] at hci; cases hci
    rw [adn hne]; exact hh.chg i hi hci
  · have hne:i ≠ j:=by
      rintro rfl
      rw [zNN.2 (.inr rfl)] at h7; cases h7
    rw [adn hne] at h7
    rw [hH2out x (disj i h5 h6 hne x h8 h9)]
    exact hh.hol i h5 h6 h7 x h8 h9
  · by_cases hx:(S j).h.length ≤ x ∧ x < (S j).h.length + z.length
    · obtain ⟨i,rfl⟩:∃ i,x = (S j).h.length + i:=⟨x - (S j).h.length,by omega⟩
      have hil:i < z.length:=by omega
      have hoi:atN z i = some z[i]:=by rw [jg,List.getElem?_eq_getElem hil]
      rw [hH2in i _ hoi,← ho',hk,hz,List.append_assoc,jg,List.getElem?_append_right (by omega),Nat.add_sub_cancel_left,List.getElem?_append_left hil,← jg,hoi]
    · rw [hH2out x hx]
      refine hh.own x o' ho' fun i h5 h6 h7 h8=>?_
      have h9:=hall i h5 h6 h7 h8
      by_cases hne:i = j
      · subst hne
        exact absurd ⟨h7,by omega⟩ hx
      · rw [adn hne] at h9; exact h9
theorem zSX {h h2:List Obj} {fr:List (Nat × AV)} {a:Ty}:∀ {ps:List (Nat × Option AV)} {vs vs':List AV},z1i h a vs ps = some vs'→(∀ i j,(i,some (AV.ow j)) ∈ ps→∀ o,atN h j = some o→atN h2 j = some o)→zeB false a vs ps ⟨fr,h2⟩ = some (vs',⟨fr,h2⟩)
  | [],vs,vs',hb,_=>by cases hb; rfl
  | (i,none) :: ps,vs,vs',hb,_=>by cases hb
  | (i,some v) :: ps,vs,vs',hb,hs=>by
    cases v with
    | ow j =>
      simp only [z1i] at hb
      obtain ⟨h1,h2'⟩:=zf hb
      have hr:rowIs h2 a i j = true:=by
        unfold rowIs at h1 ⊢
        cases hT:zf4 h j with
        | none=>rw [hT] at h1; cases h1
        | some σ =>
          rw [hT] at h1
          obtain ⟨o,ho,hl⟩:=zU3.1 hT
          rw [zU3.2 ⟨o,hs i j (by simp) o ho,hl⟩]
          exact h1
      simp only [zeB,hr,cond_true]
      exact zSX h2' fun i' j' hm=>hs i' j' (by simp [hm])
    | dat σ y =>
      simp only [z1i] at hb
      obtain ⟨h1,h2'⟩:=zf hb
      simp only [zeB,frz,yf,h1,cond_true]
      exact zSX h2' fun i' j' hm=>hs i' j' (by simp [hm])
    | _=>cases hb
theorem zWP {st:St} {o:Oper} {t x:Nat} {v:AV} (ht:t ∈ zmI o) (hv:look st.fr t = some v) (hx:x ∈ v.ids):x ∈ zvN st o:=by
  unfold zvN
  exact List.mem_flatMap.2 ⟨t,ht,by rw [hv]; exact hx⟩
theorem qei {v:AV} {i:Nat} (h:v.has1 i = true):i ∈ v.ids1:=by
  cases v <;> first | (cases h; done) | (have:=Nat.eq_of_beq_eq_true h; subst this; simp [AV.ids1])
theorem qa2 {v:AV} {i:Nat} (ht:∀ vs,v ≠ .tup vs) (h:v.has i = true):i ∈ v.ids:=by
  cases v with
  | fld a vs =>
    simp only [AV.has,List.any_eq_true] at h
    obtain ⟨x,hx,hxi⟩:=h
    exact List.mem_flatMap.2 ⟨x,hx,qei hxi⟩
  | tup vs=>exact absurd rfl (ht vs)
  | _=>first | (cases h; done) | (have:=Nat.eq_of_beq_eq_true h; subst this; simp [AV.ids,AV.ids1])
theorem qej {v:AV} {i:Nat} (h:v.has1 i = true):v.has i = true:=by
  cases v <;> first | exact h | cases h
theorem zV0 {θ:Option Ty} {c:Value} {v:AV} {i:Nat} (h:zNH θ c = some v):v.has1 i = false:=by
  unfold zNH at h
  (repeat' split at h) <;> first | (cases h; rfl) | cases h
theorem Reg.go (hE:qv P G E) (hG:G.le F0) (hnt:E.nt = nt) (g:Reg E ops.toList bs S V D) {a:Act} {w:World} (hm:Mid P nt F0 w0 ops.toList bs S V D done a w) {j:Nat} (hn:Next ops.toList bs done j)
    {K:Act→World→Prop} (hK:∀ a' w',Mid P nt F0 w0 ops.toList bs S V D (add done j) a' w'→K a' w'):wpOp P ops Q j K a w:=by
  obtain ⟨hd,c,e,H,hh,fr,m,F,hrel,hV,hO⟩:=hm
  have hlt:=hn.lt
  have hget:ops.toList[j]? = some ops.toList[j]:=List.getElem?_eq_getElem hlt
  generalize ho:ops.toList[j] = o at hget
  have hgo:ops[j]? = some o:=by rw [← Array.getElem?_toList]; exact hget
  obtain ⟨hs1,hs2⟩:=g.slots (j:=j) (by omega)
  obtain ⟨hdata,hguard,_⟩:=zBd g.data hget
  have hag:∀ t,t ∈ zmI o→look fr t = look (S j).fr t:=by
    intro t ht
    by_cases hex:∃ (i:Nat) (o':Oper),ops.toList[i]? = some o' ∧ o'.dst = some t
    · obtain ⟨i,o',hi,hdt⟩:=hex
      have:=(zvP hdata i o' t hi hdt).2 ht
      rw [Nat.zero_add] at this
      rw [hV i o' t hi (hn.bef i this.1) hdt,hs1 i o' t hi this.2 hdt]
    · have hno:∀ (i:Nat) (o':Oper),ops.toList[i]? = some o'→o'.dst ≠ some t:=fun i o' hi hdt=>hex ⟨i,o',hi,hdt⟩
      rw [hO t hno,hs2 t fun i o' hi _=>hno i o' hi]
  have hag':∀ t,Operand.tmp t ∈ o.op.operands→look fr t = look (S j).fr t:=fun t ht=>hag t (zPz.2 ht)
  have hgv:zo6 ops.toList fr o = zo6 ops.toList (S j).fr o:=by
    unfold zo6
    cases hgd:o.guard with
    | none=>rfl
    | some gw =>
      obtain ⟨gi,want⟩:=gw
      simp only
      obtain ⟨hb,hlt'⟩:=hguard gi want hgd
      have:(zJ0 ops.toList gi).bind (look fr) = (zJ0 ops.toList gi).bind (look (S j).fr):=by
        cases hdo:zJ0 ops.toList gi with
        | none=>rfl
        | some d =>
          simp only [Option.bind_some]
          unfold zJ0 at hdo
          rw [jg] at hdo
          obtain ⟨o',ho',hdt⟩:=Option.bind_eq_some_iff.1 hdo
          rw [hV gi o' d ho' (hn.bef gi hb) hdt,hs1 gi o' d ho' hlt' hdt]
      rw [this]
  obtain ⟨hdst,_,hstep⟩:=g.step j o hget
  have hd':∀ d,o.dst = some d→d < nt:=fun d h=>hnt ▸ zYZ hdst d h
  have fin:∀ (c' e':Nat) (H':List Obj) (a':Act) (w':World) (m':MM) (F':FH),Hol ops.toList.length S D (add done j) c' e' H' →
      Rel P nt F0 w0 ((⟨fr,H'⟩:St).put o.dst (V j)) m' F' a' w'→Mid P nt F0 w0 ops.toList bs S V D (add done j) a' w':=by
    intro c' e' H' a' w' m' F' hh' hr
    refine ⟨fun j' hj' hdj i hb=>?_,c',e',H',hh',_,m',F',(by rw [put_eq] at hr; exact hr),?_,?_⟩
    · rw [zNN] at hdj ⊢
      rcases hdj with hdj | rfl
      · exact .inl (hd j' hj' hdj i hb)
      · exact .inl (hn.bef i hb)
    · intro i o' d hi hdi hdt
      have hl:∀ t,look ((⟨fr,H'⟩:St).put o.dst (V j)).fr t = if o.dst = some t then some (V j) else look fr t:=by
        intro t
        cases hd:o.dst with
        | none=>simp [St.put]
        | some d=>simp [St.put,zFW]
      rw [hl]
      by_cases e:o.dst = some d
      · rw [if_pos e]
        have:=(zvP hdata i o' d hi hdt).1
        rw [Nat.zero_add] at this
        rcases this with rfl | this
        · rfl
        · exact absurd e this
      · rw [if_neg e]
        rw [zNN] at hdi
        rcases hdi with hdi | rfl
        · exact hV i o' d hi hdi hdt
        · rw [hget] at hi; cases hi; exact absurd hdt e
    · intro t ht
      have:=ht j o hget
      rw [← hO t ht]
      cases hd:o.dst with
      | none=>rfl
      | some d =>
        simp only [St.put,zFW]
        rw [if_neg]
        rintro rfl
        exact this hd
  have adn:∀ {i},i ≠ j→add done j i = done i:=fun {i} hi=>by unfold add; rw [if_neg hi]
  have stay:(D j).wr = false→Hol ops.toList.length S D (add done j) c e H:=by
    intro hf
    have hch:(D j).ch = false:=by
      cases hc:(D j).ch with
      | false=>rfl
      | true=>rw [g.chwr hlt hc] at hf; cases hf
    refine ⟨hh.ce,hh.en,fun i hi hci=>?_,hh.quiet,hh.fst,hh.lst,hh.len,fun i h1 h2 h3 x h4 h5=>?_,fun x o' ho' hall=>hh.own x o' ho' fun i h1 h2 h3 h4=>?_⟩
    · have hne:i ≠ j:=by rintro rfl; rw [hch] at hci; cases hci
      rw [adn hne]; exact hh.chg i hi hci
    · have hne:i ≠ j:=by
        rintro rfl
        rw [zNN.2 (.inr rfl)] at h3; cases h3
      rw [adn hne] at h3
      exact hh.hol i h1 h2 h3 x h4 h5
    · have h5:=hall i h1 h2 h3 h4
      by_cases hne:i = j
      · subst hne
        have:=g.quiet hlt hf
        rw [this] at h4
        omega
      · rw [adn hne] at h5; exact h5
  unfold wpOp
  simp only [hgo]
  rcases hstep with ⟨hg,hVj,hh,h1,h2,h3⟩ | ⟨hg,hstep⟩
  · have hwant:=zF1 hrel (o:=o) (ops:=ops) (b:=false) (by rw [← hg]; exact hgv)
    rw [hwant]
    simp only [Bool.false_eq_true,if_false]
    refine hK _ _ (fin c e H _ _ m F (stay h2) ?_)
    exact Rel.put hrel hd' (by rw [hVj]; exact zbo)
  · have hwant := zF1 hrel (o:=o) (ops:=ops) (b:=true) (by rw [← hg]; exact hgv)
    rw [hwant]
    simp only [if_true]
    left
    rcases hstep with ⟨fr',v0,st',hres,hev,hVj,hh1,h2,h3,hlk⟩ | ⟨st',hst,hev,hh1,h1,h2,h3,hlk⟩ | ⟨st',hev,hh1,h1,h2,h3,_⟩ | ⟨b,vs',z,hbld,hVj,hh1,h1,h2,h3,hlk⟩
    · have hsp:=zPA hres
      have hf:∀ t v,look fr' t = some v→v.pure = true ∧ zq P H m F v (a.tmps.getD t undef):=by
        intro t v ht
        obtain ⟨h4,v1,h5,h6,h7,h8⟩:=hsp t v ht
        refine ⟨h8 rfl,?_⟩
        have hr1:=hrel.fr t v1 (by simp only; rw [hag t h4]; exact h5)
        simp only at hr1
        cases hrd:(D j).rd with
        | false=>rw [h7 hrd]; exact hr1
        | true =>
          rw [h6]
          cases v1 with
          | tup vs =>
            have e:(zo7 (S j).h (.tup vs)).1 = .tup vs:=by
              unfold zo7
              cases (AV.tup vs).pure <;> rfl
            rw [e]; exact hr1
          | _ =>
            refine qbR hrel (fun i hi o' ho'=>?_) hr1
            rw [zq.eq1 (by intro vs e; cases e)] at hr1
            obtain ⟨u,hu,hne⟩:=hr1.real hi
            exact g.looks hd hn hrd hh (by rw [hlk]; exact zWP h4 h5 (qa2 (by intro vs e; cases e) hi)) ho' hu hne
      have hstart:=hrel.start hf
      refine zWK hE (hG.trans hrel.gro.1) hstart hev _ _ ?_
      rintro u w' ⟨m',F',hle,hrel',hv⟩
      cases hwr:(D j).wr with
      | true =>
        obtain ⟨H2,hH2len,hsz,hH2out,hhol⟩:=g.filled hd hn hh hwr h3 hh1
        have hs:∀ i o',atN st'.h i = some o'→atN H ((S j).h.length + i) = some .hole ∧ atN H2 ((S j).h.length + i) = some (o'.rn ((S j).h.length + ·)):=fun i o' ho'=>by
          have:=hsz i (o'.sh (S j).h.length) (by rw [jg,List.getElem?_map,← jg,ho']; rfl)
          exact ⟨this.1,by rw [this.2,Obj.sh_rn]⟩
        rw [List.length_map] at hH2out
        have hfill:=hrel.fill hrel' hH2len hs hH2out
        exact hK _ _ (fin c e H2 _ _ _ F' hhol (Rel.put hfill hd' (by rw [hVj]; exact hv.fill fun i o' ho'=>(hs i o' ho').2)))
      | false =>
        have hcat:=hrel.cat hrel' hle
        rw [hwr] at h2
        have hnil:st'.h = []:=by
          cases hs:st'.h with
          | nil=>rfl
          | cons x l=>rw [hs] at h2; cases h2
        rw [hnil] at hcat hv
        simp only [List.map_nil,List.append_nil] at hcat
        refine hK _ _ (fin c e H _ _ (m.cat H.length m') F' (stay hwr) ?_)
        refine Rel.put hcat hd' ?_
        rw [hVj]
        exact hv.nowhere
    · have h4:=z6O hev hag'
      have h5:=z3F (k:=H) hst (fun x θ v hx hrdv i hi o' ho'=>by
        have hrdv':rd E ⟨fr,H⟩ θ x = some v:=by rw [← hrdv]; cases x <;> rfl
        have hr1:=zM hE hG hrel hrdv'
        have hrdS:rd E (S j) θ x = some v:=by
          rw [← hrdv']
          cases x with
          | tmp t=>exact (hag' t hx).symm
          | _=>rfl
        cases v with
        | tup vs=>cases hi
        | _ =>
          first | (cases hi; done) | (
            rw [zq.eq1 (by intro vs e; cases e)] at hr1
            have hi':=qej hi
            obtain ⟨u,hu,hne⟩:=hr1.real hi'
            refine g.looks hd hn h1 hh ?_ ho' hu hne
            rw [hlk]
            cases x with
            | tmp t=>exact zWP (zPz.2 hx) hrdS (qa2 (by intro vs e; cases e) hi')
            | const c=>exact absurd hi (by rw [zV0 hrdS]; simp)
            | global gl=>exact absurd hi (by obtain ⟨_,_,_,e,_⟩:=hE.glob gl _ hrdS; cases e <;> simp [AV.has1])
            | func f=>(simp only [rd,Option.map_eq_some_iff] at hrdS; obtain ⟨_,_,e⟩:=hrdS; cases e))) h4
      have h6:more H (sw fr (S j)) = ⟨fr,H⟩:=rfl
      rw [h6] at h5
      obtain ⟨_,u,h7,h8⟩:=qbO hE hG hrel hst h5
      refine jl.val (R:=fun u' w'=>u' = u ∧ w' = w) h7 ⟨rfl,rfl⟩ _ _ ?_
      rintro u' w' ⟨rfl,rfl⟩
      exact hK _ _ (fin c e H _ _ m F (stay h2) (Rel.put hrel hd' h8))
    · obtain ⟨hcj,hje⟩:=g.pass hd hn h2 hh
      have hje':j = e:=by
        rcases Nat.lt_or_ge j e with h | h
        · have:=hh.quiet j hcj h
          rw [h3] at this; cases this
        · omega
      subst hje'
      have hfull:=g.full hh fun i h5 h6 h7=>g.before hn h3 h6 h7
      have h4:=z6O hev hag'
      have h6:sw fr (S j) = ⟨fr,H⟩:=by unfold sw; rw [hfull]
      rw [h6] at h4
      refine zWK hE hG hrel h4 _ _ ?_
      rintro u w' ⟨m',F',hle,hrel',hv⟩
      have hchg':∀ i,i < ops.toList.length→(D i).ch = true→(add done j i = true ↔ i < j + 1):=by
        intro i hi hci
        by_cases hne:i = j
        · subst hne
          exact ⟨fun _=>by omega,fun _=>zNN.2 (.inr rfl)⟩
        · rw [adn hne,hh.chg i hi hci]
          constructor
          · intro h; have:=hh.ce; omega
          · intro h
            rcases Nat.lt_or_ge i c with h5 | h5
            · exact h5
            · have:=hh.quiet i h5 (by omega)
              rw [hci] at this; cases this
      have hund:∀ i,j + 1 ≤ i→i < ops.toList.length→(D i).wr = true→add done j i = false:=by
        intro i h5 h6 h7
        rw [adn (by omega)]
        cases hdi:done i with
        | false=>rfl
        | true =>
          rcases g.ok j i (by omega) h6 with h8 | h8
          · rw [g.id,g.id] at h8
            have:=hd i h6 hdi j h8
            rw [hn.un] at this; cases this
          · have:=(h8.1 h3).1
            rw [this] at h7; cases h7
      obtain ⟨e',n,hh'⟩:=g.open (done:=add done j) (c:=j + 1) (by omega) (.inr ⟨by omega,h3⟩) hchg' hund
      refine hK _ _ (fin (j + 1) e' _ _ _ m' F' hh' ?_)
      have hrel2:Rel P nt F0 w0 ⟨fr,(S (j + 1)).h⟩ m' F' a w':=by rw [hh1]; exact hrel'
      refine Rel.put (hrel2.holes n) hd' ?_
      refine zq.keep (h:=(sw fr st').h) (m:=m') (fun i o' ho' _=>⟨?_,rfl,rfl⟩) hv
      simp only
      rw [hh1]
      exact zFO ho'
    ·
      obtain ⟨H2,hH2len,hsz,hH2out,hhol⟩:∃ H2:List Obj,H2.length = H.length ∧ (∀ i o,atN z i = some o→atN H ((S j).h.length + i) = some .hole ∧ atN H2 ((S j).h.length + i) = some o) ∧
          (∀ i,¬((S j).h.length ≤ i ∧ i < (S j).h.length + z.length)→atN H2 i = atN H i) ∧ Hol ops.toList.length S D (add done j) c e H2:=by
        cases hwr:(D j).wr with
        | true=>exact g.filled hd hn hh hwr h3 hh1
        | false =>
          rw [hwr] at h2
          have hnil:z = []:=by
            cases z with
            | nil=>rfl
            | cons x l=>cases h2
          subst hnil
          exact ⟨H,rfl,fun i o ho=>by simp [atN] at ho,fun i _=>rfl,stay hwr⟩
      obtain ⟨dst,op,ty,pos,after,guard⟩:=o
      simp only at hbld hd' hag'
      cases op with
      | build t ps =>
        simp only [z6j] at hbld
        split at hbld
        · rename_i τ hτ
          split at hbld
          · rename_i a0 hsel
            split at hbld
            · rename_i vs1 hb
              simp only [Option.some.injEq,Prod.mk.injEq] at hbld
              obtain ⟨rfl,rfl,rfl⟩:=hbld
              have hτb:τ = .st a0:=by
                unfold qbi at hsel
                split at hsel
                · obtain ⟨_,hsel⟩:=zf hsel
                  cases hsel; rfl
                · cases hsel
              subst hτb
              have hty:=hE.types t _ hτ
              obtain ⟨i,z,g1,g2,g3,g4⟩:=zWI (hty.head (by intro a b e; cases e))
              obtain ⟨fs,f1,f2,_⟩:=hty.st
              obtain ⟨places,hpl1,hpl2⟩:=run_places (w:=w) f2
              have hstart:=hrel.start (fr':=[]) (fun t v ht=>by simp [look] at ht)
              obtain ⟨cz,k1,k2,k3,k4⟩:=zPw (st:=⟨[],[]⟩) hty.chn (qed [] a0) (show zcB a0 z.cells.toList = some [] from g3) hstart
              rw [List.append_nil] at k1
              have hagg:∃ zc,z = .agg zc:=by
                have:zmJ z = true:=g4
                cases z <;> first | exact ⟨_,rfl⟩ | cases this
              obtain ⟨zc,rfl⟩:=hagg
              have hs:∀ i o',atN (zaD [] a0).2 i = some o'→atN H ((S j).h.length + i) = some .hole ∧ atN H2 ((S j).h.length + i) = some (o'.rn ((S j).h.length + ·)):=fun i o' ho'=>by
                have:=hsz i (o'.sh (S j).h.length) (by rw [jg,List.getElem?_map,← jg,ho']; rfl)
                exact ⟨this.1,by rw [this.2,Obj.sh_rn]⟩
              rw [List.length_map] at hH2out
              have hfill:=hrel.fill k2 hH2len hs hH2out
              have hfs:qO P H2 (m.fill (S j).h.length (zaD [] a0).2.length .emp) F a0 ((zaD [] a0).1.map (AV.sh1 (S j).h.length)) cz:=by
                have:=qO.rn (ρ:=((S j).h.length + ·)) (h2:=H2) (m2:=m.fill (S j).h.length (zaD [] a0).2.length .emp) (fun v _ i _ o ho=>⟨(hs i o ho).2,MM.fill_f2 _ _ (yN ho),MM.fill_d2 _ _ (yN ho)⟩) k4
                rwa [List.map_congr_left fun x _=>(AV.sh1_rn (S j).h.length x).symm] at this
              have hrdS:∀ θ x,x ∈ (Op.build t ps).operands→rd E (S j) θ x = rd E ⟨fr,H2⟩ θ x:=fun θ x hx=>by
                cases x with
                | tmp t=>exact (hag' t hx).symm
                | _=>rfl
              have hmapS:(ps.toList.map fun p=>(p.1,rd E (S j) (zlO a0 p.1) p.2)) = ps.toList.map fun p=>(p.1,rd E ⟨fr,H2⟩ (zlO a0 p.1) p.2):=by
                refine List.map_congr_left fun p hp=>?_
                rw [hrdS _ _ (by simp only [Op.operands]; exact List.mem_toArray.2 (List.mem_map.2 ⟨p,hp,rfl⟩))]
              rw [hmapS] at hb
              have hrdv:∀ (p:Nat × Operand) v,rd E ⟨fr,H2⟩ (zlO a0 p.1) p.2 = some v→zq P H2 (m.fill (S j).h.length (zaD [] a0).2.length .emp) F v (a.eval p.2):=fun p v hv=>zM hE hG hfill hv
              have hbf:=zSX (fr:=fr) (h2:=H2) hb (fun i jj hm o ho=>by
                obtain ⟨p,hp,he⟩:=List.mem_map.1 hm
                simp only [Prod.mk.injEq] at he
                have hrdH:rd E ⟨fr,H⟩ (zlO a0 p.1) p.2 = some (.ow jj):=by rw [← he.2]; cases p.2 <;> rfl
                have hv1:=zM hE hG hrel hrdH
                obtain ⟨u,hu,hne⟩:=(show qf P H m F (.ow jj) _ from hv1).real (i:=jj) (Nat.beq_refl _)
                have hH:=g.looks hd hn h1 hh (by
                  rw [hlk]
                  obtain ⟨pi,px⟩:=p
                  cases px with
                  | tmp tt =>
                    have ht:Operand.tmp tt ∈ (Op.build t ps).operands:=List.mem_toArray.2 (List.mem_map.2 ⟨_,hp,rfl⟩)
                    exact zWP (zPz.2 ht) (by rw [← hag' tt ht]; exact hrdH) (by simp [AV.ids,AV.ids1])
                  | const c=>exact absurd (Nat.beq_refl jj) (by have:=zV0 (i:=jj) hrdH; simp [AV.has1] at this)
                  | global gl=>obtain ⟨_,_,_,e,_⟩:=hE.glob gl _ hrdH; cases e
                  | func f=>simp only [rd,Option.map_eq_some_iff] at hrdH; obtain ⟨_,_,e⟩:=hrdH; cases e) ho hu hne
                by_cases hx:(S j).h.length ≤ jj ∧ jj < (S j).h.length + (zaD [] a0).2.length
                · have:=yN ho
                  omega
                · rw [hH2out jj hx]; exact hH)
              have hsome:=zBz hbf
              have hps:=zF0 hE hG hfill (θ:=fun i=>zlO a0 i) (ps:=ps.toList) fun p hp=>hsome (p.1,rd E ⟨fr,H2⟩ (zlO a0 p.1) p.2) (List.mem_map.2 ⟨p,hp,rfl⟩)
              obtain ⟨m',F',cells',r1,r2,r3,r4⟩:=zSS (place:=(places[·]?)) hpl2 (cells:=zc) hbf hfill hps (by rw [show zc.toList = cz from k1]; exact hfs)
              have hmap:(ps.map fun x=>(x.1,a.eval x.2)).toList = ps.toList.map fun p=>(p.1,a.eval p.2):=by simp
              refine jl.val (R:=fun u' w'=>u' = .agg cells' ∧ w' = w) (u:=.agg cells') (w':=w) ?_ ⟨rfl,rfl⟩ _ _ ?_
              · simp only [execOp]
                refine qt ?_
                unfold Instr.build
                simp only [Sem.run_bind,vA g1 g2,Result.andThen_ok,zt f1,hpl1,hmap,Value.cells,r3,Sem.run_pure]
              · rintro u' w' ⟨rfl,rfl⟩
                refine hK _ _ (fin c e H2 _ _ m' F' hhol (Rel.put r2 hd' ?_))
                rw [hVj]
                exact ⟨cells',rfl,r4⟩
            · cases hbld
          · cases hbld
        · cases hbld
      | _=>cases hbld
theorem Reg.bef (g:Reg E ops.toList bs S V D) (hd:∀ j,j < ops.toList.length→done j = true→∀ i,Nat.testBit ((atN bs j).getD 0) i = true→done i = true) {j:Nat} {o:Oper} (hj:ops.toList[j]? = some o)
    (ha:∀ e ∈ o.after.toList,Region.binds .any e = true→done e.on = true):∀ i,Nat.testBit ((atN bs j).getD 0) i = true→done i = true:=by
  intro i hi
  obtain ⟨acc,h1,h2⟩:=qbQ ops.toList [] j o hj
  rw [List.length_nil,Nat.zero_add,← g.bits] at h1
  rw [h1] at hi
  obtain ⟨e,he,hb,h3⟩:=qdg hi
  have hde:=ha e he hb
  rcases h3 with rfl | ⟨b,h3,h4⟩
  · exact hde
  · have h5:=h2 _ _ h3
    rw [← g.bits] at h5
    refine hd e.on ?_ hde i (by rw [h5]; exact h4)
    have:=(zBd g.data hj).2.2 e he hb
    have:=(List.getElem?_eq_some_iff.1 hj).1
    omega
theorem Reg.any (hE:qv P G E) (hG:G.le F0) (hnt:E.nt = nt) (g:Reg E ops.toList bs S V D)
    (hQ:∀ a w,Inv P nt F0 w0 (S ops.toList.length) a w→Q .normal a w) :
    ∀ (fuel:Nat) (listed:Array Bool) (a:Act) (w:World),listed.size = ops.size→zBe (fun i=>listed.getD i false) ops.size ≤ fuel→Mid P nt F0 w0 ops.toList bs S V D (fun i=>listed.getD i false) a w→wpAny P .any ops Q fuel listed a w:=by
  have hlen:ops.toList.length = ops.size:=rfl
  have hfinal:∀ (listed:Array Bool) (a:Act) (w:World),(∀ i,i < ops.size→listed.getD i false = true)→Mid P nt F0 w0 ops.toList bs S V D (fun i=>listed.getD i false) a w→Q .normal a w:=by
    intro listed a w hall ⟨hd,c,e,H,hh,fr,m,F,hrel,hV,hO⟩
    apply hQ
    have he:e = ops.toList.length:=by
      rcases hh.lst with h0 | h0
      · exact h0
      · rcases Nat.lt_or_ge e ops.toList.length with h1 | h1
        · have:=(hh.chg e h1 h0).1 (hall e h1)
          have:=hh.ce
          omega
        · have:=hh.en; omega
    have hfull:=g.full hh fun i h1 h2 h3=>hall i (by rw [he] at h2; exact h2)
    have hh:(S ops.toList.length).h = H:=by rw [hfull,he]
    obtain ⟨hs1,hs2⟩:=g.slots (j:=ops.toList.length) (Nat.le_refl _)
    refine ⟨m,F,?_⟩
    have:=hrel.frames (fr:=(S ops.toList.length).fr) ?_
    · simp only at this
      rw [← hh] at this
      exact this
    · intro t v ht
      by_cases hex:∃ (i:Nat) (o':Oper),ops.toList[i]? = some o' ∧ o'.dst = some t
      · obtain ⟨i,o',hi,hdt⟩:=hex
        have hil:=(List.getElem?_eq_some_iff.1 hi).1
        rw [hs1 i o' t hi hil hdt] at ht
        simp only
        rw [hV i o' t hi (hall i hil) hdt]; exact ht
      · have hno:∀ (i:Nat) (o':Oper),ops.toList[i]? = some o'→o'.dst ≠ some t:=fun i o' hi hdt=>hex ⟨i,o',hi,hdt⟩
        rw [hs2 t fun i o' hi _=>hno i o' hi] at ht
        simp only
        rw [hO t hno]; exact ht
  have hready:∀ (listed:Array Bool) ,listed.size = ops.size→(∀ j,j < ops.toList.length→(listed.getD j false) = true→∀ i,Nat.testBit ((atN bs j).getD 0) i = true→listed.getD i false = true)→∀ j,j < ops.size→listed.getD j false = false→Region.ready .any ops listed ≠ []:=by
    intro listed hsz hd j
    induction j using Nat.strongRecOn with
    | _ j ih =>
      intro hj hu hr
      have hget:ops.toList[j]? = some ops.toList[j]:=List.getElem?_eq_getElem (show j < ops.toList.length from hj)
      have hback:=(zBd g.data hget).2.2
      by_cases hall:∀ e ∈ ops.toList[j].after.toList,Region.binds .any e = true→listed.getD e.on false = true
      · have hmem:j ∈ Region.ready .any ops listed:=by
          rw [mem_ready]
          refine ⟨?_,ops.toList[j],by rw [← Array.getElem?_toList]; exact hget,fun e he hb=>hall e (by simpa using he) hb⟩
          have:j < listed.size:=by omega
          simpa [Array.getD,this] using hu
        rw [hr] at hmem
        cases hmem
      · obtain ⟨e,hne⟩:=Classical.not_forall.1 hall
        simp only [Classical.not_imp] at hne
        obtain ⟨he,hb,hf⟩:=hne
        have hlt:=hback e he hb
        exact ih e.on hlt (by omega) (by simpa using hf) hr
  intro fuel
  induction fuel with
  | zero =>
    intro listed a w hsz hleft hm
    have hall:=z3H (n:=ops.size) (Nat.le_zero.1 hleft)
    refine ⟨?_,hfinal listed a w hall hm⟩
    cases hr:Region.ready .any ops listed with
    | nil=>rfl
    | cons x l =>
      have hx:x ∈ Region.ready .any ops listed:=by rw [hr]; simp
      obtain ⟨h1,o,h2,_⟩:=mem_ready.1 hx
      have hlt:=(Array.getElem?_eq_some_iff.1 h2).1
      have:=hall x hlt
      have hl:x < listed.size:=by omega
      simp [Array.getD,hl] at this h1
      rw [h1] at this; cases this
  | succ fuel ih =>
    intro listed a w hsz hleft hm
    constructor
    · intro hr
      refine hfinal listed a w (fun i hi=>?_) hm
      cases hdi:listed.getD i false with
      | true=>rfl
      | false=>exact absurd hr (hready listed hsz hm.down i hi hdi)
    · intro j hj
      obtain ⟨h1,o,h2,h3⟩:=mem_ready.1 hj
      have hlt:=(Array.getElem?_eq_some_iff.1 h2).1
      have hl:j < listed.size:=by omega
      have hu:listed.getD j false = false:=by simpa [Array.getD,hl] using h1
      have hadd:add (fun i=>listed.getD i false) j = fun i=>(listed.setIfInBounds j true).getD i false:=by
        funext i
        unfold add
        by_cases e:i = j
        · subst e; simp [hl]
        · rw [if_neg e,getD_set_ne false (Ne.symm e)]
      refine g.go hE hG hnt hm ⟨hlt,hu,g.bef hm.down (by rw [Array.getElem?_toList]; exact h2) fun e he hb=>h3 e (by simpa using he) hb⟩ fun a' w' hm'=>?_
      rw [hadd] at hm'
      refine ih _ _ _ (by simpa using hsz) ?_ hm'
      have:=left_step (f:=fun i=>listed.getD i false) (g:=fun i=>(listed.setIfInBounds j true).getD i false) (n:=ops.size) (j:=j) hu (by simp [hl]) (fun i hi=>getD_set_ne false (Ne.symm hi))
      rw [if_pos hlt] at this
      omega
theorem qe7 {k:St→Option R} {r:R} {st:St} {a:Act} {w:World} {id:Nat} (hm:P.follows .mixedOrders = true) (hE:qv P G E) (hG:G.le F0) (hnt:E.nt = nt) (hdata:zYw (zBb ops.toList []) ops.toList = true)
    (hQ:∀ st a w,Inv P nt F0 w0 st a w→k st = some r→Q .normal a w) (hi:Inv P nt F0 w0 st a w) (he:evD E ops.toList (zBb ops.toList []) ops.toList 0 [] st k = some r):(Code.region id ops true).wp P Q a w:=by
  refine wp_region_any hm ?_
  obtain ⟨S,V,D,h1,h2,h3,h4,h5,h6⟩:=z3G ops.toList 0 [] st he
  have g:Reg E ops.toList (zBb ops.toList []) S V D:=⟨hdata,rfl,h3,fun i o hi=>by have:=h4 i o hi; simpa using this,fun i i' hii hl=>by have:=h6 i i' hii hl; simpa using this⟩
  obtain ⟨m,F,hrel⟩:=hi
  rw [Nat.zero_add] at h2
  refine g.any hE hG hnt (fun a w hi=>hQ _ a w hi h2) ops.size _ a _ (by simp) ?_ ?_
  · rw [z3I]
    · exact Nat.le_refl _
    · intro i hi; simp [hi]
  · obtain ⟨e,n,hh⟩:=g.open (done:=fun i=>(Array.replicate ops.size false).getD i false) (c:=0) (Nat.zero_le _) (.inl rfl) (fun i hi _=>by
        have:i < ops.size:=hi
        simp [this]) (fun i _ hi _=>by
        have:i < ops.size:=hi
        simp [this])
    refine ⟨fun j hj hdj=>?_,0,e,_,hh,(S 0).fr,m,F,?_,fun i o d hi hdi=>?_,fun t _=>rfl⟩
    · have:j < ops.size:=hj
      simp [this] at hdj
    · rw [h1]; exact hrel.drew.holes n
    · have:i < ops.size:=(List.getElem?_eq_some_iff.1 hi).1
      simp [this] at hdi
end
end Go.Ev
end
section
namespace Go.Ev
open Go.RowKit
theorem zY2:∀ {l:List Nat} {i:Nat},i ∈ l→l[idxOf l i]? = some i
  | x :: l,i,h=>by
    by_cases e:x = i
    · subst e; simp [idxOf,beq_self]
    · have hm:i ∈ l:=by
        rcases List.mem_cons.1 h with h | h
        · exact absurd h.symm e
        · exact h
      simp only [idxOf,zh5 e,cond_false,List.getElem?_cons_succ]
      exact zY2 hm
theorem zLC:∀ {l:List Nat},zSO l = true→∀ (i j x:Nat),l[i]? = some x→l[j]? = some x→i = j
  | [],_,i,_,x,hi,_=>by simp at hi
  | y :: l,h,i,j,x,hi,hj=>by
    simp only [zSO,Bool.and_eq_true,Bool.not_eq_true'] at h
    have hno:∀ k,l[k]? ≠ some y:=fun k hk=>by
      have:=zF2.2 (List.mem_of_getElem? hk)
      rw [h.1] at this; cases this
    cases i with
    | zero =>
      simp only [List.getElem?_cons_zero,Option.some.injEq] at hi
      subst hi
      cases j with
      | zero=>rfl
      | succ j=>exact absurd (by simpa using hj) (hno j)
    | succ i =>
      cases j with
      | zero =>
        simp only [List.getElem?_cons_zero,Option.some.injEq] at hj
        subst hj
        exact absurd (by simpa using hi) (hno i)
      | succ j =>
        rw [zLC h.2 i j x (by simpa using hi) (by simpa using hj)]
section
variable {P:Program} {nt:Nat} {F0 F:FH} {w0 w:World} {st:St} {m:MM} {a:Act}
theorem ztF {l:List Nat} {v:AV} {i:Nat} (hv:v.okG1 l = true) (hi:v.has1 i = true):i ∈ l:=by
  cases v <;> simp only [AV.has1] at hi <;> first | (cases hi; done) | (rw [← Nat.eq_of_beq_eq_true hi]; exact zF2.1 hv)
theorem qa3 {l:List Nat} {v:AV} {i:Nat} (ht:∀ vs,v ≠ .tup vs) (hv:v.okG l = true) (hi:v.has i = true):i ∈ l:=by
  cases v with
  | tup vs=>exact absurd rfl (ht vs)
  | fld b vs =>
    simp only [AV.has,List.any_eq_true] at hi
    obtain ⟨x,hx,hi⟩:=hi
    simp only [AV.okG,List.all_eq_true] at hv
    exact ztF (hv x hx) hi
  | dat τ x=>cases hi
  | clip τ x=>cases hi
  | dead=>cases hi
  | bp id p=>exact ztF (v:=.bp id p) hv hi
  | rp id i p=>exact ztF (v:=.rp id i p) hv hi
  | ow id=>exact ztF (v:=.ow id) hv hi
  | om id=>exact ztF (v:=.om id) hv hi
  | ds id i p=>exact ztF (v:=.ds id i p) hv hi
  | dp id i p j q=>exact ztF (v:=.dp id i p j q) hv hi
def MM.sel (m:MM) (l:List Nat):MM:=⟨fun j=>(l[j]?).bind m,fun j=>match l[j]? with | some i=>m.d i | none=>fun _ _=>none⟩
theorem MM.sel_f {m:MM} {l:List Nat} {j:Nat} {b:Nat × Nat} (h:(m.sel l) j = some b):∃ i,l[j]? = some i ∧ m i = some b:=Option.bind_eq_some_iff.1 h
theorem MM.sel_d {m:MM} {l:List Nat} {i k:Nat} {p:List Nat} {b:Nat × Nat} (h:(m.sel l).d i k p = some b):∃ x,l[i]? = some x ∧ m.d x k p = some b:=by
  simp only [MM.sel] at h
  cases hx:l[i]? with
  | none=>rw [hx] at h; cases h
  | some x=>rw [hx] at h; exact ⟨x,rfl,h⟩
theorem MM.sel_at {m:MM} {l:List Nat} {i x:Nat} (h:l[i]? = some x):(m.sel l) i = m x ∧ (m.sel l).d i = m.d x:=by
  simp only [MM.sel,h,Option.bind_some,and_self]
theorem qbT (l:List Nat) (hi:Inv P nt F0 w0 st a w):Inv P nt F0 w0 (z6v l st) a w:=by
  unfold z6v
  cases hc:(zSO l && (st.fr.all (fun p=>p.2.okG l) && l.all fun i=>match atN st.h i with | some o=>o.okG l | none=>true)) with
  | false=>exact hi
  | true =>
    simp only [Bool.and_eq_true] at hc
    obtain ⟨h1,h2,h3⟩:=hc
    obtain ⟨m,F,h⟩:=hi
    refine ⟨m.sel l,F,?_⟩
    have hR:∀ i,i ∈ l→∀ o,atN st.h i = some o→atN (l.map fun i=>((atN st.h i).getD .gone).ren l) (idxOf l i) = some (o.rn (idxOf l)) ∧ (m.sel l) (idxOf l i) = m i ∧ (m.sel l).d (idxOf l i) = m.d i:=by
      intro i hil o ho
      have:=zY2 hil
      refine ⟨?_,MM.sel_at this⟩
      rw [jg,List.getElem?_map,this,Option.map_some,ho,Option.getD_some,Obj.ren_rn]
    have hV:∀ {v:AV} {u:Value},v.okG l = true→qf P st.h m F v u→qf P (l.map fun i=>((atN st.h i).getD .gone).ren l) (m.sel l) F (v.ren l) u:=by
      intro v u hv hr
      rw [AV.ren_rn]
      exact hr.rn fun i hi o ho=>hR i (qa3 (fun vs e=>by subst e; exact hr.elim) hv hi) o ho
    refine ⟨h.nt,fun t v ht=>?_,fun j u hu=>?_,fun i j b n n' hi hj=>?_,fun j b n hj=>?_,fun i j p b n hp=>?_,fun i1 j1 p1 b n i2 j2 p2 n' q1 q2=>?_,h.fok,h.gro,h.bel,h.dfr⟩
    · simp only [cond_true] at ht
      rw [z6w] at ht
      obtain ⟨x,hx,rfl⟩:=Option.map_eq_some_iff.1 ht
      have hmem:∀ (fr:List (Nat × AV)),look fr t = some x→∃ p ∈ fr,p.2 = x:=by
        intro fr
        induction fr with
        | nil=>intro h; simp [look] at h
        | cons p fr ih =>
          intro h
          obtain ⟨k,y⟩:=p
          simp only [look] at h
          cases hb:Nat.beq k t with
          | true=>rw [hb] at h; simp only [cond_true,Option.some.injEq] at h; exact ⟨(k,y),by simp,h⟩
          | false=>rw [hb] at h; obtain ⟨p,hp,e⟩:=ih h; exact ⟨p,by simp [hp],e⟩
      obtain ⟨p,hp,rfl⟩:=hmem _ hx
      have hok:=List.all_eq_true.1 h2 p hp
      have hr:=h.fr t p.2 hx
      simp only [cond_true]
      cases hpv:p.2 with
      | tup vs =>
        rw [hpv] at hok hr
        exact zq.pure (h:=st.h) (m:=m) hok hr
      | _ =>
        rw [hpv] at hok hr
        rw [zq.eq1 (by intro vs e; cases e)] at hr
        refine zq.of1 ?_
        exact hV hok hr
    · simp only [cond_true] at hu ⊢
      rw [jg,List.getElem?_map] at hu
      obtain ⟨i,hi,rfl⟩:=Option.map_eq_some_iff.1 hu
      have hok:=List.all_eq_true.1 h3 i (List.mem_of_getElem? hi)
      cases ho:atN st.h i with
      | none=>rw [Option.getD_none]; trivial
      | some o =>
        rw [ho] at hok
        rw [Option.getD_some,Obj.ren_rn]
        refine (h.obs i o ho).rn (fun v f e i' hi' o' ho'=>hR i' ?_ o' ho') (MM.sel_at hi).1 (MM.sel_at hi).2
        subst e
        refine qa3 (fun vs e=>?_) hok hi'
        subst e
        obtain ⟨_,_,_,_,_,_,_,h5,_⟩:=(h.obs i _ ho)
        exact h5.elim
    · obtain ⟨x,hx,hi⟩:=MM.sel_f hi
      obtain ⟨y,hy,hj⟩:=MM.sel_f hj
      have:=h.inj _ _ _ _ _ hi hj
      subst this
      exact zLC h1 i j x hx hy
    · obtain ⟨x,hx,hj⟩:=MM.sel_f hj
      have:=h.rng _ _ _ hj
      refine ⟨?_,this.2⟩
      simp only [cond_true,List.length_map]
      exact (List.getElem?_eq_some_iff.1 hx).1
    · obtain ⟨x,hx,hp⟩:=MM.sel_d hp
      obtain ⟨⟨o,g1,g2⟩,g3,g4,g5,g6⟩:=h.dok _ _ _ _ _ hp
      refine ⟨⟨o.rn (idxOf l),?_,by rw [zSW]; exact g2⟩,g3,g4,g5,fun i' n' hi'=>?_⟩
      · simp only [cond_true]
        rw [jg,List.getElem?_map,hx,Option.map_some,g1,Option.getD_some,Obj.ren_rn]
      · obtain ⟨y,hy,hi'⟩:=MM.sel_f hi'
        exact g6 _ _ hi'
    · obtain ⟨x,hx,q1⟩:=MM.sel_d q1
      obtain ⟨y,hy,q2⟩:=MM.sel_d q2
      obtain ⟨rfl,e2,e3⟩:=h.din _ _ _ _ _ _ _ _ _ q1 q2
      exact ⟨zLC h1 i1 i2 x hx hy,e2,e3⟩
theorem z6T (hi:Inv P nt F0 w0 st a w):Inv P nt F0 w0 (St.gc st) a w:=qbT _ hi
theorem zWQ (live:Nat) (hi:Inv P nt F0 w0 st a w):Inv P nt F0 w0 ⟨z6s live st.fr,st.h⟩ a w:=by
  obtain ⟨m,F,h⟩:=hi
  exact ⟨m,F,h.frames fun t v ht=>zLy (fun t=>Nat.testBit live t) st.fr t v ht⟩
end
end Go.Ev
end
section
namespace Go.Ev
open Go.RowKit
def Ex.of:Ex→Exit
  | .normal=>.normal
  | .exit id=>.exit id
  | .ret=>.ret
section
variable {P:Program} {nt:Nat} {F0 G:FH} {w0 w:World} {E:Env} {R:Type} {a:Act} {Q:Exit→Act→World→Prop}
theorem z6U {p:Nat→Prop} (h:∃ n,p n):∃ n,p n ∧ ∀ m,p m→n ≤ m:=by
  obtain ⟨n,hn⟩:=h
  induction n using Nat.strongRecOn with
  | _ n ih =>
    by_cases hm:∃ m,m < n ∧ p m
    · obtain ⟨m,h1,h2⟩:=hm
      exact ih m h1 h2
    · refine ⟨n,hn,fun m h=>?_⟩
      rcases Nat.lt_or_ge m n with h1 | h1
      · exact absurd ⟨m,h1,h⟩ hm
      · exact h1
open Classical in
noncomputable def leastOf (X:Nat→Act→World→Prop) (a:Act) (w:World):Nat:=if h:∃ n,X n a w then Classical.choose (z6U h) else 0
theorem qdh {c:Code} (X:Nat→Act→World→Prop) (round:∀ n a w,X n a w→c.wp P (Exit.then (fun a' w'=>∃ m,m < n ∧ X m a' w') Q) a w) {n:Nat} (h:X n a w):(Code.loop c).wp P Q a w:=by
  have hspec:∀ {a:Act} {w:World},(∃ n,X n a w)→X (leastOf X a w) a w ∧ ∀ m,X m a w→leastOf X a w ≤ m:=by
    intro a w h
    unfold leastOf
    rw [dif_pos h]
    exact Classical.choose_spec (z6U h)
  refine wp_loop (fun a w=>∃ n,X n a w) (leastOf X) ⟨n,h⟩ fun a w hI=>?_
  refine wp_mono (round _ a w (hspec hI).1) fun e a' w' hq=>?_
  cases e with
  | normal =>
    obtain ⟨m,h1,h2⟩:=hq
    exact ⟨⟨m,h2⟩,Nat.lt_of_le_of_lt ((hspec ⟨m,h2⟩).2 m h2) h1⟩
  | _=>exact hq
def Goes (P:Program) (nt:Nat) (F0:FH) (w0:World) (k:Ex→St→Option R) (r:R) (Q:Exit→Act→World→Prop):Prop :=
  ∀ e st a w,Inv P nt F0 w0 st a w→k e st = some r→Q e.of a w
theorem qa4 {K id ln:Nat} {r:R} {k:St→Option R} {Q:Exit→Act→World→Prop} (hQ:∀ st a w,Inv P nt F0 w0 st a w→k st = some r→Q .normal a w):∀ st a w,Inv P nt F0 w0 st a w→jr E K id ln k st = some r→Q .normal a w:=by
  intro st a w hi hk
  unfold jr at hk
  cases hb:zLx id E.jn with
  | false=>rw [hb] at hk; exact hQ st a w hi hk
  | true =>
    rw [hb] at hk
    cases K with
    | zero=>cases hk
    | succ K=>exact hQ _ _ _ (z6T (zWQ _ hi)) hk
theorem qe8 (hm:P.follows .mixedOrders = true) (hE:qv P G E) (hG:G.le F0) (hnt:E.nt = nt) {K fin:Nat} {r:R} :
    ∀ (c:Code) {lx:Nat→Nat} {ln:Nat} {k:Ex→St→Option R} {st:St} {a:Act} {w:World} {Q:Exit→Act→World→Prop},Goes P nt F0 w0 k r Q→Inv P nt F0 w0 st a w→evC E K fin c lx ln k st = some r→c.wp P Q a w:=by
  intro c
  induction c with
  | skip=>intro lx ln k st a w Q hQ hi he; exact wp_skip (hQ .normal _ _ _ hi he)
  | label l=>intro lx ln k st a w Q hQ hi he; exact wp_label (hQ .normal _ _ _ hi he)
  | exit id=>intro lx ln k st a w Q hQ hi he; exact wp_exit (hQ (.exit id) _ _ _ hi he)
  | ret=>intro lx ln k st a w Q hQ hi he; exact wp_ret (hQ .ret _ _ _ hi he)
  | region id ops d =>
    intro lx ln k st a w Q hQ hi he
    simp only [evC] at he
    cases d with
    | true =>
      simp only [cond_true] at he
      obtain ⟨h1,h2⟩:=zf he
      exact qe7 hm hE hG hnt h1 (qa4 fun st a w hi hk=>hQ .normal _ _ _ hi hk) hi h2
    | false =>
      simp only [cond_false] at he
      refine wp_region ?_
      have:=qdd (Q:=Q) hE hG hnt (qa4 fun st a w hi hk=>hQ .normal _ _ _ hi hk) ops.toList [] st a w rfl hi he
      rw [List.range_eq_range']
      exact this
  | seq x y ihx ihy =>
    intro lx ln k st a w Q hQ hi he
    simp only [evC] at he
    refine wp_seq (ihx ?_ hi he)
    intro e st a w hi hk
    cases e with
    | normal=>exact ihy hQ hi hk
    | exit id=>exact hQ (.exit id) _ _ _ hi hk
    | ret=>exact hQ .ret _ _ _ hi hk
  | cond c x y ihx ihy =>
    intro lx ln k st a w Q hQ hi he
    simp only [evC] at he
    split at he
    · rename_i t hc
      obtain ⟨m,F,h⟩:=id hi
      have hb:=(zM hE hG h hc).bool
      cases ht:(show Bool from t) with
      | true =>
        have ht':t = true:=ht
        subst ht'
        exact wp_cond_true hb (ihx hQ hi he)
      | false =>
        have ht':t = false:=ht
        subst ht'
        exact wp_cond_false hb (ihy hQ hi he)
    · cases he
  | block id b ih =>
    intro lx ln k st a w Q hQ hi he
    simp only [evC] at he
    refine wp_block (ih ?_ hi he)
    intro e st a w hi hk
    cases e with
    | normal=>exact hQ .normal _ _ _ hi hk
    | exit id' =>
      simp only [Ex.of,Exit.inBlock]
      by_cases e:id' = id
      · subst e
        rw [if_pos rfl]
        simp only [beq_self,cond_true] at hk
        exact hQ .normal _ _ _ hi hk
      · rw [if_neg e]
        simp only [zh5 e,cond_false] at hk
        exact hQ (.exit id') _ _ _ hi hk
    | ret=>exact hQ .ret _ _ _ hi hk
  | loop b ih =>
    intro lx ln k st a w Q hQ hi he
    simp only [evC] at he
    refine qdh (fun n a w=>∃ st,Inv P nt F0 w0 st a w ∧ zUV (lv fin (.loop b) lx ln) (evC E K fin b lx (lv fin (.loop b) lx ln)) k n st = some r) ?_ ⟨_,z6T (zWQ _ hi),he⟩
    rintro n a w ⟨st,hi,he⟩
    cases n with
    | zero=>cases he
    | succ n =>
      simp only [zUV] at he
      refine ih ?_ hi he
      intro e st a w hi hk
      cases e with
      | normal=>exact ⟨n,Nat.lt_succ_self n,_,z6T (zWQ _ hi),hk⟩
      | exit id=>exact hQ (.exit id) _ _ _ hi hk
      | ret=>exact hQ .ret _ _ _ hi hk
  | scope b ih =>
    intro lx ln k st a w Q hQ hi he
    simp only [evC] at he
    refine wp_scope_straight (ih ?_ hi he)
    intro e st a w hi hk
    cases e with
    | normal=>exact hQ .normal _ _ _ hi hk
    | exit id=>exact hQ (.exit id) _ _ _ hi hk
    | ret=>exact hQ .ret _ _ _ hi hk
  | _=>intro lx ln k st a w Q hQ hi he; simp [evC] at he
end
end Go.Ev
end
section
namespace Go.Ev
open Go.RowKit
section
variable {P:Program} {nt:Nat} {F0 F G:FH} {w0 w:World} {st st':St} {m:MM} {a:Act} {E:Env} {v:AV} {u:Value}
theorem z9m:∀ {τ:Ty} {x:τ.I} {i t:Nat} {v:AV} {vs:List Value},look (params τ x i) t = some v→zah P F τ x vs→i ≤ t ∧ ∃ σ y u,v = .dat σ y ∧ vs[t - i]? = some u ∧ qB P F σ y u:=by
  intro τ
  induction τ with
  | pair a b _ ihb =>
    rintro x i t v vs h ⟨u,r,rfl,h1,h2,h3⟩
    simp only [params] at h
    by_cases e:i = t
    · subst e
      simp only [look,beq_self,cond_true,Option.some.injEq] at h
      exact ⟨Nat.le_refl _,a,x.1,u,h.symm,by simp,h1,h2⟩
    · simp only [look,zh5 e,cond_false] at h
      obtain ⟨g1,σ,y,u',g2,g3,g4⟩:=ihb h h3
      refine ⟨by omega,σ,y,u',g2,?_,g4⟩
      rw [show t - i = (t - (i + 1)) + 1 by omega,List.getElem?_cons_succ]
      exact g3
  | _=>intro x i t v vs h; simp [params,look] at h
theorem Rel.enter {τ:Ty} {x:τ.I} {vs:List Value} (hk:F0.ok w) (hr:zah P F0 τ x vs) (n:Nat) :
    Rel P n F0 w ⟨params τ x 0,[]⟩ MM.emp F0 { tmps:=vs.toArray ++ Array.replicate (n - vs.toArray.size) undef,defers:=[] } w:=by
  refine ⟨by simp; omega,fun t v ht=>?_,fun i o ho=>(by simp [atN] at ho),fun _ _ _ _ _ h=>(nomatch h),fun _ _ _ h=>(nomatch h),fun _ _ _ _ _ h=>(nomatch h),fun _ _ _ _ _ _ _ _ _ h=>(nomatch h),hk,⟨.refl F0,fun _ _=>rfl⟩,⟨rfl,rfl,rfl,Nat.le_refl _,fun _ _=>rfl⟩,rfl⟩
  obtain ⟨_,σ,y,u,rfl,h2,h3⟩:=z9m ht hr
  rw [Nat.sub_zero] at h2
  have hlt:=(List.getElem?_eq_some_iff.1 h2).1
  have:(vs.toArray ++ Array.replicate (n - vs.toArray.size) undef).getD t undef = u:=by
    rw [Array.getD_eq_getD_getElem?,Array.getElem?_append_left (by simpa using hlt)]
    simp [h2]
  rw [this]
  exact h3
def zSY (tmps:Array Value):ResultVar→Sem Value
  | .tmp t=>pure (tmps.getD t undef)
  | .cell a t=>do loadVar t (← asAddr (tmps.getD a undef))
theorem qbU (fn:Func) (tmps:Array Value):results fn tmps = (do let vs ← fn.results.mapM (zSY tmps); pure (if h:vs.size = 1 then vs[0] else .tuple vs)):=rfl
theorem qdi {rv:ResultVar} (hE:qv P G E) (h:Rel P nt F0 w0 st m F a w) (hr:zJ3 E st rv = some v) :
    ∃ u,(zSY a.tmps rv).run P w = .ok u w ∧ zq P st.h m F v u:=by
  cases rv with
  | tmp t=>exact ⟨_,rfl,h.fr t v hr⟩
  | cell d t =>
    simp only [zJ3] at hr
    split at hr
    · rename_i id hl
      have hx:=h.fr d _ hl
      have key:∀ (y:AV) (f:Bool),atN st.h id = some (.bx y f)→zbw E t (.bp id []) st pk = some (v,st) →
          ∃ u,(zSY a.tmps (.cell d t)).run P w = .ok u w ∧ zq P st.h m F v u:=by
        intro y f ho he
        obtain ⟨u,h1,_,h2⟩:=zPp hE h hx he
        obtain ⟨b,n,off,_,hp,_⟩:=hx.bpAt ho
        refine ⟨u,?_,h2⟩
        simp only [zSY]
        rw [hp] at h1 ⊢
        simpa [Instr.loadAt,Instr.sureAddr,asAddr] using h1
      split at hr
      · rename_i τ x f ho
        obtain ⟨h1,h2⟩:=zf hr
        cases h2
        refine key _ _ ho ?_
        simp only [zbw,ho,qM,h1,cond_true]
        unfold kAV
        split
        · have:∀ b:Bool,kB b st pk = some (.dat .bool b,st):=fun b=>by cases b <;> rfl
          rename_i b hq
          cases hq
          exact this b
        · rfl
      · rename_i b vs f ho
        obtain ⟨h1,h2⟩:=zf hr
        cases h2
        refine key _ _ ho ?_
        simp only [zbw,ho,h1,cond_true]
      · rename_i y f hnd hnf ho
        obtain ⟨h1,h2⟩:=zf hr
        cases h2
        refine key _ _ ho ?_
        simp only [zbw,ho]
        cases v <;> first | (simp only [h1,cond_true]; done) | exact absurd rfl (hnd _ _) | exact absurd rfl (hnf _ _) | (simp only [h1,cond_true]; rfl)
      · cases hr
    · cases hr
theorem z9n {f:Func} {vs:List AV} (hE:qv P G E) (h:Rel P nt F0 w0 st m F a w) (hr:f.results.toList.map (zJ3 E st) = vs.map some) :
    ∃ us,(results f a.tmps).run P w = .ok (zPk us) w ∧ zsY P st.h m F vs us:=by
  have key:∀ (l:List ResultVar) (vs:List AV),l.map (zJ3 E st) = vs.map some→∃ us:List Value,(l.mapM (zSY a.tmps)).run P w = .ok us w ∧ zsY P st.h m F vs us:=by
    intro l
    induction l with
    | nil =>
      intro vs h
      cases vs with
      | nil=>exact ⟨[],by simp,rfl⟩
      | cons _ _=>simp at h
    | cons rv l ih =>
      intro vs hl
      cases vs with
      | nil=>simp at hl
      | cons v vs =>
        simp only [List.map_cons,List.cons.injEq] at hl
        obtain ⟨us,h1,h2⟩:=ih vs hl.2
        obtain ⟨u,h3,h4⟩:=qdi hE h hl.1
        refine ⟨u :: us,?_,u,us,rfl,h4,h2⟩
        simp only [List.mapM_cons,Sem.run_bind]
        rw [h3]
        simp only [Result.andThen_ok,h1,Sem.run_pure]
  obtain ⟨us,h1,h2⟩:=key _ _ hr
  refine ⟨us,?_,h2⟩
  rw [qbU,Array.mapM_eq_mapM_toList,← bind_pure_comp]
  simp only [Sem.run_bind,h1,Result.andThen_ok,Sem.run_pure]
  match us with
  | []=>rfl
  | [u]=>rfl
  | u :: v :: us=>rfl
theorem zQK {α:Type}:∀ {l:List (Option α)},l.all Option.isSome = true→l = (l.filterMap id).map some
  | [],_=>rfl
  | none :: l,h=>by simp at h
  | some x :: l,h=>by
    simp only [List.all_cons,Option.isSome_some,Bool.true_and] at h
    simp only [List.filterMap_cons,id,List.map_cons,← zQK h]
def zdU (h0 h:List Obj):Prop:=h0.length = h.length ∧ ∀ i,atN h0 i = some .gone ∨ atN h0 i = atN h i
theorem zdU.refl (h:List Obj):zdU h h:=⟨rfl,fun _=>.inr rfl⟩
theorem zdU.at {h0 h:List Obj} (l:zdU h0 h) {i:Nat} {o:Obj} (ho:atN h0 i = some o) (hg:o ≠ .gone):atN h i = some o:=by
  rcases l.2 i with e | e
  · rw [e] at ho; cases ho; exact absurd rfl hg
  · rw [← e]; exact ho
theorem zdU.gone {h0 h:List Obj} (l:zdU h0 h) {i:Nat} {o:Obj} (ho:atN h0 i = some o):zdU (zk h0 i .gone) h:=by
  refine ⟨by simp only [yq,List.length_set]; exact l.1,fun j=>?_⟩
  by_cases e:i = j
  · subst e; exact .inl (zdb ho)
  · rw [jV e]; exact l.2 j
theorem zdU.set {h0 h:List Obj} (l:zdU h0 h) {i:Nat} {o o':Obj} (ho:atN h0 i = some o) (hg:o ≠ .gone):zdU (zk h0 i o') (zk h i o'):=by
  refine ⟨by simp only [yq,List.length_set]; exact l.1,fun j=>?_⟩
  by_cases e:i = j
  · subst e; right; rw [zdb ho,zdb (l.at ho hg)]
  · rw [jV e,jV e]; exact l.2 j
def Kept (h0 h h0' h':List Obj):Prop:=zdU h0' h' ∧ ∀ i,atN h0 i = some .gone→atN h0' i = some .gone ∧ atN h' i = atN h i
theorem Kept.refl {h0 h:List Obj} (l:zdU h0 h):Kept h0 h h0 h:=⟨l,fun _ h=>⟨h,rfl⟩⟩
theorem Kept.trans {h0 h h1 h' h2 h'':List Obj} (a:Kept h0 h h1 h') (b:Kept h1 h' h2 h''):Kept h0 h h2 h'' :=
  ⟨b.1,fun i hi=>⟨(b.2 i (a.2 i hi).1).1,(b.2 i (a.2 i hi).1).2.trans (a.2 i hi).2⟩⟩
theorem Kept.set {h0 h:List Obj} (l:zdU h0 h) {i:Nat} {o o':Obj} (ho:atN h0 i = some o) (hg:o ≠ .gone):Kept h0 h (zk h0 i o') (zk h i o'):=by
  refine ⟨l.set ho hg,fun j hj=>?_⟩
  have e:i ≠ j:=by rintro rfl; rw [ho] at hj; cases hj; exact hg rfl
  rw [jV e,jV e]; exact ⟨hj,rfl⟩
theorem zBB {q:Bool} {fr:List (Nat × AV)} {h0 h:List Obj} {τ:Ty} {x:τ.I} {st':St} (l:zdU h0 h) (hz:yf q ⟨fr,h0⟩ v = some ⟨τ,x,st'⟩):∃ h',yf q ⟨fr,h⟩ v = some ⟨τ,x,⟨fr,h'⟩⟩ ∧ st'.fr = fr ∧ Kept h0 h st'.h h':=by
  cases v with
  | dat τ' y=>simp only [yf,Option.some.injEq] at hz; cases hz; exact ⟨h,rfl,rfl,.refl l⟩
  | clip τ' y=>simp only [yf,Option.some.injEq] at hz; cases hz; exact ⟨h,rfl,rfl,.refl l⟩
  | ow id =>
    simp only [yf] at hz ⊢
    split at hz
    · rename_i σ xs ho
      cases hz
      rw [l.at ho (by intro e; cases e)]
      exact ⟨h,rfl,rfl,.refl l⟩
    · rename_i σ xs ho
      cases q with
      | true=>cases hz
      | false =>
        cases hz
        rw [l.at ho (by intro e; cases e)]
        exact ⟨_,rfl,rfl,.set l ho (by intro e; cases e)⟩
    · rename_i σ xs k ho
      cases q with
      | true=>cases hz
      | false =>
        cases hz
        rw [l.at ho (by intro e; cases e)]
        exact ⟨_,rfl,rfl,.set l ho (by intro e; cases e)⟩
    · cases hz
  | bp id p =>
    cases p with
    | cons _ _=>simp [yf] at hz
    | nil =>
      simp only [yf] at hz ⊢
      split at hz
      · rename_i σ y ho
        cases hz
        rw [l.at ho (by intro e; cases e)]
        exact ⟨h,rfl,rfl,.refl l⟩
      · rename_i σ y ho
        cases q with
        | true=>cases hz
        | false =>
          cases hz
          rw [l.at ho (by intro e; cases e)]
          exact ⟨_,rfl,rfl,.set l ho (by intro e; cases e)⟩
      · cases hz
  | _=>simp [yf] at hz
theorem z9o {q:Bool} {σ:Ty} {fr:List (Nat × AV)} {h0 h:List Obj} {x:σ.I} {st':St} (l:zdU h0 h) (hz:zeW q σ ⟨fr,h0⟩ v = some (x,st')):∃ h',zeW q σ ⟨fr,h⟩ v = some (x,⟨fr,h'⟩) ∧ st'.fr = fr ∧ Kept h0 h st'.h h':=by
  unfold zeW at hz ⊢
  split at hz
  · rename_i τ y st1 hz1
    obtain ⟨h',e1,e2,e3⟩:=zBB l hz1
    rw [e1]
    split at hz
    · rename_i z hc
      cases hz
      exact ⟨h',by simp only [hc],e2,e3⟩
    · cases hz
  · cases hz
theorem z6V {q:Bool} {fr:List (Nat × AV)}:∀ {τ:Ty} {vs:List AV} {h0 h:List Obj} {x:τ.I} {st':St},zdU h0 h→yE q τ vs ⟨fr,h0⟩ = some (x,st')→∃ h',yE q τ vs ⟨fr,h⟩ = some (x,⟨fr,h'⟩) ∧ st'.fr = fr ∧ Kept h0 h st'.h h':=by
  intro τ
  induction τ with
  | unit=>intro vs h0 h x st' l hz; cases vs <;> first | (cases hz; exact ⟨h,rfl,rfl,.refl l⟩) | cases hz
  | pair a b _ ihb =>
    intro vs h0 h x st' l hz
    cases vs with
    | nil=>cases hz
    | cons v vs =>
      simp only [yE] at hz ⊢
      split at hz
      · rename_i y st1 hy
        split at hz
        · rename_i ys st2 hys
          cases hz
          obtain ⟨h',e1,e2,e3⟩:=z9o l hy
          obtain ⟨f1,h1⟩:=st1
          cases e2
          obtain ⟨h'',g1,g2,g3⟩:=ihb e3.1 hys
          rw [e1]
          exact ⟨h'',by simp only [g1],g2,e3.trans g3⟩
        · cases hz
      · cases hz
  | _=>intro vs h0 h x st' l hz; cases vs <;> cases hz
theorem qek {q:Bool} {fr:List (Nat × AV)} {h0 h:List Obj} {τ:Ty} {x:τ.I} {st':St} (l:zdU h0 h) (hz:frz q ⟨fr,h0⟩ v = some ⟨τ,x,st'⟩):∃ h',frz q ⟨fr,h⟩ v = some ⟨τ,x,⟨fr,h'⟩⟩ ∧ st'.fr = fr ∧ Kept h0 h st'.h h':=by
  cases v with
  | fld b vs =>
    simp only [frz] at hz ⊢
    split at hz
    · rename_i y st1 hy
      cases hz
      obtain ⟨h',e1,e2,e3⟩:=z6V l hy
      exact ⟨h',by simp only [e1],e2,e3⟩
    · cases hz
  | dat τ x=>exact zBB (q:=q) (v:=.dat τ x) l hz
  | clip τ x=>exact zBB (q:=q) (v:=.clip τ x) l hz
  | bp id p=>exact zBB (q:=q) (v:=.bp id p) l hz
  | ow id=>exact zBB (q:=q) (v:=.ow id) l hz
  | _=>cases hz
theorem qbV {q:Bool} {σ:Ty} {fr:List (Nat × AV)} {h0 h:List Obj} {x:σ.I} {st':St} (l:zdU h0 h) (hz:zsX q σ ⟨fr,h0⟩ v = some (x,st')):∃ h',zsX q σ ⟨fr,h⟩ v = some (x,⟨fr,h'⟩) ∧ st'.fr = fr ∧ Kept h0 h st'.h h':=by
  unfold zsX at hz ⊢
  split at hz
  · rename_i τ y st1 hz1
    obtain ⟨h',e1,e2,e3⟩:=qek l hz1
    rw [e1]
    split at hz
    · rename_i z hc
      cases hz
      exact ⟨h',by simp only [hc],e2,e3⟩
    · cases hz
  · cases hz
theorem zLD {q:Bool} {fr:List (Nat × AV)}:∀ {τ:Ty} {vs:List AV} {h0 h:List Obj} {x:τ.I} {st':St},zdU h0 h→yV q τ vs ⟨fr,h0⟩ = some (x,st')→∃ h',yV q τ vs ⟨fr,h⟩ = some (x,⟨fr,h'⟩) ∧ st'.fr = fr ∧ Kept h0 h st'.h h':=by
  intro τ
  induction τ with
  | unit=>intro vs h0 h x st' l hz; cases vs <;> first | (cases hz; exact ⟨h,rfl,rfl,.refl l⟩) | cases hz
  | pair a b _ ihb =>
    intro vs h0 h x st' l hz
    cases vs with
    | nil=>cases hz
    | cons v vs =>
      simp only [yV] at hz ⊢
      split at hz
      · rename_i y st1 hy
        split at hz
        · rename_i ys st2 hys
          cases hz
          obtain ⟨h',e1,e2,e3⟩:=qbV l hy
          obtain ⟨f1,h1⟩:=st1
          cases e2
          obtain ⟨h'',g1,g2,g3⟩:=ihb e3.1 hys
          rw [e1]
          exact ⟨h'',by simp only [g1],g2,e3.trans g3⟩
        · cases hz
      · cases hz
  | _=>intro vs h0 h x st' l hz; cases vs <;> cases hz
end
section
variable {P:Program} {nt:Nat} {F0 F G:FH} {w0 w:World} {st st':St} {m:MM} {a:Act} {E:Env} {v:AV} {u:Value}
def zLE (ids:Nat→Option Nat) (h:List Obj):(b:Ty)→Nat→b.I→List AV→Prop
  | .pair (.sl σ) b,i,x,v :: vs=>(∃ id,v = .ow id ∧ ids i = some id ∧ atN h id = some (mkO σ (bif σ.deep then some (List.length x.1) else none) x.1)) ∧ zLE ids h b (i + 1) x.2 vs
  | .pair a b,i,x,v :: vs=>v = .dat a x.1 ∧ zLE ids h b (i + 1) x.2 vs
  | .unit,_,_,[]=>True
  | _,_,_,_=>False
theorem zLE.ids {ids ids':Nat→Option Nat} {h:List Obj}:∀ {b:Ty} {i:Nat} {x:b.I} {vs:List AV},(∀ f,i ≤ f→ids' f = ids f)→zLE ids h b i x vs→zLE ids' h b i x vs:=by
  intro b
  induction b with
  | unit=>intro i x vs _ ho; cases vs <;> exact ho
  | pair t b _ ihb =>
    intro i x vs hi ho
    cases vs with
    | nil=>cases t <;> exact ho.elim
    | cons v vs =>
      cases t with
      | sl σ =>
        obtain ⟨⟨id,h1,h2,h3⟩,h4⟩:=ho
        exact ⟨⟨id,h1,by rw [hi i (Nat.le_refl _)]; exact h2,h3⟩,ihb (fun f hf=>hi f (by omega)) h4⟩
      | _=>exact ⟨ho.1,ihb (fun f hf=>hi f (by omega)) ho.2⟩
  | _=>intro i x vs _ ho; cases vs <;> exact ho.elim
theorem zLE.heap {ids:Nat→Option Nat} {h h':List Obj}:∀ {b:Ty} {i:Nat} {x:b.I} {vs:List AV},(∀ f id,ids f = some id→atN h' id = atN h id)→zLE ids h b i x vs→zLE ids h' b i x vs:=by
  intro b
  induction b with
  | unit=>intro i x vs _ ho; cases vs <;> exact ho
  | pair t b _ ihb =>
    intro i x vs hi ho
    cases vs with
    | nil=>cases t <;> exact ho.elim
    | cons v vs =>
      cases t with
      | sl σ =>
        obtain ⟨⟨id,h1,h2,h3⟩,h4⟩:=ho
        exact ⟨⟨id,h1,h2,by rw [hi _ _ h2]; exact h3⟩,ihb hi h4⟩
      | _=>exact ⟨ho.1,ihb hi ho.2⟩
  | _=>intro i x vs _ ho; cases vs <;> exact ho.elim
theorem qdj {h h0 h1:List Obj} (hdr:∀ i τ xs k,atN h i = some (.drow τ xs k)→τ.deep = true) {t:Ty} {x:t.I} (hz:zWE h0 t v = some (x,h1)) (l:zdU h0 h) :
    (v = .dat t x ∧ t.dl = false ∧ h1 = h0) ∨ ∃ (σ:Ty) (xs:List σ.I) (id:Nat),(⟨t,x⟩:(τ:Ty) × τ.I) = ⟨.sl σ,xs⟩ ∧ v = .ow id ∧ atN h id = some (mkO σ (bif σ.deep then some (List.length xs) else none) xs) ∧ atN h0 id ≠ some .gone ∧ (∃ o,atN h0 id = some o) ∧ h1 = zk h0 id .gone:=by
  cases v with
  | dat τ y =>
    simp only [zWE] at hz
    obtain ⟨hdl,hz⟩:=zdS hz
    split at hz
    · rename_i z hc
      cases hz
      obtain ⟨rfl,rfl⟩:=qo hc
      exact .inl ⟨rfl,hdl,rfl⟩
    · cases hz
  | ow id =>
    simp only [zWE] at hz
    right
    split at hz
    · rename_i τ xs ho
      obtain ⟨hd,hz⟩:=zdS hz
      split at hz
      · rename_i z hc
        cases hz
        obtain ⟨e,rfl⟩:=qo hc
        subst e
        refine ⟨τ,xs,id,rfl,rfl,?_,(by rw [ho]; intro e; cases e),⟨_,ho⟩,rfl⟩
        rw [l.at ho (by intro e; cases e),hd]
        rfl
      · cases hz
    · rename_i τ xs n ho
      split at hz
      · rename_i z hc
        obtain ⟨hn,hz⟩:=zf hz
        cases hz
        obtain ⟨e,rfl⟩:=qo hc
        subst e
        have hat:=l.at ho (by intro e; cases e)
        refine ⟨τ,xs,id,rfl,rfl,?_,(by rw [ho]; intro e; cases e),⟨_,ho⟩,rfl⟩
        rw [hat,hdr _ _ _ _ hat,of_decide_eq_true hn]
        rfl
      · cases hz
    · cases hz
  | _=>cases hz
theorem z3J {h:List Obj} (hdr:∀ i τ xs k,atN h i = some (.drow τ xs k)→τ.deep = true):∀ {b:Ty} {vs:List AV} {x:b.I} {h0 h1:List Obj} (i:Nat),z1k b vs h0 = some (x,h1)→zdU h0 h →
    ∃ ids:Nat→Option Nat,zLE ids h b i x vs ∧ zdU h1 h ∧ (∀ f id,ids f = some id→i ≤ f ∧ atN h0 id ≠ some .gone ∧ atN h1 id = some .gone ∧ ∃ σ k xs,atN h id = some (mkO σ k xs)) ∧ (∀ j,atN h0 j = some .gone→atN h1 j = some .gone) ∧
      ∀ f f' id,ids f = some id→ids f' = some id→f = f':=by
  intro b
  induction b with
  | unit =>
    intro vs x h0 h1 i hz l
    cases vs with
    | nil=>cases hz; exact ⟨fun _=>none,trivial,l,fun f id e=>(by cases e),fun _ h=>h,fun f f' id e=>(by cases e)⟩
    | cons _ _=>cases hz
  | pair t b _ ihb =>
    intro vs x h0 h1 i hz l
    cases vs with
    | nil=>cases hz
    | cons v vs =>
      simp only [z1k] at hz
      split at hz
      · rename_i y h2 hy
        split at hz
        · rename_i ys h3 hys
          cases hz
          rcases qdj hdr hy l with ⟨rfl,hdl,rfl⟩ | ⟨σ,xs,id,e,rfl,hat,hng,⟨o,ho⟩,rfl⟩
          · obtain ⟨ids,g1,g2,g3,g4,g5⟩:=ihb (i + 1) hys l
            refine ⟨ids,?_,g2,fun f id hf=>⟨by have:=(g3 f id hf).1; omega,(g3 f id hf).2⟩,g4,g5⟩
            cases t with
            | sl σ=>cases hdl
            | _=>exact ⟨rfl,g1⟩
          · cases e
            obtain ⟨ids,g1,g2,g3,g4,g5⟩:=ihb (i + 1) hys (l.gone ho)
            have hid:atN (zk h0 id .gone) id = some .gone:=zdb ho
            have hids:∀ f,i + 1 ≤ f→(if f = i then some id else ids f) = ids f:=fun f hf=>by rw [if_neg (by omega)]
            refine ⟨fun f=>if f = i then some id else ids f,⟨⟨id,rfl,if_pos rfl,hat⟩,g1.ids hids⟩,g2,fun f id' hf=>?_,fun j hj=>?_,fun f f' id' hf hf'=>?_⟩
            · by_cases e:f = i
              · simp only [e,if_true,Option.some.injEq] at hf
                subst hf
                exact ⟨by omega,hng,g4 _ hid,σ,_,_,hat⟩
              · simp only [e,if_false] at hf
                obtain ⟨k1,k2,k3,k4⟩:=g3 f id' hf
                refine ⟨by omega,fun hg=>k2 ?_,k3,k4⟩
                by_cases e2:id = id'
                · rw [← e2]; exact hid
                · rw [jV e2]; exact hg
            · refine g4 j ?_
              by_cases e2:id = j
              · rw [← e2]; exact hid
              · rw [jV e2]; exact hj
            · by_cases e:f = i <;> by_cases e':f' = i
              · omega
              · simp only [e,if_true,Option.some.injEq] at hf
                simp only [e',if_false] at hf'
                subst hf
                exact absurd hid (g3 f' _ hf').2.1
              · simp only [e,if_false] at hf
                simp only [e',if_true,Option.some.injEq] at hf'
                subst hf'
                exact absurd hid (g3 f _ hf).2.1
              · simp only [e,if_false] at hf
                simp only [e',if_false] at hf'
                exact g5 f f' id' hf hf'
        · cases hz
      · cases hz
  | _=>intro vs x h0 h1 i hz l; cases vs <;> cases hz
def MM.ofI (m:MM) (ids:Nat→Option Nat):Nat→Nat→List Nat→Option (Nat × Nat):=fun f=>match ids f with | some id=>m.d id | none=>fun _ _=>none
theorem MM.ofI_some {m:MM} {ids:Nat→Option Nat} {f j:Nat} {p:List Nat} {b:Nat × Nat} (h:m.ofI ids f j p = some b):∃ id,ids f = some id ∧ m.d id j p = some b:=by
  unfold MM.ofI at h
  cases hi:ids f with
  | none=>rw [hi] at h; cases h
  | some id=>rw [hi] at h; exact ⟨id,rfl,h⟩
theorem qa5 (h:Rel P nt F0 w0 st m F a w) {ids:Nat→Option Nat}:∀ {b:Ty} {i:Nat} {x:b.I} {vs:List AV} {cs:List Value},zLE ids st.h b i x vs→qO P st.h m F b vs cs→zLz P F w (fun f=>(ids f).bind m) (m.ofI ids) b i x cs:=by
  intro b
  induction b with
  | unit =>
    intro i x vs cs ho hv
    cases vs with
    | nil=>exact hv
    | cons _ _=>exact hv.elim
  | pair t b _ ihb =>
    intro i x vs cs ho hv
    cases vs with
    | nil=>exact hv.elim
    | cons v vs =>
      obtain ⟨c,d,rfl,h1,h2⟩:=hv
      cases t with
      | sl σ =>
        obtain ⟨⟨id,rfl,hi,hat⟩,h4⟩:=ho
        obtain ⟨σ',u,e1,rfl,hs,_⟩:=h1
        cases e1
        refine ⟨u,d,rfl,⟨fun j p bk n hp=>?_,?_⟩,ihb h4 h2⟩
        · obtain ⟨id',hi',hp⟩:=MM.ofI_some hp
          rw [hi] at hi'; cases hi'
          obtain ⟨⟨o,g1,g2⟩,_⟩:=h.dok _ _ _ _ _ hp
          rw [hat] at g1
          cases g1
          cases hd:σ.deep with
          | false=>rw [hd] at g2; cases g2
          | true =>
            rw [hd] at g2
            simp only [cond_true,mkO,Obj.deepAt,decide_eq_true_eq] at g2
            exact ⟨rfl,g2⟩
        · have hq:=qR.owAt hat (zNL _ _ _) hs
          show match (ids i).bind m with | some (b,n)=>_ | none=>_
          rw [hi,Option.bind_some]
          cases hmi:m id with
          | none =>
            rw [hmi] at hq
            exact ⟨z6I (h.obs _ _ hat) hmi,hq.2⟩
          | some bn =>
            obtain ⟨bk,n⟩:=bn
            rw [hmi] at hq
            obtain ⟨cap,g1,g2,g3⟩:=hq
            refine ⟨cap,g1,g2,g3,?_⟩
            have:=zPx (h.obs _ _ hat) hmi
            have hd:m.ofI ids i = m.d id:=by unfold MM.ofI; rw [hi]
            rw [hd]
            exact this
      | _ =>
        obtain ⟨rfl,h4⟩:=ho
        exact ⟨c,d,rfl,h1.2,ihb h4 h2⟩
  | _=>intro i x vs cs ho; cases vs <;> exact ho.elim
theorem ownB_of (h:Rel P nt F0 w0 st m F a w) {ids:Nat→Option Nat} (hat:∀ f id,ids f = some id→∃ σ k xs,atN st.h id = some (mkO σ k xs)) (hinj:∀ f f' id,ids f = some id→ids f' = some id→f = f'):qbo F w w0.heap.size (fun f=>(ids f).bind m) (m.ofI ids):=by
  refine ⟨fun f b n hf=>?_,fun f j p b n hp=>?_,fun f f' b n n' hf hf'=>?_,fun f j p b n f' j' p' n' hp hp'=>?_,fun f b n f' j p n' hf hp=>?_⟩
  · obtain ⟨id,hi,hf⟩:=Option.bind_eq_some_iff.1 hf
    obtain ⟨σ,k,xs,ho⟩:=hat f id hi
    obtain ⟨el,cs,c,d,_,_,_,hF,_⟩:=zPx (h.obs _ _ ho) hf
    have:=h.rng _ _ _ hf
    exact ⟨this.2.1,this.2.2,hF⟩
  · obtain ⟨id,hi,hp⟩:=MM.ofI_some hp
    have:=h.dok _ _ _ _ _ hp
    exact ⟨this.2.1,this.2.2.1,this.2.2.2.1⟩
  · obtain ⟨id,hi,hf⟩:=Option.bind_eq_some_iff.1 hf
    obtain ⟨id',hi',hf'⟩:=Option.bind_eq_some_iff.1 hf'
    have:=h.inj _ _ _ _ _ hf hf'
    subst this
    exact hinj _ _ _ hi hi'
  · obtain ⟨id,hi,hp⟩:=MM.ofI_some hp
    obtain ⟨id',hi',hp'⟩:=MM.ofI_some hp'
    obtain ⟨rfl,e2,e3⟩:=h.din _ _ _ _ _ _ _ _ _ hp hp'
    exact ⟨hinj _ _ _ hi hi',e2,e3⟩
  · obtain ⟨id,hi,hf⟩:=Option.bind_eq_some_iff.1 hf
    obtain ⟨id',hi',hp⟩:=MM.ofI_some hp
    exact (h.dok _ _ _ _ _ hp).2.2.2.2 _ _ hf
theorem qel {ρ:Type} {h:List Obj} {σ:Ty} {v:AV} {k:σ.I→List Obj→Option ρ}:qbl h σ v k = (zWE h σ v).bind fun p=>k p.1 p.2:=by
  unfold qbl zWE
  cases v with
  | dat τ x =>
    simp only
    cases τ.dl with
    | true=>rfl
    | false=>simp only [cond_false]; cases vH τ σ x <;> rfl
  | ow id =>
    simp only
    cases atN h id with
    | none=>rfl
    | some o =>
      cases o with
      | row τ xs f =>
        cases f with
        | true=>rfl
        | false =>
          simp only
          cases τ.deep with
          | true=>rfl
          | false=>simp only [cond_false]; cases vH (.sl τ) σ xs <;> rfl
      | drow τ xs n =>
        simp only
        cases vH (.sl τ) σ xs with
        | none=>rfl
        | some x=>simp only; cases decide (n = List.length xs) <;> rfl
      | _=>rfl
  | _=>rfl
theorem z6W {ρ:Type}:∀ {σ:Ty} {vs:List AV} {h:List Obj} {k:σ.I→List Obj→Option ρ},zYx σ vs h k = (z1k σ vs h).bind fun p=>k p.1 p.2:=by
  intro σ
  induction σ with
  | unit=>intro vs h k; cases vs <;> rfl
  | pair a b _ ihb =>
    intro vs h k
    cases vs with
    | nil=>rfl
    | cons v vs =>
      simp only [zYx,z1k,qel,ihb]
      cases zWE h a v with
      | none=>rfl
      | some p =>
        obtain ⟨x,h1⟩:=p
        simp only [Option.bind_some]
        cases z1k b vs h1 <;> rfl
  | _=>intro vs h k; cases vs <;> rfl
theorem qdk {md:Nat} {r:Ty} {y:r.I} {vs:List AV} {us:List Value} (h:Rel P nt F0 w0 st m F a w) (hv:zsY P st.h m F vs us) (hz:qbm md r vs st = some y) :
    ∃ F',F0.grow F' w0.heap.size ∧ F'.ok w ∧ zB7 P F' w w0.heap.size md r y us:=by
  unfold qbm at hz
  split at hz
  ·
    rename_i b c v vs
    split at hz
    · rename_i x h1 hx
      split at hz
      · rename_i p hp
        cases hz
        obtain ⟨u,r,rfl,hv1,hv2⟩:=hv
        obtain ⟨id,k,rfl,hat,rfl,hkr⟩:∃ id k,v = .ow id ∧ atN st.h id = some (mkO b k x) ∧ h1 = zk st.h id .gone ∧ (k = none ∨ k = some 0):=by
          unfold ownRow at hx
          split at hx
          · rename_i id
            split at hx
            · rename_i τ xs ho
              split at hx
              · rename_i z hc
                cases hx
                obtain ⟨e,rfl⟩:=qo hc
                cases e
                exact ⟨id,none,rfl,ho,rfl,.inl rfl⟩
              · cases hx
            · rename_i τ xs n ho
              split at hx
              · rename_i z hc
                obtain ⟨hn,hx⟩:=zf hx
                cases hx
                obtain ⟨e,rfl⟩:=qo hc
                cases e
                have hn:n = 0:=of_decide_eq_true hn
                subst hn
                exact ⟨id,some 0,rfl,ho,rfl,.inr rfl⟩
              · cases hx
            · cases hx
          · cases hx
        obtain ⟨st2fr,st2h⟩:=st
        have l:zdU (zk st2h id .gone) st2h:=(zdU.refl st2h).gone hat
        obtain ⟨h',e1,e2,e3⟩:=zLD l (show yV false c vs ⟨st2fr,zk st2h id .gone⟩ = some (p.1,p.2) from hp)
        obtain ⟨m',F',g1,g2,g3⟩:=znD e1 h hv2
        have hat':atN h' id = some (mkO b k x):=by rw [(e3.2 id (zdb hat)).2]; exact hat
        have hq:=qR.owAt hat' (zNL _ _ _) (show qR P h' m' F' (.ow id) u from hv1.ext g3)
        refine ⟨F',g1.gro,g1.fok,?_⟩
        simp only [zB7]
        refine ⟨u,r,rfl,g2,?_⟩
        cases hmi:m' id with
        | none =>
          rw [hmi] at hq
          exact .inr ⟨z6I (g1.obs _ _ hat') hmi,hq.2⟩
        | some bn =>
          obtain ⟨bk,n⟩:=bn
          rw [hmi] at hq
          obtain ⟨cap,k1,k2,k3⟩:=hq
          obtain ⟨el,cs,cc,d,f1,f2,f3,f4,f5⟩:=zPx (g1.obs _ _ hat') hmi
          refine .inl ⟨bk,cap,el,cs,cc,d,k3,k2,(g1.rng _ _ _ hmi).2.1,f1,f4,by rw [f2,k1],f3,?_⟩
          rcases hkr with rfl | rfl
          · exact f5
          · exact qT.toL (fun j x c _ _ hx=>by unfold DE at hx; rw [if_neg (by omega)] at hx; exact hx) (show qT (DE P F' w (m'.d id) b 0) 0 x cc from f5)
      · cases hz
    · cases hz
  ·
    rename_i b c c' vs us'
    obtain ⟨hbc,hz⟩:=zf hz
    simp only [decide_eq_true_eq] at hbc
    rw [z6W] at hz
    obtain ⟨⟨x,h1⟩,hx,hz⟩:=Option.bind_eq_some_iff.1 hz
    · split at hz
      · rename_i p hp
        cases hz
        obtain ⟨u,r,rfl,hv1,hv2⟩:=hv
        obtain ⟨cs,rfl,hfs⟩:=(show qf P st.h m F (.fld c' vs) u from hv1)
        subst hbc
        obtain ⟨ids,k1,k2,k3,k4,k5⟩:=z3J (fun i τ xs k ho=>(h.drowk ho).2) 0 hx (zdU.refl _)
        obtain ⟨st2fr,st2h⟩:=st
        obtain ⟨h',e1,e2,e3⟩:=zLD k2 (show yV false c us' ⟨st2fr,h1⟩ = some (p.1,p.2) from hp)
        obtain ⟨m',F',g1,g2,g3⟩:=znD e1 h hv2
        have hkeep:∀ f id,ids f = some id→atN h' id = atN st2h id:=fun f id hf=>(e3.2 id (k3 f id hf).2.2.1).2
        refine ⟨F',g1.gro,g1.fok,?_⟩
        simp only [zB7]
        refine ⟨.agg cs,r,cs,_,_,rfl,g2,rfl,qa5 g1 (k1.heap hkeep) (hfs.ext g3),ownB_of g1 (fun f id hf=>?_) k5⟩
        obtain ⟨σ,k,xs,ho⟩:=(k3 f id hf).2.2.2
        exact ⟨σ,k,xs,by rw [hkeep f id hf]; exact ho⟩
      · cases hz
  ·
    rename_i b c v us'
    rw [z6W] at hz
    obtain ⟨⟨x,h1⟩,hx,hz⟩:=Option.bind_eq_some_iff.1 hz
    · split at hz
      · rename_i p hp
        cases hz
        obtain ⟨u,r,rfl,hv1,hv2⟩:=hv
        obtain ⟨ids,k1,k2,k3,k4,k5⟩:=z3J (fun i τ xs k ho=>(h.drowk ho).2) 0 hx (zdU.refl _)
        obtain ⟨⟨id,rfl,hi0,hat0⟩,_⟩:=(show (∃ id,v = .ow id ∧ ids 0 = some id ∧ atN st.h id = some (mkO b _ x.1)) ∧ _ from k1)
        have hT:zf4 st.h id = some b:=by rw [zUX hat0,zNL]; rfl
        have hfs:qO P st.h m F (.pair (.sl b) .unit) [.ow id] [u]:=⟨[u],[],rfl,zb4.ofRow hT (show qR P st.h m F (.ow id) u from hv1),rfl⟩
        obtain ⟨st2fr,st2h⟩:=st
        obtain ⟨h',e1,e2,e3⟩:=zLD k2 (show yV false c us' ⟨st2fr,h1⟩ = some (p.1,p.2) from hp)
        obtain ⟨m',F',g1,g2,g3⟩:=znD e1 h hv2
        have hkeep:∀ f id,ids f = some id→atN h' id = atN st2h id:=fun f id hf=>(e3.2 id (k3 f id hf).2.2.1).2
        refine ⟨F',g1.gro,g1.fok,?_⟩
        simp only [zB7]
        refine ⟨u,r,_,_,rfl,g2,qa5 g1 (k1.heap hkeep) (hfs.ext g3),ownB_of g1 (fun f id hf=>?_) k5⟩
        obtain ⟨σ,k,xs,ho⟩:=(k3 f id hf).2.2.2
        exact ⟨σ,k,xs,by rw [hkeep f id hf]; exact ho⟩
      · cases hz
  ·
    split at hz
    · rename_i p hp
      cases hz
      obtain ⟨m',F',g1,g2,_⟩:=znD (x:=p.1) (st':=p.2) hp h hv
      exact ⟨F',g1.gro,g1.fok,g2⟩
    · cases hz
  · cases hz
theorem qdl (hm:P.follows .mixedOrders = true) (hE:qv P G E) {fi:FuncId} {f:Func} (hf:P.funcs[fi]? = some f) {K md:Nat} {a r:Ty} {x:a.I} {y:r.I} (he:evF E K f md a r x = some y)
    {F0:FH} {w:World} {vs:List Value} (hG:G.le F0) (hk:F0.ok w) (hr:zah P F0 a x vs) :
    Calls P fi vs.toArray w fun e w'=>∃ us F',e = .returned (zPk us) ∧ Below w.heap.size w w' ∧ F0.grow F' w.heap.size ∧ F'.ok w' ∧ zB7 P F' w' w.heap.size md r y us:=by
  unfold evF at he
  cases hb:f.body with
  | none=>rw [hb] at he; cases he
  | some c =>
    rw [hb] at he
    simp only at he
    have hE':qv P G { E with nt:=f.ntmps }:=⟨hE.types,hE.funs,hE.glob,hE.ext⟩
    refine calls_of_wp hf hb ?_
    refine qe8 (nt:=f.ntmps) (F0:=F0) (w0:=w) hm hE' hG rfl c (r:=y) ?_ ⟨_,F0,Rel.enter hk hr f.ntmps⟩ he
    rintro e st a' w' ⟨m,F,h⟩ hfin
    have hdone:(cond ((f.results.toList.map (zJ3 { E with nt:=f.ntmps } st)).all Option.isSome) (qbm md r ((f.results.toList.map (zJ3 { E with nt:=f.ntmps } st)).filterMap id) st) none) = some y →
        a'.defers = [] ∧ ∃ v,(results f a'.tmps).run P w' = .ok v w' ∧ ∃ us F',Ending.returned v = .returned (zPk us) ∧ Below w.heap.size w w' ∧ F0.grow F' w.heap.size ∧ F'.ok w' ∧ zB7 P F' w' w.heap.size md r y us:=by
      intro hfin
      obtain ⟨h1,h2⟩:=zf hfin
      obtain ⟨us,h3,h4⟩:=z9n hE' h (zQK h1)
      obtain ⟨F',g1,g2,g3⟩:=qdk h h4 h2
      exact ⟨h.dfr,_,h3,us,F',rfl,h.bel,g1,g2,g3⟩
    cases e with
    | normal=>exact hdone hfin
    | ret=>exact hdone hfin
    | exit id=>cases hfin
end
end Go.Ev
end
section
namespace Go.Ev
open Go.RowKit Go.ChangeShapes
def InR:(τ:Ty)→τ.I→Prop
  | .int k,n=>(Lit.int k n).wf = true
  | .str,s=>ByteArray.size s ≤ maxLen
  | .pair a b,x=>InR a x.1 ∧ InR b x.2
  | .st a,x=>InR a x
  | .arr n a,xs=>List.length xs = n ∧ ∀ x ∈ (show List a.I from xs),InR a x
  | .sl a,xs=>List.length xs ≤ maxLen ∧ ∀ x ∈ (show List a.I from xs),InR a x
  | _,_=>True
def Ty.data:Ty→Bool
  | .bool | .int _ | .str | .unit=>true
  | .pair a b=>a.data && b.data
  | .st a=>a.data
  | .arr _ a=>a.data
  | .sl a=>a.data
  | _=>false
mutual
def dbk {H:Type}:DataW H→Nat
  | .slice elems _=>zkh elems + 1
  | .agg parts=>zkh parts + 1
  | _=>1
def zkh {H:Type}:List (DataW H)→Nat
  | []=>0
  | d :: r=>dbk d + zkh r
end
def bkI:(τ:Ty)→τ.I→Nat
  | .unit,_=>0
  | .pair a b,x=>bkI a x.1 + bkI b x.2
  | .st a,x=>bkI a x + 1
  | .arr _ a,xs=>(List.map (bkI a) xs).sum + 1
  | .sl a,xs=>(List.map (bkI a) xs).sum + 1
  | _,_=>1
theorem zU4 {H:Type} (d:DataW H):1 ≤ dbk d:=by cases d <;> simp [dbk]
section
variable {P:Program} {H:Type} {enc:TypeId × Value→H} {w:World} {base:Nat} {sp:Nat→Bool} {held:Bool}
theorem z6X {a:Addr} {j:Nat} {v:Value} (h:w.cell? (a.add j) = some v) (h0:a.spot = none ∨ j = 0):a.spot = none ∧ ∃ c el fz,w.heap[a.block]? = some (.cells c el fz) ∧ c[a.off + j]? = some v:=by
  have hs:a.spot = none:=by
    rcases h0 with h0 | rfl
    · exact h0
    · have:a.add 0 = a:=by unfold Addr.add; rfl
      rw [this] at h
      unfold World.cell? at h
      split at h
      · cases hsp:a.spot with
        | none=>rfl
        | some x=>rw [hsp] at h; simp at h
      · cases h
  refine ⟨hs,?_⟩
  rw [zPo hs] at h
  unfold World.cell? at h
  simp only at h
  split at h
  · rename_i c el fz hk
    exact ⟨c,el,fz,hk,by simpa using h⟩
  · cases h
theorem z6Y {a:Addr} {n:Nat} {cs:List Value} (h:w.cells? base a n = some cs) (hn:0 < n):∃ c,FH.of w a.block = some c ∧ a.spot = none ∧ ∀ (j:Nat) (v:Value),cs[j]? = some v→c[a.off + j]? = some v:=by
  obtain ⟨hb,hl,hc⟩:=World.cells?_some h
  have h0:=hc 0 hn
  rw [List.getElem?_eq_getElem (by omega)] at h0
  obtain ⟨hs,c,el,fz,hk,_⟩:=z6X h0 (.inr rfl)
  refine ⟨c,by simp [FH.of,hk],hs,fun j v hv=>?_⟩
  have hj:=(List.getElem?_eq_some_iff.1 hv).1
  have:=hc j (by omega)
  rw [hv] at this
  obtain ⟨_,c',_,_,hk',h2⟩:=z6X this (.inl hs)
  rw [hk] at hk'
  cases hk'
  exact h2
theorem qa6 {ad:Addr} {n:Nat} (hn:0 < n) {c:Array Value} (hs:ad.spot = none) (hc:FH.of w ad.block = some c):∀ (m i0:Nat) (css:List (List Value)),((List.range' i0 m).mapM fun i=>w.cells? base (ad.add (i * n)) n) = some css →
    ∀ (j:Nat) (v:Value),css.flatten[j]? = some v→c[ad.off + i0 * n + j]? = some v
  | 0,i0,css,h,j,v,hj=>by simp at h; subst h; simp at hj
  | m + 1,i0,css,h,j,v,hj=>by
    rw [List.range'_succ,List.mapM_cons] at h
    simp only [Option.bind_eq_bind,Option.bind_eq_some_iff,Option.pure_def,Option.some.injEq] at h
    obtain ⟨cs,h1,css',h2,rfl⟩:=h
    have hl:=(World.cells?_some h1).2.1
    obtain ⟨c',h3,_,h5⟩:=z6Y h1 hn
    rw [zPo hs] at h3 h5
    simp only at h3 h5
    rw [hc] at h3
    cases h3
    rw [List.flatten_cons] at hj
    by_cases hjn:j < n
    · rw [List.getElem?_append_left (by omega)] at hj
      exact h5 j v hj
    · rw [List.getElem?_append_right (by omega),hl] at hj
      have:=qa6 hn hs hc m (i0 + 1) css' h2 (j - n) v hj
      rw [show ad.off + i0 * n + j = ad.off + (i0 + 1) * n + (j - n) by rw [Nat.add_mul]; omega]
      exact this
theorem zWR {α:Type} {R:α→List Value→Prop} {f:Nat→Option (List Value)} {g:List Value→Option (DataW H × List MemPlace)} {I:α→Prop} {bk:α→Nat} (hg:∀ cs y,g cs = some y→∃ x,R x cs ∧ I x ∧ bk x ≤ dbk y.1) :
    ∀ (l:List Nat) (ys:List (DataW H × List MemPlace)),(l.mapM fun i=>(f i).bind g) = some ys→∃ (xs:List α) (css:List (List Value)),xs.length = l.length ∧ l.mapM f = some css ∧ zN R xs css.flatten ∧ (∀ x ∈ xs,I x) ∧ (xs.map bk).sum ≤ zkh (ys.map (·.1))
  | [],ys,h=>⟨[],[],rfl,rfl,rfl,by simp,Nat.zero_le _⟩
  | i :: l,ys,h=>by
    rw [List.mapM_cons] at h
    simp only [Option.bind_eq_bind,Option.bind_eq_some_iff,Option.pure_def,Option.some.injEq] at h
    obtain ⟨y,⟨cs,hcs,hy⟩,ys',h2,rfl⟩:=h
    obtain ⟨x,hx,hI,hk⟩:=hg cs y hy
    obtain ⟨xs,css,h3,h4,h5,h6,h7⟩:=zWR hg l ys' h2
    refine ⟨x :: xs,cs :: css,by simp [h3],?_,⟨cs,css.flatten,rfl,hx,h5⟩,?_,by simp only [List.map_cons,List.sum_cons,zkh]; omega⟩
    · rw [List.mapM_cons,hcs,h4]; rfl
    · intro z hz
      rcases List.mem_cons.1 hz with rfl | hz
      · exact hI
      · exact h6 z hz
theorem zNO {cs:List Value} {n:Nat}:∀ (m i0:Nat) (css:List (List Value)),(i0 + m) * n ≤ cs.length→((List.range' i0 m).mapM fun i=>some ((cs.drop (i * n)).take n)) = some css→css.flatten = (cs.drop (i0 * n)).take (m * n)
  | 0,i0,css,_,h=>by simp at h; subst h; simp
  | m + 1,i0,css,hl,h=>by
    rw [List.range'_succ,List.mapM_cons] at h
    simp only [Option.bind_eq_bind,Option.bind_some,Option.bind_eq_some_iff,Option.pure_def,Option.some.injEq] at h
    obtain ⟨css',h2,rfl⟩:=h
    have:=zNO m (i0 + 1) css' (by rw [show i0 + 1 + m = i0 + (m + 1) by omega]; exact hl) h2
    rw [List.flatten_cons,this,Nat.add_mul i0 1 n,Nat.one_mul,← List.drop_drop,show (m + 1) * n = n + m * n by rw [Nat.add_mul]; omega,List.take_add]
theorem qem:∀ (τ:Ty),τ.data = true →
    (∀ (fuel:Nat) (t:TypeId) (cs:List Value) (x:DataW H × List MemPlace),τ.np = true→qN P t τ→DataW.trod enc P w base sp held fuel t cs = some x→∃ y,Rep P (FH.of w) τ y cs ∧ InR τ y ∧ bkI τ y ≤ dbk x.1) ∧
    (∀ (fuel:Nat) (fs:List Field) (off:Nat) (cs:List Value) (xs:List (DataW H × List MemPlace)),(tyB P τ).2 fs off = true→(fs.mapM fun f=>DataW.trod enc P w base sp held fuel f.type ((cs.drop f.offset).take (P.cellsOf f.type))) = some xs→cs.length = off + nc τ→∃ y,Rep P (FH.of w) τ y (cs.drop off) ∧ InR τ y ∧ bkI τ y ≤ zkh (xs.map (·.1))):=by
  intro τ
  induction τ with
  | unit =>
    intro _
    refine ⟨fun fuel t cs x _ h=>(by cases h),fun fuel fs off cs xs h _ hl=>⟨(),?_,trivial,Nat.zero_le _⟩⟩
    show cs.drop off = []
    rw [List.drop_eq_nil_iff]
    simp only [nc] at hl
    omega
  | bool =>
    intro _
    refine ⟨fun fuel t cs x _ h hx=>?_,fun fuel fs off cs xs h=>(by cases h)⟩
    have hu:P.underlying t = some .bool:=by
      simp only [qN,tyB,Bool.and_eq_true] at h
      have:=h.2
      split at this
      · assumption
      · cases this
    cases fuel with
    | zero=>simp [DataW.trod] at hx
    | succ fuel =>
      unfold DataW.trod at hx
      rw [hu] at hx
      split at hx <;> first | (cases hx; done) | skip
      all_goals first | exact ⟨_,rfl,trivial,zU4 _⟩ | (rename_i hh; simp at hh)
  | int k =>
    intro _
    refine ⟨fun fuel t cs x _ h hx=>?_,fun fuel fs off cs xs h=>(by cases h)⟩
    have hu:P.underlying t = some (.int k):=by
      simp only [qN,tyB,Bool.and_eq_true] at h
      have:=h.2
      split at this
      · simp only [decide_eq_true_eq] at this; subst this; assumption
      · cases this
    cases fuel with
    | zero=>simp [DataW.trod] at hx
    | succ fuel =>
      unfold DataW.trod at hx
      rw [hu] at hx
      split at hx <;> first | (cases hx; done) | skip
      · rename_i hh; cases hh
      · rename_i k1 k2 n hh
        cases hh
        split at hx
        · rename_i hc; obtain ⟨rfl,hw⟩:=hc; exact ⟨n,rfl,hw,zU4 _⟩
        · cases hx
      all_goals (rename_i hh; simp at hh)
  | str =>
    intro _
    refine ⟨fun fuel t cs x _ h hx=>?_,fun fuel fs off cs xs h=>(by cases h)⟩
    have hu:P.underlying t = some .string:=by
      simp only [qN,tyB,Bool.and_eq_true] at h
      have:=h.2
      split at this
      · assumption
      · cases this
    cases fuel with
    | zero=>simp [DataW.trod] at hx
    | succ fuel =>
      unfold DataW.trod at hx
      rw [hu] at hx
      split at hx <;> first | (cases hx; done) | skip
      all_goals first
        | (rename_i hh; simp at hh; done)
        | (rename_i s hh; split at hx; · rename_i hc; exact ⟨s,rfl,hc,zU4 _⟩
           · cases hx)
        | skip
  | pair a b iha ihb =>
    intro hd
    simp only [Ty.data,Bool.and_eq_true] at hd
    refine ⟨fun fuel t cs x _ h hx=>?_,fun fuel fs off cs xs h hx hl=>?_⟩
    · rename_i hnp; cases hnp
    · cases fs with
      | nil=>cases h
      | cons f fs =>
        simp only [tyB,Bool.and_eq_true] at h
        obtain ⟨⟨⟨⟨h1,h2⟩,h3⟩,_⟩,h4⟩:=h
        obtain rfl:=Nat.eq_of_beq_eq_true h1
        obtain ⟨i,hi,hsz⟩:=qN.size h2 (Ty.np_spec h3.2)
        rw [List.mapM_cons] at hx
        simp only [Option.bind_eq_bind,Option.bind_eq_some_iff,Option.pure_def,Option.some.injEq] at hx
        obtain ⟨x1,hx1,xs2,hx2,rfl⟩:=hx
        have hcells:P.cellsOf f.type = nc a:=by unfold Program.cellsOf; rw [hi]; exact hsz
        rw [hcells] at hx1
        obtain ⟨y1,g1,g2,b1⟩:=(iha hd.1).1 fuel f.type _ x1 h3.2 h2 hx1
        simp only [nc] at hl
        obtain ⟨y2,g3,g4,b2⟩:=(ihb hd.2).2 fuel fs (f.offset + nc a) cs xs2 h4 hx2 (by omega)
        refine ⟨(y1,y2),⟨_,_,?_,g1,g3⟩,⟨g2,g4⟩,by simp only [bkI,List.map_cons,zkh]; omega⟩
        rw [← List.drop_drop,List.take_append_drop]
  | st a iha =>
    intro hd
    refine ⟨fun fuel t cs x _ h hx=>?_,fun fuel fs off cs xs h=>(by cases h)⟩
    obtain ⟨fs,hu,hf,_⟩:=qN.st h
    obtain ⟨i,hi,hsz⟩:=qN.size h (by intro a b e; cases e)
    have hcells:P.cellsOf t = nc a:=by unfold Program.cellsOf; rw [hi]; exact hsz
    cases fuel with
    | zero=>simp [DataW.trod] at hx
    | succ fuel =>
      unfold DataW.trod at hx
      rw [hu] at hx
      simp only at hx
      split at hx
      · rename_i hl
        simp only [Option.map_eq_some_iff] at hx
        obtain ⟨xs,hx,rfl⟩:=hx
        obtain ⟨y,g1,g2,b1⟩:=(iha hd).2 fuel fs.toList 0 cs xs hf hx (by omega)
        exact ⟨y,g1,g2,by simp only [bkI,dbk]; omega⟩
      · cases hx
  | arr n a iha =>
    intro hd
    refine ⟨fun fuel t cs x _ h hx=>?_,fun fuel fs off cs xs h=>(by cases h)⟩
    obtain ⟨e,hu,he,hpos,hnp,_⟩:=qN.arr h
    obtain ⟨i,hi,hsz⟩:=qN.size h (by intro a b e; cases e)
    obtain ⟨ie,hie,hsze⟩:=qN.size he (Ty.np_spec hnp)
    have hcells:P.cellsOf t = n * nc a:=by unfold Program.cellsOf; rw [hi]; exact hsz
    have hcellse:P.cellsOf e = nc a:=by unfold Program.cellsOf; rw [hie]; exact hsze
    cases fuel with
    | zero=>simp [DataW.trod] at hx
    | succ fuel =>
      unfold DataW.trod at hx
      rw [hu] at hx
      simp only at hx
      split at hx
      · rename_i hl
        simp only [Option.map_eq_some_iff] at hx
        obtain ⟨xs,hx,rfl⟩:=hx
        rw [hcellse] at hx
        obtain ⟨ys,css,h1,h2,h3,h4,h5⟩:=zWR (bk:=bkI a) (f:=fun i=>some ((cs.drop (i * nc a)).take (nc a))) (g:=DataW.trod enc P w base sp held fuel e) (R:=Rep P (FH.of w) a) (I:=InR a) (fun cs y hy=>(iha hd).1 fuel e cs y hnp he hy) (List.range n) xs hx
        rw [List.range_eq_range'] at h2
        have:=zNO n 0 css (by rw [Nat.zero_add]; omega) h2
        rw [this] at h3
        simp only [Nat.zero_mul,List.drop_zero] at h3
        rw [List.take_of_length_le (by omega)] at h3
        refine ⟨ys,⟨by simpa using h1,h3⟩,⟨by simpa using h1,h4⟩,by simp only [bkI,dbk]; omega⟩
      · cases hx
  | sl a iha =>
    intro hd
    refine ⟨fun fuel t cs x _ h hx=>?_,fun fuel fs off cs xs h=>(by cases h)⟩
    obtain ⟨e,hu,he,hpos,hnp⟩:=qN.sl h
    obtain ⟨ie,hie,hsze⟩:=qN.size he (Ty.np_spec hnp)
    have hcellse:P.cellsOf e = nc a:=by unfold Program.cellsOf; rw [hie]; exact hsze
    cases fuel with
    | zero=>simp [DataW.trod] at hx
    | succ fuel =>
      unfold DataW.trod at hx
      rw [hu] at hx
      split at hx <;> first | (cases hx; done) | skip
      all_goals first
        | (rename_i hh; cases hh; done)
        | exact ⟨[],⟨_,0,rfl,Nat.le_refl _,fun hne=>absurd rfl hne⟩,⟨Nat.zero_le _,fun x hx=>(by cases hx)⟩,zU4 _⟩
        | skip
      rename_i e' ad len cap heq
      simp only [Option.some.injEq,TypeDesc.slice.injEq] at heq
      subst heq
      simp only at hx
      split at hx
      · rename_i hc
        simp only [Option.bind_eq_some_iff] at hx
        obtain ⟨elems,hx,hx2⟩:=hx
        rw [hcellse] at hx
        obtain ⟨ys,css,h1,h2,h3,h4,h5⟩:=zWR (bk:=bkI a) (f:=fun i=>w.cells? base (ad.add (i * nc a)) (nc a)) (g:=DataW.trod enc P w base sp held fuel e) (R:=Rep P (FH.of w) a) (I:=InR a) (fun cs y hy=>(iha hd).1 fuel e cs y hnp he hy) (List.range len) elems hx
        rw [List.length_range] at h1
        refine ⟨ys,⟨some ad,cap,by rw [h1],by rw [h1]; exact hc.2.1,fun hne=>?_⟩,⟨(show ys.length ≤ maxLen by omega),h4⟩,?_⟩
        rotate_left
        · obtain ⟨rest,-,rfl⟩:=Option.map_eq_some_iff.1 hx2
          simp only [bkI,dbk]; omega
        have hlen:0 < len:=by
          rw [← h1]
          exact List.length_pos_iff.2 hne
        rw [List.range_eq_range'] at h2
        obtain ⟨m,rfl⟩:∃ m,len = m + 1:=⟨len - 1,by omega⟩
        have h2':=h2
        rw [List.range'_succ,List.mapM_cons] at h2'
        simp only [Option.bind_eq_bind,Option.bind_eq_some_iff,Option.pure_def,Option.some.injEq] at h2'
        obtain ⟨cs0,g1,_⟩:=h2'
        rw [Nat.zero_mul,show ad.add 0 = ad from rfl] at g1
        obtain ⟨c,g2,g3,g4⟩:=z6Y g1 hpos
        refine ⟨ad,css.flatten,rfl,⟨g3,c,g2,fun j v hv=>?_⟩,h3⟩
        have:=qa6 hpos g3 g2 (m + 1) 0 css h2 j v hv
        simpa using this
      · cases hx
  | ptr a=>intro hd; cases hd
  | fn a b=>intro hd; cases hd
def tyL (P:Program):Ty→List TypeId→Bool
  | .unit,[]=>true
  | .pair a b,t :: ts=>(tyB P a).1 t && a.np && a.data && tyL P b ts
  | _,_=>false
theorem zV1:∀ {τ:Ty} {ts:List TypeId} {vs:List Value} {ds:List (DataW H)} {ps:List MemPlace},tyL P τ ts = true→DataW.TrodAll enc P w base sp held ts vs ds ps→(∀ (j:Nat) (t:TypeId) (v:Value),ts[j]? = some t→vs[j]? = some v→∃ W r b,Value.okWide P W r b t v) →
    ∃ x,zah P (FH.of w) τ x vs ∧ InR τ x ∧ bkI τ x ≤ zkh ds
  | .unit,[],[],[],ps,_,_,_=>⟨(),rfl,trivial,Nat.zero_le _⟩
  | .pair a b,t :: ts,v :: vs,d :: ds,ps,h,hr,hf=>by
    simp only [tyL,Bool.and_eq_true] at h
    obtain ⟨⟨⟨h1,h2⟩,h3⟩,h4⟩:=h
    obtain ⟨p,q,⟨fuel,h5⟩,h6,_⟩:=hr
    obtain ⟨y,g1,g2,b1⟩:=(qem a h3).1 fuel t v.cells.toList (d,p) h2 h1 h5
    obtain ⟨x,g3,g4,b2⟩:=zV1 h4 h6 fun j t v ht hv=>hf (j + 1) t v (by simpa using ht) (by simpa using hv)
    refine ⟨(y,x),⟨v,vs,rfl,g1,?_,g3⟩,⟨g2,g4⟩,by simp only [bkI,zkh]; exact Nat.add_le_add b1 b2⟩
    obtain ⟨W,r,b0,hform⟩:=hf 0 t v rfl rfl
    obtain ⟨de,hu,hagg⟩:=qN.isAgg h1
    unfold Value.okWide at hform
    rw [hu] at hform
    rw [← hagg]
    have hno:∀ cs,v = .agg cs→Cell.okWide P W r b0 t v→(match de with | .struct _ | .array _ _=>true | _=>false) = false→False:=by
      rintro cs rfl hc hde
      unfold Cell.okWide at hc
      rw [hu] at hc
      cases de <;> simp [Cell.ok,hu] at hc hde
    cases de <;> simp only at hform hno ⊢
    case struct=>obtain ⟨cs,rfl,_⟩:=hform; rfl
    case array=>obtain ⟨cs,rfl,_⟩:=hform; rfl
    all_goals (cases v <;> first | rfl | exact (hno _ rfl hform trivial).elim)
  | .unit,[],[],_ :: _,_,_,h,_=>h.elim
  | .unit,[],_ :: _,_,_,_,h,_=>(by cases h)
  | .unit,_ :: _,_,_,_,h,_,_=>(by cases h)
  | .pair _ _,[],_,_,_,h,_,_=>(by cases h)
  | .pair _ _,_ :: _,[],_,_,_,h,_=>(by cases h)
  | .pair _ _,_ :: _,_ :: _,[],_,_,h,_=>(by cases h)
  | .bool,_,_,_,_,h,_,_=>(by cases h)
  | .int _,_,_,_,_,h,_,_=>(by cases h)
  | .str,_,_,_,_,h,_,_=>(by cases h)
  | .st _,_,_,_,_,h,_,_=>(by cases h)
  | .arr _ _,_,_,_,_,h,_,_=>(by cases h)
  | .sl _,_,_,_,_,h,_,_=>(by cases h)
  | .ptr _,_,_,_,_,h,_,_=>(by cases h)
  | .fn _ _,_,_,_,_,h,_,_=>(by cases h)
theorem zQL {W W':World} (hl:laidOutB P = true) (hb:Below W.heap.size W W'):∀ {ts:List TypeId} {vs:List Value} {ds:List (DataW H)} {ps:List MemPlace},
    (∀ t ∈ ts,P.readableRec t = true ∧ t < P.types.size)→DataW.TrodAll enc P W 0 (fun _=>true) true ts vs ds ps→(∀ x ∈ ps,x.block < W.heap.size)→∀ s:Nat→Bool,(∀ p ∈ ps,s p.block = true)→DataW.TrodAll enc P W' 0 s true ts vs ds ps
  | [],[],[],ps,_,h,_,s,_=>h
  | t :: ts,v :: vs,d :: ds,ps,ht,⟨p,q,h1,h2,e⟩,hlt,s,hs=>by
    subst e
    have h0:=ht t (by simp)
    refine ⟨p,q,?_,zQL hl hb (fun t' h'=>ht t' (by simp [h'])) h2 (fun x hx=>hlt x (by simp [hx])) s (fun x hx=>hs x (by simp [hx])),rfl⟩
    exact WideElems.Trod_stays hl h0.1 h0.2 h1 (fun x hx=>hb.same (hlt x (by simp [hx]))) (fun x hx=>hs x (by simp [hx]))
  | [],[],_ :: _,_,_,h,_,_,_=>h.elim
  | [],_ :: _,_,_,_,h,_,_,_=>h.elim
  | _ :: _,[],_,_,_,h,_,_,_=>h.elim
  | _ :: _,_ :: _,[],_,_,h,_,_,_=>h.elim
end
section
variable {P:Program} {H:Type} {enc:TypeId × Value→H}
theorem z6Z {fi:FuncId} {f:Func} {a:Ty} {tb:TypeId} {spec:ChangeSpec} {W:World} {base:Nat} {args:Array Value} {ds gs:List (DataW H)} {before:List MemPlace}
    (hl:laidOutB P = true) (hts:∀ t ∈ f.params.toList,P.readableRec t = true ∧ t < P.types.size) (hty:tyL P a f.params.toList = true) (hres:f.resultTypes = #[tb]) (hbool:P.underlying tb = some .bool) (hvars:spec.vars = [])
    (hfn:∀ ds:List (DataW H),ds.length = f.params.size→spec.fn H ds = { results:=[.lit (.bool true)],args:=ds })
    (hval:∀ (j:Nat) t v,f.params[j]? = some t→args[j]? = some v→Value.okWide P W .any base t v)
    (hW:DataW.Whole enc P f.params.toList spec.vars false W args.toList ds gs before)
    (hcall:∀ x,InR a x→bkI a x ≤ zkh ds→zah P (FH.of W) a x args.toList→Calls P fi args W fun e W'=>e = .returned (.bool true) ∧ Below W.heap.size W W') :
    Calls P fi args W fun e W'=>∃ v,e = .returned v ∧ spec.post enc P f false true false false W args v W':=by
  have hW':=hW
  obtain ⟨p,q,hA,hV,rfl,hfz,hnd⟩:=hW
  rw [hvars] at hV
  obtain ⟨rfl,rfl⟩:=trodVars_none hV
  have hlt:∀ x ∈ p,x.block < W.heap.size:=fun x hx=>by simpa using hW'.lt x (by simp [hx])
  obtain ⟨x,hx,hin,hbk⟩:=zV1 (w:=W) hty hA fun j t v ht hv=>⟨W,.any,base,hval j t v (by rw [← Array.getElem?_toList]; exact ht) (by rw [← Array.getElem?_toList]; exact hv)⟩
  have hlen:∀ {ts:List TypeId} {vs:List Value} {ds:List (DataW H)} {ps:List MemPlace},DataW.TrodAll enc P W 0 (fun _=>true) true ts vs ds ps→ds.length = ts.length:=by
    intro ts
    induction ts with
    | nil=>intro vs ds ps h; cases vs <;> cases ds <;> first | rfl | exact h.elim
    | cons t ts ih=>intro vs ds ps h; cases vs <;> cases ds <;> first | exact h.elim | (obtain ⟨_,_,_,h2,_⟩:=h; simp [ih h2])
  have hfn':=hfn ds (by rw [hlen hA]; simp)
  refine (hcall x hin hbk hx).mono fun e W' ⟨he,hb⟩=>?_
  subst he
  simp only [List.append_nil] at *
  refine ⟨_,rfl,ds,[],p,[],p,[],hW',?_,?_,?_,hb.frame _,fun h=>(by cases h)⟩
  · rw [List.append_nil,hfn',hres]
    exact trodAll_cons_mk (shut_bool hbool _) trodAll_mk0
  · rw [List.append_nil,hfn']
    exact zQL hl hb hts hA hlt _ (fun x hx=>by simpa using hlt x hx)
  · rw [List.append_nil,hfn',hvars]
    rfl
end
end Go.Ev
end
section
namespace Go.Ev
open Go.RowKit
section
variable {P:Program} {G:FH} {E:Env}
theorem zPm.mk (hm:P.follows .mixedOrders = true) (hE:qv P G E) {fi:FuncId} {f:Func} (hf:P.funcs[fi]? = some f) (hn:(f.name == "runtime.NumGoroutine") = false) (hb:f.body.isNone = false)
    {F:Fun} (h:∀ x y,F.spec x = some y→∃ K,evF E K f F.md F.a F.r x = some y):zPm P G fi F:=by
  refine ⟨⟨f,hf,hn,hb⟩,fun x y hy F0 w vs hG hk hr=>?_⟩
  obtain ⟨K,he⟩:=h x y hy
  exact qdl hm hE hf he hG hk hr
theorem qv.nil {types:TT} {nt:Nat} {dp:Bool} (ht:types.all (fun k τ=>(tyB P τ).1 k) = true) {glob:List (Nat × AV)} (hg:∀ g v,look glob g = some v→∃ τ x cs,v = .dat (.ptr τ) (some x) ∧ At G ⟨g,0,none⟩ cs ∧ Rep P G τ x cs) {ext:List (Nat × Bool)} {jn:List Nat} (hx:∀ f add,look ext f = some add→qbu P f add):qv P G ⟨types,[],glob,nt,dp,ext,jn⟩ :=
  ⟨fun t τ h=>TT.all_look ht h,fun f F h=>by simp [look] at h,hg,hx⟩
end
end Go.Ev
end
section
namespace Go.Ev
theorem z60 {n:Nat} (h:n ≤ Go.maxLen):IntKind.wrap .i64 (n:Int) = (n:Int):=by
  unfold Go.maxLen at h
  exact IntWalk.i64_in _ (by omega)
def zaz {α:Type} (p:α→Bool):List α→Int→Int
  | [],_=>-1
  | x :: xs,i=>cond (p x) i (zaz p xs (i + 1))
theorem zPB {α:Type} {p:α→Bool}:∀ (xs:List α) (i:Int),0 ≤ i→decide (zaz p xs i ≥ 0) = xs.any p
  | [],_,_=>rfl
  | x :: xs,i,h=>by
    have ih:=zPB (p:=p) xs (i + 1) (by omega)
    simp only [zaz,List.any_cons]
    by_cases hp:p x = true
    · simp [hp,h]
    · simp only [Bool.not_eq_true] at hp
      simp only [hp,cond_false,Bool.false_or]
      exact ih
end Go.Ev
end
section
namespace Go.Ev
theorem z6l {i len:Nat} (h:i < len) (hl:len ≤ Go.maxLen):IntKind.wrap .i64 ((i:Int) + 1) = (i:Int) + 1:=by
  rw [show (i:Int) + 1 = ((i + 1:Nat):Int) by omega]
  exact z60 (by omega)
theorem zia {α:Type} {l:List α} {i:Nat} (d:α) (h:i < l.length):l.drop i = l.getD i d :: l.drop (i + 1):=by
  rw [List.drop_eq_getElem_cons h]
  simp [List.getD,h]
theorem qen {σ ρ:Type} {L:Nat→Int→σ→Option ρ} {len:Nat} (hl:len ≤ Go.maxLen) (F:Nat→σ→Option ρ) (I:Nat→σ→Prop)
    (hstep:∀ n i s,i < len→I i s→(∀ s',I (i + 1) s'→L n ((i:Int) + 1) s' = F (i + 1) s')→L (n + 1) (i:Int) s = F i s)
    (hend:∀ n s,I len s→L (n + 1) (len:Int) s = F len s) :
    ∀ (k i n:Nat) (s:σ),i + k = len→k < n→I i s→L n (i:Int) s = F i s:=by
  intro k
  induction k with
  | zero =>
    intro i n s hi hn hI
    obtain ⟨m,rfl⟩:∃ m,n = m + 1:=⟨n - 1,by omega⟩
    obtain rfl:i = len:=by omega
    exact hend m s hI
  | succ k ih =>
    intro i n s hi hn hI
    obtain ⟨m,rfl⟩:∃ m,n = m + 1:=⟨n - 1,by omega⟩
    refine hstep m i s (by omega) hI fun s' hI'=>?_
    have:=ih (i + 1) m s' (by omega) (by omega) hI'
    rw [show (i:Int) + 1 = ((i + 1:Nat):Int) by omega]
    exact this
theorem qdm {σ ρ:Type} {L:Nat→Int→σ→Option ρ} {len:Nat} (hl:len ≤ Go.maxLen) (F:Nat→σ→Option ρ) (I:Nat→σ→Prop)
    (hstep:∀ n i s,i < len→I i s→(∀ s',I (i + 1) s'→L n ((i:Int) + 1) s' = F (i + 1) s')→L (n + 1) (i:Int) s = F i s)
    (hend:∀ n s,I len s→L (n + 1) (len:Int) s = F len s) (n:Nat) (hn:len < n) (s:σ) (h0:I 0 s):L n 0 s = F 0 s :=
  qen hl F I hstep hend len 0 n s (by omega) hn h0
end Go.Ev
end
section
namespace Go.Ev
abbrev Fnc (A R:Ty):Type:=A.I→Option R.I
def iter {σ ρ:Type} (B:(σ→Option ρ)→σ→Option ρ):Nat→σ→Option ρ
  | 0,_=>none
  | n + 1,s=>B (iter B n) s
noncomputable def evV {σ:Type} (E:Env) (K:Nat) (f:Func) (md:Nat) (R:Ty) (p ns:List Nat) (S:σ→St) (n:Nat):σ→Option R.I:=fun s=>evL E K f md R p ns n (S s)
theorem z61 {E:Env} {K:Nat} {f:Func} {md:Nat} {R:Ty} {p ns:List Nat} {st:St}:evL E K f md R p ns 0 st = none:=by
  unfold evL
  split
  · split <;> rfl
  · rfl
theorem zm {σ:Type} {E:Env} {K:Nat} {f:Func} {md:Nat} {R:Ty} {p ns:List Nat} {S:σ→St} {B:(σ→Option R.I)→σ→Option R.I}
    (h:∀ n s,evV E K f md R p ns S (n + 1) s = B (evV E K f md R p ns S n) s):∀ n,evV E K f md R p ns S n = iter B n
  | 0=>by funext s; exact z61
  | n + 1=>by funext s; rw [h,zm h n]; rfl
theorem qX {σ τ:Type} {E:Env} {K:Nat} {f:Func} {md:Nat} {R:Ty} {p ns:List Nat} {S:σ→St} {B:(τ→Option R.I)→(σ→Option R.I)→σ→Option R.I} {V1:Nat→τ→Option R.I} {W1:(σ→Option R.I)→τ→Option R.I}
    (h1:∀ n,V1 n = W1 (evV E K f md R p ns S n)) (h:∀ n s,evV E K f md R p ns S (n + 1) s = B (V1 n) (evV E K f md R p ns S n) s):∀ n,evV E K f md R p ns S n = iter (fun k=>B (W1 k) k) n :=
  zm fun n s=>by rw [← h1]; exact h n s
theorem zSZ {σ τ υ:Type} {E:Env} {K:Nat} {f:Func} {md:Nat} {R:Ty} {p ns:List Nat} {S:σ→St} {B:(τ→Option R.I)→(υ→Option R.I)→(σ→Option R.I)→σ→Option R.I} {V1:Nat→τ→Option R.I} {W1:(σ→Option R.I)→τ→Option R.I} {V2:Nat→υ→Option R.I} {W2:(σ→Option R.I)→υ→Option R.I}
    (h1:∀ n,V1 n = W1 (evV E K f md R p ns S n)) (h2:∀ n,V2 n = W2 (evV E K f md R p ns S n)) (h:∀ n s,evV E K f md R p ns S (n + 1) s = B (V1 n) (V2 n) (evV E K f md R p ns S n) s):∀ n,evV E K f md R p ns S n = iter (fun k=>B (W1 k) (W2 k) k) n :=
  zm fun n s=>by rw [← h1,← h2]; exact h n s
def zY3 {σ τ ρ:Type} (B0:(τ→Option ρ)→σ→Option ρ) (B1:(τ→Option ρ)→τ→Option ρ):Nat→σ→Option ρ
  | 0,_=>none
  | n + 1,s=>B0 (iter B1 n) s
theorem qdn {σ τ:Type} {E:Env} {K:Nat} {f:Func} {md:Nat} {R:Ty} {p ns:List Nat} {S0:σ→St} {S1:τ→St} {B0:(τ→Option R.I)→σ→Option R.I} {B1:(τ→Option R.I)→τ→Option R.I}
    (h1:∀ n,evV E K f md R p ns S1 n = iter B1 n) (h:∀ n s,evV E K f md R p ns S0 (n + 1) s = B0 (evV E K f md R p ns S1 n) s):∀ n,evV E K f md R p ns S0 n = zY3 B0 B1 n
  | 0=>by funext s; exact z61
  | n + 1=>by funext s; rw [h,h1]; rfl
def gt {σ ρ:Type} (B:σ→Option ρ):Nat→σ→Option ρ
  | 0,_=>none
  | _ + 1,s=>B s
noncomputable def evW {σ:Type} (E:Env) (K:Nat) (f:Func) (md:Nat) (R:Ty) (p ns:List Nat) (S:σ→St) (n:Nat):σ→Option R.I:=fun s=>evG E K f md R p ns n (S s)
theorem qeo {E:Env} {K:Nat} {f:Func} {md:Nat} {R:Ty} {p ns:List Nat} {st:St}:evG E K f md R p ns 0 st = none:=by
  unfold evG
  split
  · split <;> rfl
  · rfl
theorem qfI {σ:Type} {E:Env} {K:Nat} {f:Func} {md:Nat} {R:Ty} {p ns:List Nat} {S:σ→St} {B:σ→Option R.I} (h:∀ n s,evW E K f md R p ns S (n + 1) s = B s):∀ n,evW E K f md R p ns S n = gt B n
  | 0=>by funext s; exact qeo
  | n + 1=>by funext s; exact h n s
theorem tr1 {α X Y:Type} {T:α→X→Y} {V W:α} (h:V = W) {F:X→Y} (hx:∀ x,F x = T V x):F = T W:=by subst h; funext x; exact hx x
def En (E:Env) (d:Bool) (l:List Fun):Env:=⟨E.types,l.map fun F=>(F.id,F),E.glob,0,d,E.ext,[]⟩
def Ej (E:Env) (d:Bool) (js:List Nat) (l:List Fun):Env:=⟨E.types,l.map fun F=>(F.id,F),E.glob,0,d,E.ext,js⟩
def Sd (P:Program) (E:Env) (F:Fun):Prop:=∀ G,qv P G E→zPm P G F.id F
def Sds (P:Program) (E:Env):List Fun→Prop
  | []=>True
  | F :: l=>Sd P E F ∧ Sds P E l
def z1y (f:Func):Bool:=!(f.name == "runtime.NumGoroutine") && !f.body.isNone
theorem Sds.env {P:Program} {E:Env} {l:List Fun} {d:Bool} {G:FH} (h:Sds P E l) (hE:qv P G E):qv P G (En E d l):=by
  refine ⟨hE.types,?_,hE.glob,hE.ext⟩
  intro f F hf
  have key:∀ l:List Fun,Sds P E l→look (l.map fun F=>(F.id,F)) f = some F→zPm P G f F:=by
    intro l
    induction l with
    | nil=>intro _ h; cases h
    | cons F' l ih =>
      intro hs hl
      simp only [List.map_cons,look] at hl
      cases hb:Nat.beq F'.id f with
      | true =>
        rw [hb] at hl
        cases hl
        rw [← Nat.eq_of_beq_eq_true hb]
        exact hs.1 G hE
      | false=>rw [hb] at hl; exact ih hs.2 hl
  exact key l h hf
theorem Sds.envJ {P:Program} {E:Env} {l:List Fun} {d:Bool} {js:List Nat} {G:FH} (h:Sds P E l) (hE:qv P G E):qv P G (Ej E d js l) :=
  have h':=h.env (d:=d) hE
  ⟨h'.types,h'.funs,h'.glob,h'.ext⟩
theorem Sd.mkJ {P:Program} {E:Env} {l:List Fun} {d:Bool} {js:List Nat} {F:Fun} {f:Func} {K:Nat} (hm:P.follows .mixedOrders = true) (hl:Sds P E l) (hf:P.funcs[F.id]? = some f) (ho:z1y f = true)
    (h:evF (Ej E d js l) K f F.md F.a F.r = F.spec):Sd P E F:=by
  intro G hE
  unfold z1y at ho
  simp only [Bool.and_eq_true,Bool.not_eq_true'] at ho
  exact zPm.mk hm (hl.envJ hE) hf ho.1 ho.2 fun x y hy=>⟨K,by rw [h]; exact hy⟩
theorem Sd.mk {P:Program} {E:Env} {l:List Fun} {d:Bool} {F:Fun} {f:Func} {K:Nat} (hm:P.follows .mixedOrders = true) (hl:Sds P E l) (hf:P.funcs[F.id]? = some f) (ho:z1y f = true)
    (h:evF (En E d l) K f F.md F.a F.r = F.spec):Sd P E F:=by
  intro G hE
  unfold z1y at ho
  simp only [Bool.and_eq_true,Bool.not_eq_true'] at ho
  exact zPm.mk hm (hl.env hE) hf ho.1 ho.2 fun x y hy=>⟨K,by rw [h]; exact hy⟩
def inR {ρ:Type} (i n:Int) (x:Option ρ):Option ρ:=cond (decide (0 ≤ i)) (cond (decide (i < n)) x none) none
theorem qdo {ρ:Type} {i n:Int} {x:Option ρ} (h0:0 ≤ i) (h1:i < n):inR i n x = x:=by unfold inR; rw [decide_eq_true h0,decide_eq_true h1]; rfl
abbrev ix {α:Type} (d:α) (l:List α) (i:Int):α:=List.getD l (Int.toNat i) d
def K0:Nat:=Go.maxLen + 2
theorem z6m {n:Nat} (h:n ≤ Go.maxLen):n < K0:=by unfold K0; omega
abbrev tI:Ty:=.int .i64
abbrev tU:Ty:=.int .u64
abbrev wI (n:Int):Int:=IntKind.wrap .i64 n
abbrev wU (n:Int):Int:=IntKind.wrap .u64 n
end Go.Ev
end
section
namespace Go.Ev
theorem zhx {σ α ρ:Type} {B:(σ→Option ρ)→σ→Option ρ} {len:Nat} (hl:len ≤ Go.maxLen) (st:Int→α→σ) (F:Nat→α→Option ρ) (I:Nat→α→Prop)
    (hstep:∀ k (i:Nat) s,i < len→I i s→(∀ s',I (i + 1) s'→k (st (wI (i + 1)) s') = F (i + 1) s')→B k (st i s) = F i s)
    (hend:∀ k s,I len s→B k (st len s) = F len s) (s:α) (h0:I 0 s):iter B K0 (st 0 s) = F 0 s:=by
  refine qdm (L:=fun n i s=>iter B n (st i s)) hl F I (fun n i s hi hI h=>?_) (fun n s hI=>hend _ s hI) K0 (z6m hl) s h0
  refine hstep _ i s hi hI fun s' hI'=>?_
  rw [wI,z6l hi hl]
  exact h s' hI'
theorem qg {α:Type} {l:List α} {i:Nat} {d:α} (h:i < l.length):l.getD i d ∈ l:=by
  rw [List.getD_eq_getElem?_getD,List.getElem?_eq_getElem h]
  exact List.getElem_mem h
theorem zR (p:Bool):some (p,()) = bif p then some (true,()) else some (false,()):=by cases p <;> rfl
theorem yK {σ α ρ:Type} {B:(σ→Option ρ)→σ→Option ρ} {l:List α} (d:α) {p:α→Bool} {fin bad:Option ρ} (st:Int→σ) (hl:l.length ≤ Go.maxLen)
    (hin:∀ k (i:Nat) x,i < l.length→l.getD i d = x→x ∈ l→B k (st i) = bif p x then k (st (wI (i + 1))) else bad) (hout:∀ k,B k (st l.length) = fin):iter B K0 (st 0) = bif l.all p then fin else bad:=by
  have:=zhx (α:=Unit) (B:=B) hl (fun i _=>st i) (fun i _=>bif (l.drop i).all p then fin else bad) (fun _ _=>True) (fun k i s hi _ h=>?_) (fun k s _=>?_) () trivial
  · simpa using this
  · rw [hin k i _ hi rfl (qg hi),h () trivial,zia d hi,List.all_cons]
    cases p (l.getD i d) <;> rfl
  · rw [hout,List.drop_of_length_le (Nat.le_refl _)]; rfl
theorem z3K {σ ρ:Type} {B:(σ→Option ρ)→σ→Option ρ} {n:Nat} (hn:n ≤ Go.maxLen) {p:Nat→Bool} {fin bad:Option ρ} (st:Int→σ)
    (hin:∀ k (i:Nat),i < n→B k (st i) = bif p i then k (st (wI (i + 1))) else bad) (hout:∀ k,B k (st n) = fin):iter B K0 (st 0) = bif (List.range n).all p then fin else bad:=by
  have hx:∀ i,i < n→(List.range n).getD i 0 = i:=fun i hi=>by simp [List.getD,hi]
  refine yK (l:=List.range n) 0 st (by simpa using hn) (fun k i x hi hx' _=>?_) (by simpa using hout)
  simp only [List.length_range] at hi
  rw [hx i hi] at hx'
  subst hx'
  exact hin k i hi
theorem zKe {σ α β ρ:Type} {B:(σ→Option ρ)→σ→Option ρ} {l:List β} (d:β) (st:Int→α→σ) (G:List β→α→Option ρ) (hl:l.length ≤ Go.maxLen)
    (hin:∀ k (i:Nat) x rest s,i < l.length→l.getD i d = x→x ∈ l→l.drop (i + 1) = rest→(∀ s',k (st (wI (i + 1)) s') = G rest s')→B k (st i s) = G (x :: rest) s) (hout:∀ k s,B k (st l.length s) = G [] s) (s:α):iter B K0 (st 0 s) = G l s:=by
  have:=zhx (B:=B) hl st (fun i s=>G (l.drop i) s) (fun _ _=>True) (fun k i s hi _ h=>?_) (fun k s _=>?_) s trivial
  · simpa using this
  · rw [zia d hi]
    exact hin k i _ _ s hi rfl (qg hi) rfl fun s'=>h s' trivial
  · rw [hout,List.drop_of_length_le (Nat.le_refl _)]
def ql (p:Nat→Bool) (i:Nat):Nat→Bool
  | 0=>true
  | n + 1=>p i && ql p (i + 1) n
theorem ju {p:Nat→Bool}:∀ {n i:Nat},ql p i n = true ↔ ∀ j,i ≤ j→j < i + n→p j = true
  | 0,i=>by simp only [ql,true_iff]; intro j h1 h2; omega
  | n + 1,i=>by
    simp only [ql,Bool.and_eq_true,ju (n:=n)]
    constructor
    · rintro ⟨h1,h2⟩ j h3 h4
      by_cases e:j = i
      · subst e; exact h1
      · exact h2 j (by omega) (by omega)
    · intro h
      exact ⟨h i (Nat.le_refl i) (by omega),fun j h1 h2=>h j (by omega) (by omega)⟩
theorem qG {σ ρ:Type} {B:(σ→Option ρ)→σ→Option ρ} {i0 n:Nat} (hn:n ≤ Go.maxLen) (h0:i0 ≤ n) {p:Nat→Bool} {fin bad:Option ρ} (st:Int→σ)
    (hin:∀ k (i:Nat),i0 ≤ i→i < n→B k (st i) = bif p i then k (st (wI (i + 1))) else bad) (hout:∀ k,B k (st n) = fin):iter B K0 (st i0) = bif ql p i0 (n - i0) then fin else bad:=by
  have key:∀ (m i fuel:Nat),i0 ≤ i→i + m = n→m < fuel→iter B fuel (st i) = bif ql p i m then fin else bad:=by
    intro m
    induction m with
    | zero =>
      intro i fuel _ h1 h2
      obtain ⟨f,rfl⟩:∃ f,fuel = f + 1:=⟨fuel - 1,by omega⟩
      obtain rfl:i = n:=by omega
      exact hout _
    | succ m ih =>
      intro i fuel h1 h2 h3
      obtain ⟨f,rfl⟩:∃ f,fuel = f + 1:=⟨fuel - 1,by omega⟩
      show B (iter B f) (st i) = _
      rw [hin _ i h1 (by omega),wI,z6l (len:=n) (by omega) hn,show ((i:Int) + 1) = ((i + 1:Nat):Int) by omega,ih (i + 1) f (by omega) (by omega) (by omega)]
      simp only [ql]
      cases p i <;> rfl
  exact key (n - i0) i0 K0 (Nat.le_refl _) (by omega) (by have:=z6m hn; omega)
theorem zvw {i:Nat} (h:1 ≤ i) (hi:i ≤ Go.maxLen):wI ((i:Int) - 1) = ((i - 1:Nat):Int):=by
  rw [show ((i:Int) - 1) = ((i - 1:Nat):Int) by omega]
  exact z60 (by omega)
section
variable {τ:Ty} {l:List τ.I} {g:τ.I × Unit→Option (Bool × Unit)} {p:τ.I→Bool}
theorem zn {ρ:Type} {i n:Nat} {x:Option ρ} (h:i < n):inR (i:Int) (n:Int) x = x:=qdo (by omega) (by omega)
theorem ltT {i n:Nat} (h:i < n):decide ((i:Int) < (n:Int)) = true:=decide_eq_true (by omega)
theorem ltF (n:Nat):decide ((n:Int) < (n:Int)) = false:=decide_eq_false (by omega)
theorem zS {α:Type} {d:α} {l:List α} {i:Nat}:ix d l (i:Int) = l.getD i d:=by rw [ix,Int.toNat_natCast]
theorem vB {B:((List τ.I × Option (τ.I × Unit→Option (Bool × Unit)) × Int × Int)→Option (Int × Unit))→(List τ.I × Option (τ.I × Unit→Option (Bool × Unit)) × Int × Int)→Option (Int × Unit)}
    (hB:∀ k l g n i,B k (l,g,n,i) = bif decide (i < n) then inR i (List.length l:Int) (Option.bind g fun q0=>Option.bind (q0 (ix (zb τ) l i,())) fun q1=>bif q1.1 then some (i,()) else k (l,g,n,wI (i + 1))) else some (-1,()))
    (hl:l.length ≤ Go.maxLen) (hp:∀ x ∈ l,g (x,()) = some (p x,())):iter B K0 (l,some g,(l.length:Int),0) = some (zaz p l 0,()):=by
  have:=zhx (α:=Unit) (B:=B) hl (fun i _=>(l,some g,(l.length:Int),i)) (fun i _=>some (zaz p (l.drop i) i,())) (fun _ _=>True) (fun k i s hi _ h=>?_) (fun k s _=>?_) () trivial
  · simpa using this
  · rw [hB,ltT hi,zn hi,zS,Option.bind_some,hp _ (qg hi),Option.bind_some,h () trivial,zia (zb τ) hi]
    simp only [zaz,cond_true]
    cases p (l.getD i (zb τ)) <;> rfl
  · rw [hB,ltF,List.drop_of_length_le (Nat.le_refl _)]; rfl
theorem jO {f:Fnc (.pair (.sl τ) (.pair (.fn (.pair τ .unit) (.pair .bool .unit)) .unit)) (.pair (.int .i64) .unit)} (hf:f (l,some g,()) = some (zaz p l 0,())) :
    (Option.bind (f (l,some g,())) fun q0=>bif decide ((q0.1:Int) ≥ 0) then some (true,()) else some (false,())) = some (l.any p,()):=by
  rw [hf,Option.bind_some,zPB (p:=p) l 0 (Int.le_refl 0)]
  cases l.any p <;> rfl
theorem zaK {α:Type} {l:List α} {p:α→Bool}:(!(l.any fun x=>!p x)) = l.all p:=by
  rw [List.not_any_eq_all_not]
  congr 1
  funext x
  simp
def eqL (τ:Ty) (a b:List τ.I):Bool:=decide (a.length = b.length) && (List.zip a b).all fun q=>eqI τ q.1 q.2
theorem zs0 (a b:Nat):((a:Int) != (b:Int)) = !decide (a = b):=by
  by_cases h:a = b
  · subst h; simp
  · have:(a:Int) ≠ (b:Int):=by omega
    simp [h,this]
theorem zWS {α β:Type} {d:α} {e:β}:∀ (a:List α) (b:List β) (i:Nat),i < a.length→i < b.length→(List.zip a b).getD i (d,e) = (a.getD i d,b.getD i e)
  | x :: a,y :: b,0,_,_=>rfl
  | x :: a,y :: b,i + 1,h1,h2=>zWS a b i (by simpa using h1) (by simpa using h2)
  | [],_,_,h,_=>by simp at h
  | _ :: _,[],_,_,h=>by simp at h
theorem z3L {x:Option (List τ.I × Unit)} (h:l.length ≤ lim) (hx:x = bif decide (List.length (List.replicate 0 (zb τ)) + List.length l ≤ lim) then some (List.replicate 0 (zb τ) ++ l,()) else none) :
    (bif List.isEmpty l then both (some ([],())) x else x) = some (l,()):=by
  have e:x = some (l,()):=by rw [hx,decide_eq_true (by simpa using h)]; rfl
  rw [e]
  cases l with
  | nil=>exact qdb _
  | cons y l=>rfl
end
end Go.Ev
end
section
namespace Go.Proofs.YtaokpakfhdeiiaaGreatDoor
open Go.Ev
abbrev zY:Ty:=.st (.pair (.int .i64) (.pair (.int .i64) .unit))
abbrev jI:Type:=(Int × (Int × Unit))
abbrev zki:jI:=zb zY
abbrev tMe:Ty:=.st (.pair (.int .i64) (.pair (.int .i64) (.pair (.int .i64) .unit)))
abbrev pMe:Type:=(Int × (Int × (Int × Unit)))
abbrev zX:Ty:=.st (.pair .bool (.pair .str .unit))
abbrev qP:Type:=(Bool × (ByteArray × Unit))
abbrev zbh:qP:=zb zX
abbrev zV:Ty:=.st (.pair .bool (.pair zY (.pair zY (.pair (.int .i64) .unit))))
abbrev z5:Type:=(Bool × (jI × (jI × (Int × Unit))))
abbrev qQ:z5:=zb zV
abbrev zI:Ty:=.st (.pair .bool (.pair .str (.pair (.int .i64) (.pair (.int .i64) (.pair zY .unit)))))
abbrev z3:Type:=(Bool × (ByteArray × (Int × (Int × (jI × Unit)))))
abbrev zL:z3:=zb zI
abbrev zZ:Ty:=.st (.pair .bool (.pair (.int .i64) (.pair (.int .i64) (.pair (.int .i64) (.pair .str .unit)))))
abbrev qh:Type:=(Bool × (Int × (Int × (Int × (ByteArray × Unit)))))
abbrev zaE:qh:=zb zZ
abbrev zj1:Ty:=.st (.pair (.int .i64) (.pair (.int .u64) (.pair (.int .i64) .unit)))
abbrev zoE:Type:=(Int × (Int × (Int × Unit)))
abbrev zu:Ty:=.st (.pair .bool (.pair (.int .i64) (.pair (.int .i64) (.pair zj1 (.pair zj1 .unit)))))
abbrev zo:Type:=(Bool × (Int × (Int × (zoE × (zoE × Unit)))))
abbrev qb:zo:=zb zu
abbrev zi:Ty:=.st (.pair .bool (.pair (.int .i64) (.pair (.int .i64) (.pair (.int .i64) (.pair (.int .i64) (.pair (.int .i64) (.pair (.int .u64) (.pair (.int .u64) (.pair (.int .u64) (.pair (.int .i64) .unit))))))))))
abbrev zj:Type:=(Bool × (Int × (Int × (Int × (Int × (Int × (Int × (Int × (Int × (Int × Unit))))))))))
abbrev zP:zj:=zb zi
abbrev zl:Ty:=.st (.pair (.int .u64) (.pair (.int .i64) (.pair (.int .i64) (.pair (.int .i64) (.pair (.int .i64) (.pair (.int .i64) (.pair (.int .i64) (.pair (.int .u64) (.pair (.int .u64) (.pair (.int .i64) .unit))))))))))
abbrev zy:Type:=(Int × (Int × (Int × (Int × (Int × (Int × (Int × (Int × (Int × (Int × Unit))))))))))
abbrev zaV:zy:=zb zl
abbrev zaW:Ty:=.st (.pair (.int .i64) (.pair (.int .i64) (.pair (.int .i64) (.pair (.int .i64) (.pair (.int .i64) (.pair (.int .u64) .unit))))))
abbrev vU:Type:=(Int × (Int × (Int × (Int × (Int × (Int × Unit))))))
abbrev zD:vU:=zb zaW
abbrev zw:Ty:=.st (.pair (.int .i64) (.pair (.int .u64) .unit))
abbrev zz:Type:=(Int × (Int × Unit))
abbrev qm:zz:=zb zw
abbrev jJ:Ty:=.st (.pair (.int .i64) (.pair (.int .i64) .unit))
abbrev qe:Type:=(Int × (Int × Unit))
abbrev qj:qe:=zb jJ
abbrev vb:Ty:=.st (.pair .str (.pair .str (.pair (.int .i64) (.pair .bool .unit))))
abbrev jw:Type:=(ByteArray × (ByteArray × (Int × (Bool × Unit))))
abbrev jG:jw:=zb vb
abbrev zb8:Ty:=.st (.pair (.sl zu) (.pair (.fn (.pair zu .unit) (.pair .bool .unit)) .unit))
abbrev zbi:Type:=((List zo) × ((Option ((zo × Unit)→Option (Bool × Unit))) × Unit))
abbrev zdG:Ty:=.st (.pair (.sl zi) (.pair (.fn (.pair zi .unit) (.pair .bool .unit)) .unit))
abbrev zb9:Type:=((List zj) × ((Option ((zj × Unit)→Option (Bool × Unit))) × Unit))
abbrev zU5:Ty:=.st (.pair (.int .i64) (.pair (.int .i64) (.pair zY .unit)))
abbrev zNP:Type:=(Int × (Int × (jI × Unit)))
abbrev zES:Ty:=.st (.pair (.int .u8) (.pair (.int .u8) .unit))
abbrev zC:Ty:=.st (.pair (.sl zw) (.pair (.sl (.int .i64)) (.pair (.sl vb) (.pair (.sl jJ) (.pair (.sl zaW) (.pair (.int .i64) (.pair (.int .i64) (.pair (.int .i64) (.pair (.int .i64) .unit)))))))))
abbrev zd:Type:=((List zz) × ((List Int) × ((List jw) × ((List qe) × ((List vU) × (Int × (Int × (Int × (Int × Unit)))))))))
abbrev zh:Ty:=.st (.pair (.sl zX) (.pair (.sl zV) (.pair (.sl zI) (.pair (.sl zZ) (.pair (.sl zu) (.pair (.sl (.arr 4 (.int .u64))) (.pair (.sl zY) (.pair (.arr 4 (.int .u64)) (.pair (.arr 4 (.int .u64)) .unit)))))))))
abbrev zg:Type:=((List qP) × ((List z5) × ((List z3) × ((List qh) × ((List zo) × ((List (List Int)) × ((List jI) × ((List Int) × ((List Int) × Unit)))))))))
abbrev za:zg:=zb zh
abbrev zW:Ty:=.st (.pair (.int .u64) (.pair (.sl zh) (.pair (.sl (.sl (.int .i64))) (.pair (.sl zi) (.pair (.sl zl) (.pair (.sl (.int .i64)) .unit))))))
abbrev ze:Type:=(Int × ((List zg) × ((List (List Int)) × ((List zj) × ((List zy) × ((List Int) × Unit))))))
abbrev jx:Ty:=.st (.pair zC (.pair zW .unit))
abbrev jh:Type:=(zd × (ze × Unit))
def types:TT:=(.node (.node (.node (.node (.node (.node (.node (.node (.node .nil 1 (.fn .unit .unit) .nil) 2 (.int .i64) .nil) 3 (.int .i64) (.node .nil 4 .bool .nil)) 5 (.int .u8) (.node (.node .nil 6 (.int .u8) .nil) 7 (.st (.pair (.int .i64) (.pair (.int .i64) (.pair .bool (.pair (.int .u8) .unit))))) (.node .nil 8 (.st (.pair (.int .i64) (.pair (.int .i64) (.pair .bool (.pair (.int .u8) .unit))))) .nil))) 9 .str (.node (.node (.node .nil 10 .str .nil) 11 .str (.node .nil 12 (.int .u64) .nil)) 21 (.int .i32) (.node (.node .nil 22 (.sl zw) .nil) 23 (.sl (.int .i64)) (.node .nil 24 (.sl vb) .nil)))) 25 (.sl jJ) (.node (.node (.node (.node (.node .nil 26 (.sl zaW) .nil) 27 (.st (.pair (.sl zw) (.pair (.sl (.int .i64)) (.pair (.sl vb) (.pair (.sl jJ) (.pair (.sl zaW) (.pair (.int .i64) (.pair (.int .i64) (.pair (.int .i64) (.pair (.int .i64) .unit)))))))))) .nil) 28 zC (.node .nil 29 (.int .u64) .nil)) 30 (.sl zh) (.node (.node .nil 31 (.sl (.sl (.int .i64))) .nil) 32 (.sl zi) (.node .nil 33 (.sl zl) .nil))) 34 (.st (.pair (.int .u64) (.pair (.sl zh) (.pair (.sl (.sl (.int .i64))) (.pair (.sl zi) (.pair (.sl zl) (.pair (.sl (.int .i64)) .unit))))))) (.node (.node (.node .nil 35 zW .nil) 36 (.st (.pair (.int .i64) (.pair (.int .i64) .unit))) (.node .nil 37 zY .nil)) 38 (.int .i64) (.node (.node .nil 40 (.fn (.pair zC .unit) (.pair zW (.pair (.int .i64) .unit))) .nil) 41 (.fn (.pair zC .unit) (.pair .bool .unit)) (.node .nil 42 (.fn (.pair zW (.pair zW .unit)) (.pair .bool .unit)) .nil))))) 43 (.fn (.pair zC .unit) (.pair zW .unit)) (.node (.node (.node (.node (.node (.node .nil 44 (.fn (.pair zC (.pair zW .unit)) (.pair .bool .unit)) .nil) 46 (.fn (.pair zW (.pair (.int .i64) .unit)) (.pair (.int .u64) (.pair (.int .i64) .unit))) .nil) 47 (.fn (.pair zC (.pair zW (.pair zY .unit))) (.pair .bool .unit)) (.node .nil 48 (.fn (.pair zW (.pair zY .unit)) (.pair .bool .unit)) .nil)) 49 (.st (.pair (.int .i64) (.pair (.int .i64) (.pair (.int .i64) .unit)))) (.node (.node .nil 50 tMe .nil) 52 (.fn (.pair zC (.pair zW (.pair (.int .i64) .unit))) (.pair tMe (.pair (.int .i64) .unit))) (.node .nil 53 (.fn .unit (.pair .bool .unit)) .nil))) 54 (.fn (.pair zC (.pair zW (.pair zY (.pair (.int .i64) (.pair (.int .i64) .unit))))) (.pair .bool .unit)) (.node (.node (.node .nil 55 (.fn (.pair zW .unit) (.pair zW .unit)) .nil) 56 (.sl zX) (.node .nil 57 (.sl zV) .nil)) 58 (.sl zI) (.node (.node .nil 59 (.sl zZ) .nil) 60 (.sl zu) (.node .nil 61 (.sl (.arr 4 (.int .u64))) .nil)))) 62 (.sl zY) (.node (.node (.node (.node .nil 63 (.arr 4 (.int .u64)) .nil) 64 (.st (.pair (.sl zX) (.pair (.sl zV) (.pair (.sl zI) (.pair (.sl zZ) (.pair (.sl zu) (.pair (.sl (.arr 4 (.int .u64))) (.pair (.sl zY) (.pair (.arr 4 (.int .u64)) (.pair (.arr 4 (.int .u64)) .unit)))))))))) (.node .nil 65 zh .nil)) 66 (.st (.pair .bool (.pair .str .unit))) (.node (.node .nil 67 zX .nil) 68 (.st (.pair .bool (.pair zY (.pair zY (.pair (.int .i64) .unit))))) (.node .nil 69 zV .nil))) 70 (.st (.pair .bool (.pair .str (.pair (.int .i64) (.pair (.int .i64) (.pair zY .unit)))))) (.node (.node (.node .nil 71 zI .nil) 72 (.st (.pair .bool (.pair (.int .i64) (.pair (.int .i64) (.pair (.int .i64) (.pair .str .unit)))))) (.node .nil 73 zZ .nil)) 74 (.st (.pair (.int .i64) (.pair (.int .u64) (.pair (.int .i64) .unit)))) (.node (.node .nil 75 zj1 .nil) 76 (.st (.pair .bool (.pair (.int .i64) (.pair (.int .i64) (.pair zj1 (.pair zj1 .unit)))))) (.node .nil 77 zu .nil)))))) 78 (.st (.pair .bool (.pair (.int .i64) (.pair (.int .i64) (.pair (.int .i64) (.pair (.int .i64) (.pair (.int .i64) (.pair (.int .u64) (.pair (.int .u64) (.pair (.int .u64) (.pair (.int .i64) .unit))))))))))) (.node (.node (.node (.node (.node (.node (.node .nil 79 zi .nil) 80 (.st (.pair (.int .u64) (.pair (.int .i64) (.pair (.int .i64) (.pair (.int .i64) (.pair (.int .i64) (.pair (.int .i64) (.pair (.int .i64) (.pair (.int .u64) (.pair (.int .u64) (.pair (.int .i64) .unit))))))))))) .nil) 81 zl (.node .nil 82 (.fn (.pair zC (.pair zY .unit)) (.pair .bool .unit)) .nil)) 83 (.fn (.pair zC (.pair zW (.pair tMe .unit))) (.pair .bool .unit)) (.node (.node .nil 84 (.fn (.pair zC (.pair tMe .unit)) (.pair .bool .unit)) .nil) 85 (.fn (.pair zC (.pair (.int .i64) (.pair (.int .i64) .unit))) (.pair .bool .unit)) (.node .nil 86 (.fn (.pair zC .unit) (.pair (.sl (.sl (.int .i64))) .unit)) .nil))) 87 (.st (.pair (.int .i64) (.pair (.int .i64) (.pair (.int .i64) (.pair (.int .i64) (.pair (.int .i64) (.pair (.int .u64) .unit))))))) (.node (.node (.node .nil 88 zaW .nil) 89 (.fn (.pair zC (.pair zaW .unit)) (.pair zh .unit)) (.node .nil 90 (.fn (.pair (.sl zw) .unit) (.pair .bool .unit)) .nil)) 91 (.fn (.pair (.sl vb) .unit) (.pair .bool .unit)) (.node (.node .nil 92 (.fn (.pair (.sl jJ) (.pair (.sl zw) (.pair (.int .i64) .unit))) (.pair .bool .unit)) .nil) 93 (.fn (.pair (.sl zaW) .unit) (.pair .bool .unit)) (.node .nil 94 (.fn (.pair (.sl (.sl (.int .i64))) (.pair (.sl (.sl (.int .i64))) .unit)) (.pair .bool .unit)) .nil)))) 95 (.fn (.pair (.sl zi) (.pair (.sl zi) .unit)) (.pair .bool .unit)) (.node (.node (.node (.node .nil 96 (.fn (.pair (.sl zl) (.pair (.sl zl) .unit)) (.pair .bool .unit)) .nil) 97 (.fn (.pair zh (.pair zh .unit)) (.pair .bool .unit)) (.node .nil 98 (.fn (.pair zC (.pair zW (.pair (.int .i64) .unit))) (.pair .bool .unit)) .nil)) 99 (.fn (.pair (.int .i64) .unit) (.pair .bool .unit)) (.node (.node .nil 100 (.fn (.pair (.sl zi) (.pair (.int .i64) .unit)) (.pair (.int .u64) (.pair (.int .i64) .unit))) .nil) 101 (.sl (.int .u64)) (.node .nil 102 (.fn (.pair (.sl zu) (.pair (.int .i64) .unit)) (.pair (.int .u64) (.pair (.int .i64) .unit))) .nil))) 103 (.fn (.pair (.sl (.int .u64)) .unit) (.pair (.int .u64) (.pair (.int .i64) .unit))) (.node (.node (.node .nil 104 (.fn (.pair (.int .u64) (.pair (.int .u64) .unit)) (.pair (.int .u64) (.pair (.int .i64) .unit))) .nil) 105 (.fn (.pair zW (.pair (.int .i64) (.pair (.fn (.pair zh .unit) (.pair (.arr 4 (.int .u64)) .unit)) .unit))) (.pair (.int .u64) (.pair (.int .i64) .unit))) (.node .nil 106 (.fn (.pair zh .unit) (.pair (.arr 4 (.int .u64)) .unit)) .nil)) 107 (.st (.pair zC (.pair zW .unit))) (.node (.node .nil 108 jx .nil) 109 (.sl (.fn .unit (.pair .bool .unit))) (.node .nil 110 (.fn (.pair zC (.pair (.sl (.sl (.int .i64))) (.pair (.int .i64) (.pair (.int .i64) .unit)))) (.pair .bool .unit)) .nil))))) 111 (.fn .unit (.pair zC .unit)) (.node (.node (.node (.node (.node (.node .nil 112 (.fn (.pair (.sl zi) .unit) (.pair (.sl zi) .unit)) .nil) 113 (.fn (.pair (.sl zl) .unit) (.pair (.sl zl) .unit)) .nil) 114 (.fn (.pair (.sl (.int .i64)) .unit) (.pair (.sl (.int .i64)) .unit)) (.node .nil 115 (.fn (.pair (.sl (.sl (.int .i64))) .unit) (.pair (.sl (.sl (.int .i64))) .unit)) .nil)) 116 (.fn (.pair (.sl zh) .unit) (.pair (.sl zh) .unit)) (.node (.node .nil 117 (.fn (.pair (.sl zX) .unit) (.pair (.sl zX) .unit)) .nil) 118 (.fn (.pair (.sl zV) .unit) (.pair (.sl zV) .unit)) (.node .nil 119 (.fn (.pair (.sl zI) .unit) (.pair (.sl zI) .unit)) .nil))) 120 (.fn (.pair (.sl zZ) .unit) (.pair (.sl zZ) .unit)) (.node (.node (.node .nil 121 (.fn (.pair (.sl zu) .unit) (.pair (.sl zu) .unit)) .nil) 122 (.fn (.pair (.sl (.arr 4 (.int .u64))) .unit) (.pair (.sl (.arr 4 (.int .u64))) .unit)) (.node .nil 123 (.fn (.pair (.sl zY) .unit) (.pair (.sl zY) .unit)) .nil)) 124 (.fn (.pair (.sl zh) (.pair (.sl zh) (.pair (.fn (.pair zh (.pair zh .unit)) (.pair .bool .unit)) .unit))) (.pair .bool .unit)) (.node (.node .nil 125 (.fn (.pair (.sl (.sl (.int .i64))) (.pair (.sl (.sl (.int .i64))) (.pair (.fn (.pair (.sl (.int .i64)) (.pair (.sl (.int .i64)) .unit)) (.pair .bool .unit)) .unit))) (.pair .bool .unit)) .nil) 126 (.fn (.pair (.sl (.int .i64)) (.pair (.sl (.int .i64)) .unit)) (.pair .bool .unit)) (.node .nil 127 (.sl (.fn (.pair zC .unit) (.pair .bool .unit))) .nil)))) 128 (.fn (.pair zC (.pair (.int .i64) .unit)) (.pair .bool .unit)) (.node (.node (.node (.node .nil 129 (.fn (.pair zw (.pair zw .unit)) (.pair .bool .unit)) .nil) 130 (.st (.pair (.int .i64) (.pair (.int .u64) .unit))) (.node .nil 131 zw .nil)) 132 (.st (.pair (.int .i64) (.pair (.int .i64) .unit))) (.node (.node .nil 133 jJ .nil) 134 (.fn (.pair zw .unit) (.pair .bool .unit)) (.node .nil 135 (.fn (.pair zw (.pair zw .unit)) (.pair (.int .i64) .unit)) .nil))) 136 (.fn (.pair .str .unit) (.pair .bool .unit)) (.node (.node (.node .nil 137 (.st (.pair .str (.pair .str (.pair (.int .i64) (.pair .bool .unit))))) .nil) 138 vb (.node .nil 139 (.fn (.pair (.sl zw) (.pair zw .unit)) (.pair (.int .i64) .unit)) .nil)) 140 (.fn (.pair (.int .i64) .unit) (.pair zw .unit)) (.node (.node .nil 141 (.fn (.pair zw (.pair (.int .i64) .unit)) (.pair .bool .unit)) .nil) 142 (.fn (.pair (.sl jJ) (.pair (.int .i64) .unit)) (.pair .bool .unit)) (.node .nil 143 (.fn (.pair (.sl zX) (.pair (.sl zX) .unit)) (.pair .bool .unit)) .nil))))))) 144 (.fn (.pair (.sl zV) (.pair (.sl zV) .unit)) (.pair .bool .unit)) (.node (.node (.node (.node (.node (.node (.node (.node .nil 145 (.fn (.pair (.sl zI) (.pair (.sl zI) .unit)) (.pair .bool .unit)) .nil) 146 (.fn (.pair (.sl zZ) (.pair (.sl zZ) .unit)) (.pair .bool .unit)) .nil) 147 (.fn (.pair (.sl zu) (.pair (.sl zu) .unit)) (.pair .bool .unit)) (.node .nil 148 (.fn (.pair zC (.pair (.sl (.sl (.int .i64))) .unit)) (.pair .bool .unit)) .nil)) 149 (.fn (.pair (.sl zi) .unit) (.pair .bool .unit)) (.node (.node .nil 150 (.fn (.pair (.sl zl) .unit) (.pair .bool .unit)) .nil) 151 (.fn (.pair (.sl zX) .unit) (.pair .bool .unit)) (.node .nil 152 (.fn (.pair (.sl zV) .unit) (.pair .bool .unit)) .nil))) 153 (.fn (.pair (.sl zI) .unit) (.pair .bool .unit)) (.node (.node (.node .nil 154 (.fn (.pair (.sl zZ) .unit) (.pair .bool .unit)) .nil) 155 (.fn (.pair (.sl zu) .unit) (.pair .bool .unit)) (.node .nil 156 (.fn (.pair zC (.pair zW (.pair zY (.pair (.int .i64) .unit)))) (.pair .bool .unit)) .nil)) 157 (.fn (.pair zC (.pair zW (.pair (.int .i64) (.pair (.int .i64) .unit)))) (.pair .bool .unit)) (.node (.node .nil 158 (.fn (.pair zC (.pair zh (.pair (.int .i64) .unit))) (.pair .bool .unit)) .nil) 159 (.fn (.pair (.sl zi) .unit) (.pair (.sl (.int .i64)) .unit)) (.node .nil 160 (.fn (.pair zi .unit) (.pair (.int .i64) .unit)) .nil)))) 161 (.ptr zb8) (.node (.node (.node (.node .nil 162 (.fn (.pair (.sl zu) .unit) (.pair (.ptr zb8) .unit)) .nil) 163 (.fn .unit (.pair (.sl (.int .i64)) .unit)) (.node .nil 164 (.fn (.pair zi (.pair (.int .i64) .unit)) (.pair (.int .u64) .unit)) .nil)) 166 (.fn (.pair (.int .u64) (.pair (.int .u64) (.pair (.int .u64) .unit))) (.pair (.int .u64) (.pair (.int .u64) .unit))) (.node (.node .nil 167 (.fn (.pair (.sl zh) (.pair (.fn (.pair zh .unit) (.pair .bool .unit)) .unit)) (.pair .bool .unit)) .nil) 168 (.fn (.pair zh .unit) (.pair .bool .unit)) (.node .nil 169 (.fn (.pair (.sl zi) (.pair (.fn (.pair zi .unit) (.pair .bool .unit)) .unit)) (.pair .bool .unit)) .nil))) 170 (.fn (.pair zi .unit) (.pair .bool .unit)) (.node (.node (.node .nil 171 (.fn (.pair (.sl zl) (.pair (.fn (.pair zl .unit) (.pair .bool .unit)) .unit)) (.pair .bool .unit)) .nil) 172 (.fn (.pair zl .unit) (.pair .bool .unit)) (.node .nil 173 (.fn (.pair (.sl (.int .i64)) (.pair (.fn (.pair (.int .i64) .unit) (.pair .bool .unit)) .unit)) (.pair .bool .unit)) .nil)) 174 (.fn (.pair zY .unit) (.pair .bool .unit)) (.node (.node .nil 175 (.fn (.pair (.int .i64) .unit) (.pair (.fn (.pair zY .unit) (.pair .bool .unit)) .unit)) .nil) 176 (.fn (.pair (.sl zV) (.pair (.fn (.pair zV .unit) (.pair .bool .unit)) .unit)) (.pair .bool .unit)) (.node .nil 177 (.fn (.pair zV .unit) (.pair .bool .unit)) .nil))))) 178 (.fn (.pair (.sl zI) (.pair (.fn (.pair zI .unit) (.pair .bool .unit)) .unit)) (.pair .bool .unit)) (.node (.node (.node (.node (.node (.node .nil 179 (.fn (.pair zI .unit) (.pair .bool .unit)) .nil) 180 (.fn (.pair (.sl zY) (.pair (.fn (.pair zY .unit) (.pair .bool .unit)) .unit)) (.pair .bool .unit)) .nil) 181 (.fn (.pair (.sl zZ) (.pair (.fn (.pair zZ .unit) (.pair .bool .unit)) .unit)) (.pair .bool .unit)) (.node .nil 182 (.fn (.pair (.int .i64) (.pair (.int .i64) .unit)) (.pair .bool .unit)) .nil)) 183 (.fn (.pair zZ .unit) (.pair .bool .unit)) (.node (.node .nil 184 (.fn (.pair (.sl zu) (.pair (.fn (.pair zu .unit) (.pair .bool .unit)) .unit)) (.pair .bool .unit)) .nil) 185 (.fn (.pair zu .unit) (.pair .bool .unit)) (.node .nil 186 (.fn (.pair (.sl zu) (.pair (.fn (.pair zu .unit) (.pair .bool .unit)) .unit)) (.pair (.ptr zb8) .unit)) .nil))) 187 (.fn (.pair zC (.pair (.int .i64) .unit)) (.pair (.sl (.int .i64)) .unit)) (.node (.node (.node .nil 188 (.fn (.pair (.sl (.arr 4 (.int .u64))) (.pair (.sl (.arr 4 (.int .u64))) .unit)) (.pair .bool .unit)) .nil) 189 (.fn (.pair (.sl zY) (.pair (.sl zY) .unit)) (.pair .bool .unit)) (.node .nil 190 (.fn (.pair (.int .i64) (.pair (.int .i64) (.pair (.int .i64) .unit))) (.pair .bool .unit)) .nil)) 191 (.fn (.pair (.sl zw) (.pair (.fn (.pair zw .unit) (.pair .bool .unit)) .unit)) (.pair .bool .unit)) (.node (.node .nil 192 (.fn (.pair vb .unit) (.pair .bool .unit)) .nil) 193 (.fn (.pair (.sl vb) (.pair (.fn (.pair vb .unit) (.pair .bool .unit)) .unit)) (.pair .bool .unit)) (.node .nil 194 (.fn (.pair (.sl .str) .unit) (.pair .bool .unit)) .nil)))) 195 (.sl .str) (.node (.node (.node (.node .nil 196 (.fn (.pair zC .unit) (.pair (.sl .str) .unit)) .nil) 198 (.fn (.pair (.int .i64) .unit) (.pair zw (.pair (.int .i64) .unit))) (.node .nil 199 (.fn (.pair (.sl zw) (.pair zw .unit)) (.pair .bool .unit)) .nil)) 200 (.fn (.pair zaW .unit) (.pair (.sl (.int .i64)) .unit)) (.node (.node .nil 201 (.int .u64) .nil) 202 (.fn (.pair (.sl zi) (.pair (.int .i64) (.pair (.int .i64) .unit))) (.pair .bool .unit)) (.node .nil 203 (.fn (.pair zl (.pair zl .unit)) (.pair .bool .unit)) .nil))) 204 (.ptr zdG) (.node (.node (.node .nil 205 (.fn (.pair (.sl zi) .unit) (.pair (.ptr zdG) .unit)) .nil) 206 (.st (.pair (.sl zu) (.pair (.fn (.pair zu .unit) (.pair .bool .unit)) .unit))) (.node .nil 207 zb8 .nil)) 208 (.fn (.pair (.sl zX) (.pair (.fn (.pair zX .unit) (.pair .bool .unit)) .unit)) (.pair .bool .unit)) (.node (.node .nil 209 (.fn (.pair zX .unit) (.pair .bool .unit)) .nil) 210 (.fn (.pair (.sl zV) (.pair zY (.pair (.int .i64) .unit))) (.pair (.int .i64) .unit)) (.node .nil 211 (.pair (.int .i64) (.int .i64)) .nil)))))) 212 (.fn (.pair zl (.pair zl .unit)) (.pair (.int .i64) .unit)) (.node (.node (.node (.node (.node (.node (.node .nil 213 (.fn (.pair (.sl (.int .i64)) (.pair (.fn (.pair (.int .i64) .unit) (.pair .bool .unit)) .unit)) (.pair (.int .i64) .unit)) .nil) 214 (.fn (.pair (.sl (.int .i64)) (.pair (.int .i64) .unit)) (.pair .bool .unit)) .nil) 215 (.fn (.pair zw .unit) (.pair (.sl (.int .i64)) .unit)) (.node .nil 216 (.fn (.pair (.sl zw) (.pair (.fn (.pair zw .unit) (.pair .bool .unit)) .unit)) (.pair (.int .i64) .unit)) .nil)) 217 (.fn (.pair (.sl (.int .i64)) .unit) (.pair (.int .i64) .unit)) (.node (.node .nil 218 (.fn (.pair (.int .i64) (.pair (.int .i64) .unit)) (.pair (.int .i64) .unit)) .nil) 219 (.fn (.pair (.int .u64) (.pair (.int .u64) .unit)) (.pair (.int .i64) .unit)) (.node .nil 220 (.fn (.pair (.int .u8) .unit) (.pair .bool .unit)) .nil))) 221 (.fn (.pair .str (.pair (.fn (.pair (.int .u8) .unit) (.pair .bool .unit)) .unit)) (.pair .bool .unit)) (.node (.node (.node .nil 222 (.fn (.pair (.sl vb) (.pair (.fn (.pair vb .unit) (.pair .bool .unit)) .unit)) (.pair (.int .i64) .unit)) .nil) 223 (.pair .str (.int .i64)) (.node .nil 224 (.fn (.pair (.int .i64) (.pair (.int .u64) (.pair (.int .u64) .unit))) (.pair (.int .u64) (.pair (.int .i64) .unit))) .nil)) 225 (.fn (.pair zj1 .unit) (.pair .bool .unit)) (.node (.node .nil 226 (.fn (.pair (.sl zi) (.pair (.fn (.pair zi .unit) (.pair .bool .unit)) .unit)) (.pair (.ptr zdG) .unit)) .nil) 227 (.st (.pair (.sl zi) (.pair (.fn (.pair zi .unit) (.pair .bool .unit)) .unit))) (.node .nil 228 zdG .nil)))) 229 (.fn (.pair (.sl zh) (.pair (.fn (.pair zh .unit) (.pair .bool .unit)) .unit)) (.pair (.int .i64) .unit)) (.node (.node (.node (.node .nil 230 (.fn (.pair (.sl zX) (.pair (.fn (.pair zX .unit) (.pair .bool .unit)) .unit)) (.pair (.int .i64) .unit)) .nil) 231 (.fn (.pair (.sl zV) (.pair (.fn (.pair zV .unit) (.pair .bool .unit)) .unit)) (.pair (.int .i64) .unit)) (.node .nil 232 (.fn (.pair (.sl zI) (.pair (.fn (.pair zI .unit) (.pair .bool .unit)) .unit)) (.pair (.int .i64) .unit)) .nil)) 233 (.st (.pair (.int .i64) (.pair (.int .i64) (.pair zY .unit)))) (.node (.node .nil 234 zU5 .nil) 235 (.fn (.pair zI .unit) (.pair zU5 .unit)) (.node .nil 236 (.fn (.pair (.sl zZ) (.pair (.fn (.pair zZ .unit) (.pair .bool .unit)) .unit)) (.pair (.int .i64) .unit)) .nil))) 237 (.fn (.pair (.sl zu) (.pair (.fn (.pair zu .unit) (.pair .bool .unit)) .unit)) (.pair (.int .i64) .unit)) (.node (.node (.node .nil 238 (.fn (.pair (.sl zi) (.pair (.fn (.pair zi .unit) (.pair .bool .unit)) .unit)) (.pair (.int .i64) .unit)) .nil) 239 (.fn (.pair (.sl zl) (.pair (.fn (.pair zl .unit) (.pair .bool .unit)) .unit)) (.pair (.int .i64) .unit)) (.node .nil 240 (.fn (.pair (.sl zY) (.pair (.fn (.pair zY .unit) (.pair .bool .unit)) .unit)) (.pair (.int .i64) .unit)) .nil)) 241 (.fn (.pair (.sl (.int .i64)) (.pair (.int .i64) .unit)) (.pair (.int .i64) .unit)) (.node (.node .nil 242 (.fn (.pair (.fn (.pair (.int .i64) .unit) (.pair .bool .unit)) .unit) .unit) .nil) 243 (.fn (.pair (.fn (.pair (.int .i64) .unit) (.pair .bool .unit)) .unit) .unit) (.node .nil 244 (.fn (.pair zw .unit) (.pair (.fn (.pair (.fn (.pair (.int .i64) .unit) (.pair .bool .unit)) .unit) .unit) .unit)) .nil))))) 245 (.fn (.pair (.int .u64) .unit) (.pair .bool .unit)) (.node (.node (.node (.node (.node (.node .nil 246 (.fn (.pair (.sl (.int .u8)) (.pair (.fn (.pair (.int .u8) .unit) (.pair .bool .unit)) .unit)) (.pair .bool .unit)) .nil) 247 (.sl (.int .u8)) .nil) 248 (.fn (.pair .str (.pair .str .unit)) (.pair .str .unit)) (.node .nil 249 (.fn (.pair (.int .u64) .unit) (.pair (.int .i64) .unit)) .nil)) 250 (.fn (.pair (.sl (.int .u8)) (.pair (.fn (.pair (.int .u8) .unit) (.pair .bool .unit)) .unit)) (.pair (.int .i64) .unit)) (.node (.node .nil 251 (.fn (.pair .str (.pair (.int .u8) .unit)) (.pair .str .unit)) .nil) 252 (.arr 256 .bool) (.node .nil 253 (.arr 256 .bool) .nil))) 255 (.fn (.pair .str .unit) (.pair (.arr 256 .bool) (.pair .bool .unit))) (.node (.node (.node .nil 256 (.fn (.pair .str (.pair (.ptr (.arr 256 .bool)) .unit)) (.pair .str .unit)) .nil) 257 (.ptr (.arr 256 .bool)) (.node .nil 258 (.fn (.pair (.int .u64) (.pair (.int .u64) .unit)) (.pair (.int .u64) (.pair (.int .u64) .unit))) .nil)) 259 (.arr 64 (.int .u8)) (.node (.node .nil 261 (.fn (.pair .str .unit) (.pair (.int .i32) (.pair (.int .i64) .unit))) .nil) 262 (.fn (.pair .str (.pair (.int .i32) .unit)) (.pair .bool .unit)) (.node .nil 263 (.fn (.pair .str (.pair (.int .i32) .unit)) (.pair (.int .i64) .unit)) .nil)))) 264 (.arr 256 (.int .u8)) (.node (.node (.node (.node .nil 265 (.st (.pair (.int .u8) (.pair (.int .u8) .unit))) .nil) 266 zES (.node .nil 267 (.arr 16 zES) .nil)) 268 (.fn (.pair .str (.pair (.int .u8) .unit)) (.pair (.int .i64) .unit)) (.node (.node .nil 269 (.fn (.pair (.int .i32) .unit) (.pair .bool .unit)) .nil) 270 (.fn (.pair (.int .i64) .unit) (.pair (.int .i64) .unit)) (.node .nil 271 (.fn (.pair .str (.pair .str .unit)) (.pair (.int .i64) .unit)) .nil))) 272 (.fn .unit (.pair .str .unit)) (.node (.node (.node .nil 278 (.fn .unit (.pair (.int .i64) .unit)) .nil) 279 (.int .u32) (.node .nil 280 (.int .u8) .nil)) 281 (.int .u8) (.node (.node .nil 283 (.ptr (.int .u8)) .nil) 284 (.int .i32) (.node .nil 285 (.int .i32) .nil))))))))
def glob:List (Nat × AV):=[(0,.dat (.ptr (.arr 64 (.int .u8))) (some [0,1,56,2,57,49,28,3,61,58,42,50,38,29,17,4,62,47,59,36,45,43,51,22,53,39,33,30,24,18,12,5,63,55,48,27,60,41,37,16,46,35,44,21,52,32,23,11,54,26,40,15,34,20,31,10,25,14,19,9,13,8,7,6]))]
abbrev zby:Ty:=(.pair zC (.pair zW (.pair zY (.pair (.int .i64) (.pair (.int .i64) .unit)))))
abbrev zpb:Ty:=(.pair .bool .unit)
abbrev zS0:Type:=(zd × (ze × (jI × (Int × (Int × Unit)))))→Option (Bool × Unit)
abbrev zR9 (g:Fnc zby zpb):Fun:=⟨3,zby,zpb,0,g⟩
abbrev zLF:Ty:=(.pair zC .unit)
abbrev znG:Ty:=(.pair zW (.pair (.int .i64) .unit))
abbrev zLG:Type:=(zd × Unit)→Option (ze × (Int × Unit))
abbrev zpc (g:Fnc zLF znG):Fun:=⟨8,zLF,znG,3,g⟩
abbrev zB9:Ty:=(.pair zC .unit)
abbrev zs1:Ty:=(.pair .bool .unit)
abbrev zs2:Type:=(zd × Unit)→Option (Bool × Unit)
abbrev zdc (g:Fnc zB9 zs1):Fun:=⟨9,zB9,zs1,0,g⟩
abbrev zF3:Ty:=(.pair zW (.pair zW .unit))
abbrev zkj:Ty:=(.pair .bool .unit)
abbrev zS1:Type:=(ze × (ze × Unit))→Option (Bool × Unit)
abbrev zCa (g:Fnc zF3 zkj):Fun:=⟨10,zF3,zkj,0,g⟩
abbrev zLH:Ty:=(.pair zC .unit)
abbrev zH:Ty:=(.pair zW .unit)
abbrev zV2:Type:=(zd × Unit)→Option (ze × Unit)
abbrev zF4 (g:Fnc zLH zH):Fun:=⟨11,zLH,zH,3,g⟩
abbrev zCb:Ty:=(.pair zC (.pair zW .unit))
abbrev zbj:Ty:=(.pair .bool .unit)
abbrev zQM:Type:=(zd × (ze × Unit))→Option (Bool × Unit)
abbrev zy6 (g:Fnc zCb zbj):Fun:=⟨12,zCb,zbj,0,g⟩
abbrev zF5:Ty:=(.pair zW (.pair (.int .i64) .unit))
abbrev zf5:Ty:=(.pair (.int .u64) (.pair (.int .i64) .unit))
abbrev zvR:Type:=(ze × (Int × Unit))→Option (Int × (Int × Unit))
abbrev zeD (g:Fnc zF5 zf5):Fun:=⟨13,zF5,zf5,0,g⟩
abbrev zF6:Ty:=(.pair zW (.pair (.int .i64) .unit))
abbrev zf6:Ty:=(.pair (.int .u64) (.pair (.int .i64) .unit))
abbrev zF7:Type:=(ze × (Int × Unit))→Option (Int × (Int × Unit))
abbrev zmK (g:Fnc zF6 zf6):Fun:=⟨14,zF6,zf6,0,g⟩
abbrev zF8:Ty:=(.pair zW (.pair (.int .i64) .unit))
abbrev zF9:Ty:=(.pair (.int .u64) (.pair (.int .i64) .unit))
abbrev zvS:Type:=(ze × (Int × Unit))→Option (Int × (Int × Unit))
abbrev zeE (g:Fnc zF8 zF9):Fun:=⟨15,zF8,zF9,0,g⟩
abbrev zGa:Ty:=(.pair zW (.pair (.int .i64) .unit))
abbrev zkk:Ty:=(.pair (.int .u64) (.pair (.int .i64) .unit))
abbrev zGb:Type:=(ze × (Int × Unit))→Option (Int × (Int × Unit))
abbrev zmL (g:Fnc zGa zkk):Fun:=⟨16,zGa,zkk,0,g⟩
abbrev zCc:Ty:=(.pair zC (.pair zW .unit))
abbrev zs3:Ty:=(.pair .bool .unit)
abbrev zmM:Type:=(zd × (ze × Unit))→Option (Bool × Unit)
abbrev zai (g:Fnc zCc zs3):Fun:=⟨17,zCc,zs3,0,g⟩
abbrev zy7:Ty:=(.pair zC (.pair zW (.pair zY .unit)))
abbrev zy8:Ty:=(.pair .bool .unit)
abbrev zy9:Type:=(zd × (ze × (jI × Unit)))→Option (Bool × Unit)
abbrev zib (g:Fnc zy7 zy8):Fun:=⟨18,zy7,zy8,0,g⟩
abbrev zCd:Ty:=(.pair zW (.pair zY .unit))
abbrev zCe:Ty:=(.pair .bool .unit)
abbrev zs4:Type:=(ze × (jI × Unit))→Option (Bool × Unit)
abbrev zdd (g:Fnc zCd zCe):Fun:=⟨19,zCd,zCe,0,g⟩
abbrev zPC:Ty:=(.pair zC (.pair zW (.pair (.int .i64) .unit)))
abbrev zPD:Ty:=(.pair tMe (.pair (.int .i64) .unit))
abbrev zPE:Type:=(zd × (ze × (Int × Unit)))→Option (pMe × (Int × Unit))
abbrev zsu (g:Fnc zPC zPD):Fun:=⟨20,zPC,zPD,0,g⟩
abbrev zCf:Ty:=.unit
abbrev zCg:Ty:=(.pair .bool .unit)
abbrev zQN:Type:=Unit→Option (Bool × Unit)
abbrev zza (g:Fnc zCf zCg):Fun:=⟨21,zCf,zCg,0,g⟩
abbrev zPF:Ty:=(.pair zC (.pair zW (.pair (.int .i64) .unit)))
abbrev zPG:Ty:=(.pair tMe (.pair (.int .i64) .unit))
abbrev zY4:Type:=(zd × (ze × (Int × Unit)))→Option (pMe × (Int × Unit))
abbrev zLI (g:Fnc zPF zPG):Fun:=⟨22,zPF,zPG,0,g⟩
abbrev zCh:Ty:=(.pair zW .unit)
abbrev zhy:Ty:=(.pair zW .unit)
abbrev zCi:Type:=(ze × Unit)→Option (ze × Unit)
abbrev zzb (g:Fnc zCh zhy):Fun:=⟨23,zCh,zhy,3,g⟩
abbrev zGc:Ty:=(.pair zW (.pair zW .unit))
abbrev zGd:Ty:=(.pair .bool .unit)
abbrev zS2:Type:=(ze × (ze × Unit))→Option (Bool × Unit)
abbrev zCj (g:Fnc zGc zGd):Fun:=⟨24,zGc,zGd,0,g⟩
abbrev zCk:Ty:=(.pair zC .unit)
abbrev zs5:Ty:=(.pair .bool .unit)
abbrev zhz:Type:=(zd × Unit)→Option (Bool × Unit)
abbrev yg (g:Fnc zCk zs5):Fun:=⟨25,zCk,zs5,0,g⟩
abbrev zPH:Ty:=(.pair zC .unit)
abbrev zFw:Ty:=(.pair (.sl (.sl (.int .i64))) .unit)
abbrev zY5:Type:=(zd × Unit)→Option ((List (List Int)) × Unit)
abbrev zLJ (g:Fnc zPH zFw):Fun:=⟨29,zPH,zFw,4,g⟩
abbrev zCl:Ty:=(.pair zC (.pair zaW .unit))
abbrev zCm:Ty:=(.pair zh .unit)
abbrev zQO:Type:=(zd × (vU × Unit))→Option (zg × Unit)
abbrev zzc (g:Fnc zCl zCm):Fun:=⟨30,zCl,zCm,3,g⟩
abbrev zzd:Ty:=(.pair (.sl zw) .unit)
abbrev zqz:Ty:=(.pair .bool .unit)
abbrev zNQ:Type:=((List zz) × Unit)→Option (Bool × Unit)
abbrev zvT (g:Fnc zzd zqz):Fun:=⟨31,zzd,zqz,0,g⟩
abbrev ztG:Ty:=(.pair (.sl vb) .unit)
abbrev zbp:Ty:=(.pair .bool .unit)
abbrev zGe:Type:=((List jw) × Unit)→Option (Bool × Unit)
abbrev zro (g:Fnc ztG zbp):Fun:=⟨32,ztG,zbp,0,g⟩
abbrev zze:Ty:=(.pair (.sl jJ) (.pair (.sl zw) (.pair (.int .i64) .unit)))
abbrev zaj:Ty:=(.pair .bool .unit)
abbrev zNR:Type:=((List qe) × ((List zz) × (Int × Unit)))→Option (Bool × Unit)
abbrev zvU (g:Fnc zze zaj):Fun:=⟨33,zze,zaj,0,g⟩
abbrev zzf:Ty:=(.pair (.sl zaW) .unit)
abbrev zqA:Ty:=(.pair .bool .unit)
abbrev zNS:Type:=((List vU) × Unit)→Option (Bool × Unit)
abbrev zvV (g:Fnc zzf zqA):Fun:=⟨34,zzf,zqA,0,g⟩
abbrev zGf:Ty:=(.pair (.sl (.sl (.int .i64))) (.pair (.sl (.sl (.int .i64))) .unit))
abbrev zf7:Ty:=(.pair .bool .unit)
abbrev zS3:Type:=((List (List Int)) × ((List (List Int)) × Unit))→Option (Bool × Unit)
abbrev zCn (g:Fnc zGf zf7):Fun:=⟨35,zGf,zf7,0,g⟩
abbrev zGg:Ty:=(.pair (.sl zi) (.pair (.sl zi) .unit))
abbrev zvW:Ty:=(.pair .bool .unit)
abbrev zS4:Type:=((List zj) × ((List zj) × Unit))→Option (Bool × Unit)
abbrev zCo (g:Fnc zGg zvW):Fun:=⟨36,zGg,zvW,0,g⟩
abbrev zGh:Ty:=(.pair (.sl zl) (.pair (.sl zl) .unit))
abbrev zvX:Ty:=(.pair .bool .unit)
abbrev zS5:Type:=((List zy) × ((List zy) × Unit))→Option (Bool × Unit)
abbrev zCp (g:Fnc zGh zvX):Fun:=⟨37,zGh,zvX,0,g⟩
abbrev zrp:Ty:=(.pair zh (.pair zh .unit))
abbrev zcA:Ty:=(.pair .bool .unit)
abbrev zET:Type:=(zg × (zg × Unit))→Option (Bool × Unit)
abbrev zpd (g:Fnc zrp zcA):Fun:=⟨38,zrp,zcA,0,g⟩
abbrev zLK:Ty:=(.pair zC .unit)
abbrev zjl:Ty:=(.pair (.sl (.sl (.int .i64))) .unit)
abbrev zV3:Type:=(zd × Unit)→Option ((List (List Int)) × Unit)
abbrev zGi (g:Fnc zLK zjl):Fun:=⟨39,zLK,zjl,4,g⟩
abbrev zCq:Ty:=(.pair zC (.pair zW .unit))
abbrev zs6:Ty:=(.pair .bool .unit)
abbrev zQP:Type:=(zd × (ze × Unit))→Option (Bool × Unit)
abbrev zzg (g:Fnc zCq zs6):Fun:=⟨40,zCq,zs6,0,g⟩
abbrev zzh:Ty:=(.pair zC (.pair zW .unit))
abbrev zbz:Ty:=(.pair .bool .unit)
abbrev zNT:Type:=(zd × (ze × Unit))→Option (Bool × Unit)
abbrev zvY (g:Fnc zzh zbz):Fun:=⟨41,zzh,zbz,0,g⟩
abbrev zCr:Ty:=(.pair zC (.pair zW (.pair (.int .i64) .unit)))
abbrev vZ:Ty:=(.pair .bool .unit)
abbrev zQQ:Type:=(zd × (ze × (Int × Unit)))→Option (Bool × Unit)
abbrev zzi (g:Fnc zCr vZ):Fun:=⟨42,zCr,vZ,0,g⟩
abbrev zGj:Ty:=(.pair (.int .i64) .unit)
abbrev zGk:Ty:=(.pair .bool .unit)
abbrev zdV:Type:=(Int × Unit)→Option (Bool × Unit)
abbrev j5 (g:Fnc zGj zGk):Fun:=⟨43,zGj,zGk,0,g⟩
abbrev zLL:Ty:=(.pair (.sl zi) (.pair (.int .i64) .unit))
abbrev zBf:Ty:=(.pair (.int .u64) (.pair (.int .i64) .unit))
abbrev zV4:Type:=((List zj) × (Int × Unit))→Option (Int × (Int × Unit))
abbrev zGl (g:Fnc zLL zBf):Fun:=⟨44,zLL,zBf,0,g⟩
abbrev zGm:Ty:=(.pair (.sl zu) (.pair (.int .i64) .unit))
abbrev zvZ:Ty:=(.pair (.int .u64) (.pair (.int .i64) .unit))
abbrev zS6:Type:=((List zo) × (Int × Unit))→Option (Int × (Int × Unit))
abbrev zCs (g:Fnc zGm zvZ):Fun:=⟨45,zGm,zvZ,0,g⟩
abbrev zPI:Ty:=(.pair (.sl (.int .u64)) .unit)
abbrev zFx:Ty:=(.pair (.int .u64) (.pair (.int .i64) .unit))
abbrev zv0:Type:=((List Int) × Unit)→Option (Int × (Int × Unit))
abbrev zdH (g:Fnc zPI zFx):Fun:=⟨46,zPI,zFx,0,g⟩
abbrev zGn:Ty:=(.pair (.sl zi) (.pair (.int .i64) .unit))
abbrev zv1:Ty:=(.pair (.int .u64) (.pair (.int .i64) .unit))
abbrev zS7:Type:=((List zj) × (Int × Unit))→Option (Int × (Int × Unit))
abbrev zCt (g:Fnc zGn zv1):Fun:=⟨47,zGn,zv1,0,g⟩
abbrev zGo:Ty:=(.pair (.sl zu) (.pair (.int .i64) .unit))
abbrev zv2:Ty:=(.pair (.int .u64) (.pair (.int .i64) .unit))
abbrev zS8:Type:=((List zo) × (Int × Unit))→Option (Int × (Int × Unit))
abbrev zCu (g:Fnc zGo zv2):Fun:=⟨48,zGo,zv2,0,g⟩
abbrev zGp:Ty:=(.pair (.int .u64) (.pair (.int .u64) .unit))
abbrev zGq:Ty:=(.pair (.int .u64) (.pair (.int .i64) .unit))
abbrev zpe:Type:=(Int × (Int × Unit))→Option (Int × (Int × Unit))
abbrev zbk (g:Fnc zGp zGq):Fun:=⟨49,zGp,zGq,0,g⟩
abbrev zzj:Ty:=(.pair zW (.pair (.int .i64) (.pair (.fn (.pair zh .unit) (.pair (.arr 4 (.int .u64)) .unit)) .unit)))
abbrev zqB:Ty:=(.pair (.int .u64) (.pair (.int .i64) .unit))
abbrev zNU:Type:=(ze × (Int × ((Option ((zg × Unit)→Option ((List Int) × Unit))) × Unit)))→Option (Int × (Int × Unit))
abbrev zv3 (g:Fnc zzj zqB):Fun:=⟨50,zzj,zqB,0,g⟩
abbrev zzk:Ty:=(.pair zh .unit)
abbrev zzl:Ty:=(.pair (.arr 4 (.int .u64)) .unit)
abbrev zNV:Type:=(zg × Unit)→Option ((List Int) × Unit)
abbrev zv4 (g:Fnc zzk zzl):Fun:=⟨51,zzk,zzl,0,g⟩
abbrev zzm:Ty:=(.pair zh .unit)
abbrev zzn:Ty:=(.pair (.arr 4 (.int .u64)) .unit)
abbrev zNW:Type:=(zg × Unit)→Option ((List Int) × Unit)
abbrev zv5 (g:Fnc zzm zzn):Fun:=⟨52,zzm,zzn,0,g⟩
abbrev zGr:Ty:=(.pair (.int .u64) (.pair (.int .u64) .unit))
abbrev zGs:Ty:=(.pair (.int .u64) (.pair (.int .i64) .unit))
abbrev zS9:Type:=(Int × (Int × Unit))→Option (Int × (Int × Unit))
abbrev zCv (g:Fnc zGr zGs):Fun:=⟨53,zGr,zGs,0,g⟩
abbrev zCw:Ty:=(.pair (.int .u64) (.pair (.int .u64) .unit))
abbrev zCx:Ty:=(.pair (.int .u64) (.pair (.int .i64) .unit))
abbrev zQR:Type:=(Int × (Int × Unit))→Option (Int × (Int × Unit))
abbrev zzo (g:Fnc zCw zCx):Fun:=⟨54,zCw,zCx,0,g⟩
abbrev zCy:Ty:=(.pair jx .unit)
abbrev zs7:Ty:=(.pair .bool .unit)
abbrev zQS:Type:=(jh × Unit)→Option (Bool × Unit)
abbrev zzp (g:Fnc zCy zs7):Fun:=⟨55,zCy,zs7,0,g⟩
abbrev zCz:Ty:=(.pair jx .unit)
abbrev zCA:Ty:=(.pair .bool .unit)
abbrev zQT:Type:=(jh × Unit)→Option (Bool × Unit)
abbrev zzq (g:Fnc zCz zCA):Fun:=⟨56,zCz,zCA,0,g⟩
abbrev zzr:Ty:=(.pair jx .unit)
abbrev zzs:Ty:=(.pair .bool .unit)
abbrev zNX:Type:=(jh × Unit)→Option (Bool × Unit)
abbrev zv6 (g:Fnc zzr zzs):Fun:=⟨57,zzr,zzs,0,g⟩
abbrev zCB:Ty:=(.pair jx .unit)
abbrev zs8:Ty:=(.pair .bool .unit)
abbrev zQU:Type:=(jh × Unit)→Option (Bool × Unit)
abbrev zzt (g:Fnc zCB zs8):Fun:=⟨58,zCB,zs8,0,g⟩
abbrev zzu:Ty:=(.pair jx .unit)
abbrev zkl:Ty:=(.pair .bool .unit)
abbrev zNY:Type:=(jh × Unit)→Option (Bool × Unit)
abbrev zv7 (g:Fnc zzu zkl):Fun:=⟨59,zzu,zkl,0,g⟩
abbrev zCC:Ty:=(.pair jx .unit)
abbrev vC:Ty:=(.pair .bool .unit)
abbrev zQV:Type:=(jh × Unit)→Option (Bool × Unit)
abbrev zzv (g:Fnc zCC vC):Fun:=⟨60,zCC,vC,0,g⟩
abbrev zCD:Ty:=(.pair jx .unit)
abbrev zeF:Ty:=(.pair .bool .unit)
abbrev zQW:Type:=(jh × Unit)→Option (Bool × Unit)
abbrev zzw (g:Fnc zCD zeF):Fun:=⟨61,zCD,zeF,0,g⟩
abbrev zCE:Ty:=(.pair zW (.pair zY .unit))
abbrev zCF:Ty:=(.pair .bool .unit)
abbrev zs9:Type:=(ze × (jI × Unit))→Option (Bool × Unit)
abbrev zde (g:Fnc zCE zCF):Fun:=⟨62,zCE,zCF,0,g⟩
abbrev zzx:Ty:=(.pair zC (.pair (.sl (.sl (.int .i64))) (.pair (.int .i64) (.pair (.int .i64) .unit))))
abbrev zzy:Ty:=(.pair .bool .unit)
abbrev zNZ:Type:=(zd × ((List (List Int)) × (Int × (Int × Unit))))→Option (Bool × Unit)
abbrev zv8 (g:Fnc zzx zzy):Fun:=⟨63,zzx,zzy,0,g⟩
abbrev zCG:Ty:=.unit
abbrev zCH:Ty:=(.pair zC .unit)
abbrev zQX:Type:=Unit→Option (zd × Unit)
abbrev zzz (g:Fnc zCG zCH):Fun:=⟨64,zCG,zCH,0,g⟩
abbrev zv9:Ty:=(.pair zC (.pair (.sl (.sl (.int .i64))) (.pair (.int .i64) (.pair (.int .i64) .unit))))
abbrev zoF:Ty:=(.pair .bool .unit)
abbrev zKf:Type:=(zd × ((List (List Int)) × (Int × (Int × Unit))))→Option (Bool × Unit)
abbrev ztH (g:Fnc zv9 zoF):Fun:=⟨65,zv9,zoF,0,g⟩
abbrev ztI:Ty:=(.pair (.sl zi) .unit)
abbrev ztJ:Ty:=(.pair (.sl zi) .unit)
abbrev ztK:Type:=((List zj) × Unit)→Option ((List zj) × Unit)
abbrev zeX (g:Fnc ztI ztJ):Fun:=⟨66,ztI,ztJ,1,g⟩
abbrev ztL:Ty:=(.pair (.sl zl) .unit)
abbrev ztM:Ty:=(.pair (.sl zl) .unit)
abbrev zGt:Type:=((List zy) × Unit)→Option ((List zy) × Unit)
abbrev zrq (g:Fnc ztL ztM):Fun:=⟨67,ztL,ztM,1,g⟩
abbrev zzA:Ty:=(.pair (.sl (.int .i64)) .unit)
abbrev zzB:Ty:=(.pair (.sl (.int .i64)) .unit)
abbrev zN0:Type:=((List Int) × Unit)→Option ((List Int) × Unit)
abbrev zwa (g:Fnc zzA zzB):Fun:=⟨68,zzA,zzB,1,g⟩
abbrev zwb:Ty:=(.pair (.sl (.sl (.int .i64))) .unit)
abbrev zwc:Ty:=(.pair (.sl (.sl (.int .i64))) .unit)
abbrev zKg:Type:=((List (List Int)) × Unit)→Option ((List (List Int)) × Unit)
abbrev ztN (g:Fnc zwb zwc):Fun:=⟨69,zwb,zwc,1,g⟩
abbrev ztO:Ty:=(.pair (.sl zh) .unit)
abbrev ztP:Ty:=(.pair (.sl zh) .unit)
abbrev zGu:Type:=((List zg) × Unit)→Option ((List zg) × Unit)
abbrev zrr (g:Fnc ztO ztP):Fun:=⟨70,ztO,ztP,1,g⟩
abbrev zwd:Ty:=(.pair (.sl zX) .unit)
abbrev zwe:Ty:=(.pair (.sl zX) .unit)
abbrev zKh:Type:=((List qP) × Unit)→Option ((List qP) × Unit)
abbrev ztQ (g:Fnc zwd zwe):Fun:=⟨71,zwd,zwe,1,g⟩
abbrev zwf:Ty:=(.pair (.sl zV) .unit)
abbrev zwg:Ty:=(.pair (.sl zV) .unit)
abbrev zKi:Type:=((List z5) × Unit)→Option ((List z5) × Unit)
abbrev ztR (g:Fnc zwf zwg):Fun:=⟨72,zwf,zwg,1,g⟩
abbrev zwh:Ty:=(.pair (.sl zI) .unit)
abbrev zwi:Ty:=(.pair (.sl zI) .unit)
abbrev zKj:Type:=((List z3) × Unit)→Option ((List z3) × Unit)
abbrev ztS (g:Fnc zwh zwi):Fun:=⟨73,zwh,zwi,1,g⟩
abbrev zwj:Ty:=(.pair (.sl zZ) .unit)
abbrev zwk:Ty:=(.pair (.sl zZ) .unit)
abbrev zKk:Type:=((List qh) × Unit)→Option ((List qh) × Unit)
abbrev ztT (g:Fnc zwj zwk):Fun:=⟨74,zwj,zwk,1,g⟩
abbrev ztU:Ty:=(.pair (.sl zu) .unit)
abbrev ztV:Ty:=(.pair (.sl zu) .unit)
abbrev ztW:Type:=((List zo) × Unit)→Option ((List zo) × Unit)
abbrev zeY (g:Fnc ztU ztV):Fun:=⟨75,ztU,ztV,1,g⟩
abbrev zCI:Ty:=(.pair (.sl (.arr 4 (.int .u64))) .unit)
abbrev zCJ:Ty:=(.pair (.sl (.arr 4 (.int .u64))) .unit)
abbrev zQY:Type:=((List (List Int)) × Unit)→Option ((List (List Int)) × Unit)
abbrev zzC (g:Fnc zCI zCJ):Fun:=⟨76,zCI,zCJ,1,g⟩
abbrev zzD:Ty:=(.pair (.sl zY) .unit)
abbrev zzE:Ty:=(.pair (.sl zY) .unit)
abbrev zN1:Type:=((List jI) × Unit)→Option ((List jI) × Unit)
abbrev zwl (g:Fnc zzD zzE):Fun:=⟨77,zzD,zzE,1,g⟩
abbrev zlQ:Ty:=(.pair (.sl zh) (.pair (.sl zh) (.pair (.fn (.pair zh (.pair zh .unit)) (.pair .bool .unit)) .unit)))
abbrev zfm:Ty:=(.pair .bool .unit)
abbrev zwm:Type:=((List zg) × ((List zg) × ((Option ((zg × (zg × Unit))→Option (Bool × Unit))) × Unit)))→Option (Bool × Unit)
abbrev zkm (g:Fnc zlQ zfm):Fun:=⟨78,zlQ,zfm,0,g⟩
abbrev zrs:Ty:=(.pair zh (.pair zh .unit))
abbrev zrt:Ty:=(.pair .bool .unit)
abbrev zEU:Type:=(zg × (zg × Unit))→Option (Bool × Unit)
abbrev zpf (g:Fnc zrs zrt):Fun:=⟨79,zrs,zrt,0,g⟩
abbrev znX:Ty:=(.pair (.sl (.sl (.int .i64))) (.pair (.sl (.sl (.int .i64))) (.pair (.fn (.pair (.sl (.int .i64)) (.pair (.sl (.int .i64)) .unit)) (.pair .bool .unit)) .unit)))
abbrev zgZ:Ty:=(.pair .bool .unit)
abbrev zyA:Type:=((List (List Int)) × ((List (List Int)) × ((Option (((List Int) × ((List Int) × Unit))→Option (Bool × Unit))) × Unit)))→Option (Bool × Unit)
abbrev zlR (g:Fnc znX zgZ):Fun:=⟨80,znX,zgZ,0,g⟩
abbrev zzF:Ty:=(.pair (.sl (.int .i64)) (.pair (.sl (.int .i64)) .unit))
abbrev zqC:Ty:=(.pair .bool .unit)
abbrev zN2:Type:=((List Int) × ((List Int) × Unit))→Option (Bool × Unit)
abbrev zwn (g:Fnc zzF zqC):Fun:=⟨81,zzF,zqC,0,g⟩
abbrev ztX:Ty:=(.pair (.sl zi) (.pair (.sl zi) .unit))
abbrev zlS:Ty:=(.pair .bool .unit)
abbrev zGv:Type:=((List zj) × ((List zj) × Unit))→Option (Bool × Unit)
abbrev zru (g:Fnc ztX zlS):Fun:=⟨82,ztX,zlS,0,g⟩
abbrev ztY:Ty:=(.pair (.sl zl) (.pair (.sl zl) .unit))
abbrev zlT:Ty:=(.pair .bool .unit)
abbrev zGw:Type:=((List zy) × ((List zy) × Unit))→Option (Bool × Unit)
abbrev zrv (g:Fnc ztY zlT):Fun:=⟨83,ztY,zlT,0,g⟩
abbrev zzG:Ty:=(.pair zC .unit)
abbrev zqD:Ty:=(.pair .bool .unit)
abbrev zN3:Type:=(zd × Unit)→Option (Bool × Unit)
abbrev zwo (g:Fnc zzG zqD):Fun:=⟨84,zzG,zqD,0,g⟩
abbrev zCK:Ty:=(.pair zC .unit)
abbrev zCL:Ty:=(.pair .bool .unit)
abbrev zQZ:Type:=(zd × Unit)→Option (Bool × Unit)
abbrev zzH (g:Fnc zCK zCL):Fun:=⟨85,zCK,zCL,0,g⟩
abbrev ztZ:Ty:=(.pair zC .unit)
abbrev zt0:Ty:=(.pair .bool .unit)
abbrev zGx:Type:=(zd × Unit)→Option (Bool × Unit)
abbrev zrw (g:Fnc ztZ zt0):Fun:=⟨86,ztZ,zt0,0,g⟩
abbrev zzI:Ty:=(.pair zC .unit)
abbrev zqE:Ty:=(.pair .bool .unit)
abbrev zN4:Type:=(zd × Unit)→Option (Bool × Unit)
abbrev zwp (g:Fnc zzI zqE):Fun:=⟨87,zzI,zqE,0,g⟩
abbrev zzJ:Ty:=(.pair zC .unit)
abbrev zqF:Ty:=(.pair .bool .unit)
abbrev zN5:Type:=(zd × Unit)→Option (Bool × Unit)
abbrev zwq (g:Fnc zzJ zqF):Fun:=⟨88,zzJ,zqF,0,g⟩
abbrev zGy:Ty:=(.pair zC .unit)
abbrev zGz:Ty:=(.pair .bool .unit)
abbrev zTa:Type:=(zd × Unit)→Option (Bool × Unit)
abbrev zCM (g:Fnc zGy zGz):Fun:=⟨89,zGy,zGz,0,g⟩
abbrev zLM:Ty:=(.pair zC (.pair (.int .i64) .unit))
abbrev zLN:Ty:=(.pair .bool .unit)
abbrev zsv:Type:=(zd × (Int × Unit))→Option (Bool × Unit)
abbrev zca (g:Fnc zLM zLN):Fun:=⟨90,zLM,zLN,0,g⟩
abbrev zwr:Ty:=(.pair zC (.pair (.int .i64) .unit))
abbrev zws:Ty:=(.pair .bool .unit)
abbrev zKl:Type:=(zd × (Int × Unit))→Option (Bool × Unit)
abbrev zt1 (g:Fnc zwr zws):Fun:=⟨91,zwr,zws,0,g⟩
abbrev zLO:Ty:=(.pair zw (.pair zw .unit))
abbrev zLP:Ty:=(.pair .bool .unit)
abbrev zV5:Type:=(zz × (zz × Unit))→Option (Bool × Unit)
abbrev zGA (g:Fnc zLO zLP):Fun:=⟨92,zLO,zLP,0,g⟩
abbrev zCN:Ty:=(.pair zw .unit)
abbrev zCO:Ty:=(.pair .bool .unit)
abbrev zQ0:Type:=(zz × Unit)→Option (Bool × Unit)
abbrev zzK (g:Fnc zCN zCO):Fun:=⟨93,zCN,zCO,0,g⟩
abbrev zLQ:Ty:=(.pair zw (.pair zw .unit))
abbrev zLR:Ty:=(.pair (.int .i64) .unit)
abbrev zV6:Type:=(zz × (zz × Unit))→Option (Int × Unit)
abbrev zGB (g:Fnc zLQ zLR):Fun:=⟨94,zLQ,zLR,0,g⟩
abbrev zCP:Ty:=(.pair .str .unit)
abbrev zta:Ty:=(.pair .bool .unit)
abbrev ztb:Type:=(ByteArray × Unit)→Option (Bool × Unit)
abbrev zdf (g:Fnc zCP zta):Fun:=⟨95,zCP,zta,0,g⟩
abbrev zCQ:Ty:=(.pair (.sl zw) (.pair zw .unit))
abbrev ztc:Ty:=(.pair (.int .i64) .unit)
abbrev zQ1:Type:=((List zz) × (zz × Unit))→Option (Int × Unit)
abbrev zzL (g:Fnc zCQ ztc):Fun:=⟨96,zCQ,ztc,0,g⟩
abbrev zGC:Ty:=(.pair (.int .i64) .unit)
abbrev zGD:Ty:=(.pair zw .unit)
abbrev zTb:Type:=(Int × Unit)→Option (zz × Unit)
abbrev zCR (g:Fnc zGC zGD):Fun:=⟨97,zGC,zGD,0,g⟩
abbrev zLS:Ty:=(.pair zw (.pair (.int .i64) .unit))
abbrev zLT:Ty:=(.pair .bool .unit)
abbrev zBg:Type:=(zz × (Int × Unit))→Option (Bool × Unit)
abbrev zf8 (g:Fnc zLS zLT):Fun:=⟨98,zLS,zLT,0,g⟩
abbrev zLU:Ty:=(.pair (.sl jJ) (.pair (.int .i64) .unit))
abbrev zBh:Ty:=(.pair .bool .unit)
abbrev zV7:Type:=((List qe) × (Int × Unit))→Option (Bool × Unit)
abbrev zGE (g:Fnc zLU zBh):Fun:=⟨99,zLU,zBh,0,g⟩
abbrev zCS:Ty:=(.pair (.int .i64) .unit)
abbrev zCT:Ty:=(.pair .bool .unit)
abbrev zQ2:Type:=(Int × Unit)→Option (Bool × Unit)
abbrev zzM (g:Fnc zCS zCT):Fun:=⟨100,zCS,zCT,0,g⟩
abbrev zrx:Ty:=(.pair (.sl zX) (.pair (.sl zX) .unit))
abbrev zj2:Ty:=(.pair .bool .unit)
abbrev zEV:Type:=((List qP) × ((List qP) × Unit))→Option (Bool × Unit)
abbrev zpg (g:Fnc zrx zj2):Fun:=⟨101,zrx,zj2,0,g⟩
abbrev zry:Ty:=(.pair (.sl zV) (.pair (.sl zV) .unit))
abbrev zj3:Ty:=(.pair .bool .unit)
abbrev zEW:Type:=((List z5) × ((List z5) × Unit))→Option (Bool × Unit)
abbrev zph (g:Fnc zry zj3):Fun:=⟨102,zry,zj3,0,g⟩
abbrev zGF:Ty:=(.pair (.sl zI) (.pair (.sl zI) .unit))
abbrev zwt:Ty:=(.pair .bool .unit)
abbrev zTc:Type:=((List z3) × ((List z3) × Unit))→Option (Bool × Unit)
abbrev zCU (g:Fnc zGF zwt):Fun:=⟨103,zGF,zwt,0,g⟩
abbrev zGG:Ty:=(.pair (.sl zZ) (.pair (.sl zZ) .unit))
abbrev zwu:Ty:=(.pair .bool .unit)
abbrev zTd:Type:=((List qh) × ((List qh) × Unit))→Option (Bool × Unit)
abbrev zCV (g:Fnc zGG zwu):Fun:=⟨104,zGG,zwu,0,g⟩
abbrev zGH:Ty:=(.pair (.sl zu) (.pair (.sl zu) .unit))
abbrev zwv:Ty:=(.pair .bool .unit)
abbrev zTe:Type:=((List zo) × ((List zo) × Unit))→Option (Bool × Unit)
abbrev zCW (g:Fnc zGH zwv):Fun:=⟨105,zGH,zwv,0,g⟩
abbrev zCX:Ty:=(.pair zC (.pair (.sl (.sl (.int .i64))) .unit))
abbrev zeG:Ty:=(.pair .bool .unit)
abbrev zQ3:Type:=(zd × ((List (List Int)) × Unit))→Option (Bool × Unit)
abbrev zzN (g:Fnc zCX zeG):Fun:=⟨106,zCX,zeG,0,g⟩
abbrev zCY:Ty:=(.pair (.sl zi) .unit)
abbrev ztd:Ty:=(.pair .bool .unit)
abbrev zQ4:Type:=((List zj) × Unit)→Option (Bool × Unit)
abbrev zzO (g:Fnc zCY ztd):Fun:=⟨107,zCY,ztd,0,g⟩
abbrev zCZ:Ty:=(.pair (.sl zl) .unit)
abbrev zte:Ty:=(.pair .bool .unit)
abbrev zQ5:Type:=((List zy) × Unit)→Option (Bool × Unit)
abbrev zzP (g:Fnc zCZ zte):Fun:=⟨108,zCZ,zte,0,g⟩
abbrev zC0:Ty:=(.pair (.sl zX) .unit)
abbrev ztf:Ty:=(.pair .bool .unit)
abbrev zQ6:Type:=((List qP) × Unit)→Option (Bool × Unit)
abbrev zzQ (g:Fnc zC0 ztf):Fun:=⟨109,zC0,ztf,0,g⟩
abbrev zC1:Ty:=(.pair (.sl zV) .unit)
abbrev zeH:Ty:=(.pair .bool .unit)
abbrev zQ7:Type:=((List z5) × Unit)→Option (Bool × Unit)
abbrev zzR (g:Fnc zC1 zeH):Fun:=⟨110,zC1,zeH,0,g⟩
abbrev zC2:Ty:=(.pair (.sl zI) .unit)
abbrev ztg:Ty:=(.pair .bool .unit)
abbrev zQ8:Type:=((List z3) × Unit)→Option (Bool × Unit)
abbrev zzS (g:Fnc zC2 ztg):Fun:=⟨111,zC2,ztg,0,g⟩
abbrev zC3:Ty:=(.pair (.sl zZ) .unit)
abbrev zth:Ty:=(.pair .bool .unit)
abbrev zQ9:Type:=((List qh) × Unit)→Option (Bool × Unit)
abbrev zzT (g:Fnc zC3 zth):Fun:=⟨112,zC3,zth,0,g⟩
abbrev zC4:Ty:=(.pair (.sl zu) .unit)
abbrev zti:Ty:=(.pair .bool .unit)
abbrev zRa:Type:=((List zo) × Unit)→Option (Bool × Unit)
abbrev zzU (g:Fnc zC4 zti):Fun:=⟨113,zC4,zti,0,g⟩
abbrev zC5:Ty:=(.pair zC (.pair zW (.pair zY (.pair (.int .i64) .unit))))
abbrev zC6:Ty:=(.pair .bool .unit)
abbrev zC7:Type:=(zd × (ze × (jI × (Int × Unit))))→Option (Bool × Unit)
abbrev zkn (g:Fnc zC5 zC6):Fun:=⟨114,zC5,zC6,0,g⟩
abbrev zGI:Ty:=(.pair zC (.pair zW (.pair (.int .i64) (.pair (.int .i64) .unit))))
abbrev zGJ:Ty:=(.pair .bool .unit)
abbrev zTf:Type:=(zd × (ze × (Int × (Int × Unit))))→Option (Bool × Unit)
abbrev zC8 (g:Fnc zGI zGJ):Fun:=⟨115,zGI,zGJ,0,g⟩
abbrev zGK:Ty:=(.pair zC (.pair zh (.pair (.int .i64) .unit)))
abbrev zGL:Ty:=(.pair .bool .unit)
abbrev zTg:Type:=(zd × (zg × (Int × Unit)))→Option (Bool × Unit)
abbrev zC9 (g:Fnc zGK zGL):Fun:=⟨116,zGK,zGL,0,g⟩
abbrev zLV:Ty:=(.pair zC (.pair (.int .i64) (.pair (.int .i64) .unit)))
abbrev zLW:Ty:=(.pair .bool .unit)
abbrev zLX:Type:=(zd × (Int × (Int × Unit)))→Option (Bool × Unit)
abbrev zpi (g:Fnc zLV zLW):Fun:=⟨117,zLV,zLW,0,g⟩
abbrev zGM:Ty:=(.pair (.sl zi) .unit)
abbrev zGN:Ty:=(.pair (.sl (.int .i64)) .unit)
abbrev zTh:Type:=((List zj) × Unit)→Option ((List Int) × Unit)
abbrev zDa (g:Fnc zGM zGN):Fun:=⟨118,zGM,zGN,0,g⟩
abbrev zDb:Ty:=(.pair zi .unit)
abbrev zDc:Ty:=(.pair (.int .i64) .unit)
abbrev zRb:Type:=(zj × Unit)→Option (Int × Unit)
abbrev zzV (g:Fnc zDb zDc):Fun:=⟨119,zDb,zDc,0,g⟩
abbrev zLY:Ty:=(.pair (.sl zu) .unit)
abbrev zLZ:Ty:=(.pair (.ptr zb8) .unit)
abbrev zV8:Type:=((List zo) × Unit)→Option ((Option zbi) × Unit)
abbrev zGO (g:Fnc zLY zLZ):Fun:=⟨120,zLY,zLZ,0,g⟩
abbrev zrz:Ty:=(.pair (.ptr zb8) .unit)
abbrev zj4:Ty:=(.pair (.sl (.int .i64)) .unit)
abbrev zrA:Type:=((Option zbi) × Unit)→Option ((List Int) × Unit)
abbrev zdW (g:Fnc zrz zj4):Fun:=⟨121,zrz,zj4,0,g⟩
abbrev zL0:Ty:=(.pair (.int .u64) (.pair (.int .u64) .unit))
abbrev zL1:Ty:=(.pair (.int .u64) (.pair (.int .i64) .unit))
abbrev zV9:Type:=(Int × (Int × Unit))→Option (Int × (Int × Unit))
abbrev zGP (g:Fnc zL0 zL1):Fun:=⟨122,zL0,zL1,0,g⟩
abbrev zDd:Ty:=(.pair zi (.pair (.int .i64) .unit))
abbrev zDe:Ty:=(.pair (.int .u64) .unit)
abbrev zRc:Type:=(zj × (Int × Unit))→Option (Int × Unit)
abbrev zzW (g:Fnc zDd zDe):Fun:=⟨123,zDd,zDe,0,g⟩
abbrev zrB:Ty:=(.pair (.sl zh) (.pair (.fn (.pair zh .unit) (.pair .bool .unit)) .unit))
abbrev zrC:Ty:=(.pair .bool .unit)
abbrev zEX:Type:=((List zg) × ((Option ((zg × Unit)→Option (Bool × Unit))) × Unit))→Option (Bool × Unit)
abbrev zpj (g:Fnc zrB zrC):Fun:=⟨125,zrB,zrC,0,g⟩
abbrev zww:Ty:=(.pair zh .unit)
abbrev zwx:Ty:=(.pair .bool .unit)
abbrev zKm:Type:=(zg × Unit)→Option (Bool × Unit)
abbrev zt2 (g:Fnc zww zwx):Fun:=⟨126,zww,zwx,0,g⟩
abbrev zGQ:Ty:=(.pair (.sl zX) .unit)
abbrev zGR:Ty:=(.pair .bool .unit)
abbrev zTi:Type:=((List qP) × Unit)→Option (Bool × Unit)
abbrev zDf (g:Fnc zGQ zGR):Fun:=⟨127,zGQ,zGR,0,g⟩
abbrev zGS:Ty:=(.pair (.sl zV) .unit)
abbrev zwy:Ty:=(.pair .bool .unit)
abbrev zTj:Type:=((List z5) × Unit)→Option (Bool × Unit)
abbrev zDg (g:Fnc zGS zwy):Fun:=⟨128,zGS,zwy,0,g⟩
abbrev zDh:Ty:=(.pair (.sl zI) .unit)
abbrev zDi:Ty:=(.pair .bool .unit)
abbrev zRd:Type:=((List z3) × Unit)→Option (Bool × Unit)
abbrev zzX (g:Fnc zDh zDi):Fun:=⟨129,zDh,zDi,0,g⟩
abbrev zGT:Ty:=(.pair (.sl zZ) .unit)
abbrev zGU:Ty:=(.pair .bool .unit)
abbrev zTk:Type:=((List qh) × Unit)→Option (Bool × Unit)
abbrev zDj (g:Fnc zGT zGU):Fun:=⟨130,zGT,zGU,0,g⟩
abbrev zDk:Ty:=(.pair (.sl zu) .unit)
abbrev zDl:Ty:=(.pair .bool .unit)
abbrev zRe:Type:=((List zo) × Unit)→Option (Bool × Unit)
abbrev zzY (g:Fnc zDk zDl):Fun:=⟨131,zDk,zDl,0,g⟩
abbrev zGV:Ty:=(.pair zC (.pair (.sl (.sl (.int .i64))) .unit))
abbrev zwz:Ty:=(.pair .bool .unit)
abbrev zGW:Type:=(zd × ((List (List Int)) × Unit))→Option (Bool × Unit)
abbrev zmN (g:Fnc zGV zwz):Fun:=⟨132,zGV,zwz,0,g⟩
abbrev zGX:Ty:=(.pair (.sl zi) .unit)
abbrev zwA:Ty:=(.pair .bool .unit)
abbrev zTl:Type:=((List zj) × Unit)→Option (Bool × Unit)
abbrev zDm (g:Fnc zGX zwA):Fun:=⟨133,zGX,zwA,0,g⟩
abbrev zDn:Ty:=(.pair (.sl zl) .unit)
abbrev ztj:Ty:=(.pair .bool .unit)
abbrev zRf:Type:=((List zy) × Unit)→Option (Bool × Unit)
abbrev zzZ (g:Fnc zDn ztj):Fun:=⟨134,zDn,ztj,0,g⟩
abbrev zrD:Ty:=(.pair (.sl zi) (.pair (.fn (.pair zi .unit) (.pair .bool .unit)) .unit))
abbrev zrE:Ty:=(.pair .bool .unit)
abbrev zEY:Type:=((List zj) × ((Option ((zj × Unit)→Option (Bool × Unit))) × Unit))→Option (Bool × Unit)
abbrev zpk (g:Fnc zrD zrE):Fun:=⟨135,zrD,zrE,0,g⟩
abbrev zt3:Ty:=(.pair zi (.pair (.ptr jx) .unit))
abbrev zt4:Ty:=(.pair .bool .unit)
abbrev zGY:Type:=(zj × ((Option jh) × Unit))→Option (Bool × Unit)
abbrev zrF (g:Fnc zt3 zt4):Fun:=⟨136,zt3,zt4,0,g⟩
abbrev zDo:Ty:=(.pair jx (.pair (.int .i64) .unit))
abbrev zDp:Ty:=(.pair .bool .unit)
abbrev zDq:Type:=(jh × (Int × Unit))→Option (Bool × Unit)
abbrev zko (g:Fnc zDo zDp):Fun:=⟨137,zDo,zDp,0,g⟩
abbrev zwB:Ty:=(.pair jx (.pair (.int .i64) .unit))
abbrev zwC:Ty:=(.pair .bool .unit)
abbrev zcb:Type:=(jh × (Int × Unit))→Option (Bool × Unit)
abbrev jP (g:Fnc zwB zwC):Fun:=⟨138,zwB,zwC,0,g⟩
abbrev zrG:Ty:=(.pair (.sl zl) (.pair (.fn (.pair zl .unit) (.pair .bool .unit)) .unit))
abbrev zrH:Ty:=(.pair .bool .unit)
abbrev zEZ:Type:=((List zy) × ((Option ((zy × Unit)→Option (Bool × Unit))) × Unit))→Option (Bool × Unit)
abbrev zpl (g:Fnc zrG zrH):Fun:=⟨139,zrG,zrH,0,g⟩
abbrev zt5:Ty:=(.pair zl (.pair (.ptr jx) .unit))
abbrev zt6:Ty:=(.pair .bool .unit)
abbrev zGZ:Type:=(zy × ((Option jh) × Unit))→Option (Bool × Unit)
abbrev zrI (g:Fnc zt5 zt6):Fun:=⟨140,zt5,zt6,0,g⟩
abbrev zwD:Ty:=(.pair (.sl (.int .i64)) (.pair (.fn (.pair (.int .i64) .unit) (.pair .bool .unit)) .unit))
abbrev zwE:Ty:=(.pair .bool .unit)
abbrev zKn:Type:=((List Int) × ((Option ((Int × Unit)→Option (Bool × Unit))) × Unit))→Option (Bool × Unit)
abbrev zt7 (g:Fnc zwD zwE):Fun:=⟨141,zwD,zwE,0,g⟩
abbrev zt8:Ty:=(.pair (.int .i64) (.pair (.ptr jx) .unit))
abbrev zt9:Ty:=(.pair .bool .unit)
abbrev zG0:Type:=(Int × ((Option jh) × Unit))→Option (Bool × Unit)
abbrev zrJ (g:Fnc zt8 zt9):Fun:=⟨142,zt8,zt9,0,g⟩
abbrev zDr:Ty:=(.pair jx (.pair (.int .i64) .unit))
abbrev zDs:Ty:=(.pair (.fn (.pair zY .unit) (.pair .bool .unit)) .unit)
abbrev zRg:Type:=(jh × (Int × Unit))→Option ((Option ((jI × Unit)→Option (Bool × Unit))) × Unit)
abbrev zz0 (g:Fnc zDr zDs):Fun:=⟨143,zDr,zDs,0,g⟩
abbrev zua:Ty:=(.pair (.sl zV) (.pair (.fn (.pair zV .unit) (.pair .bool .unit)) .unit))
abbrev zub:Ty:=(.pair .bool .unit)
abbrev zG1:Type:=((List z5) × ((Option ((z5 × Unit)→Option (Bool × Unit))) × Unit))→Option (Bool × Unit)
abbrev zrK (g:Fnc zua zub):Fun:=⟨144,zua,zub,0,g⟩
abbrev zwF:Ty:=(.pair zV (.pair (.ptr (.fn (.pair zY .unit) (.pair .bool .unit))) .unit))
abbrev zwG:Ty:=(.pair .bool .unit)
abbrev zKo:Type:=(z5 × ((Option (Option ((jI × Unit)→Option (Bool × Unit)))) × Unit))→Option (Bool × Unit)
abbrev zuc (g:Fnc zwF zwG):Fun:=⟨145,zwF,zwG,0,g⟩
abbrev zud:Ty:=(.pair (.sl zI) (.pair (.fn (.pair zI .unit) (.pair .bool .unit)) .unit))
abbrev zue:Ty:=(.pair .bool .unit)
abbrev zuf:Type:=((List z3) × ((Option ((z3 × Unit)→Option (Bool × Unit))) × Unit))→Option (Bool × Unit)
abbrev zeZ (g:Fnc zud zue):Fun:=⟨146,zud,zue,0,g⟩
abbrev zwH:Ty:=(.pair zI (.pair (.ptr (.fn (.pair zY .unit) (.pair .bool .unit))) .unit))
abbrev zwI:Ty:=(.pair .bool .unit)
abbrev zKp:Type:=(z3 × ((Option (Option ((jI × Unit)→Option (Bool × Unit)))) × Unit))→Option (Bool × Unit)
abbrev zug (g:Fnc zwH zwI):Fun:=⟨147,zwH,zwI,0,g⟩
abbrev zwJ:Ty:=(.pair (.sl zY) (.pair (.fn (.pair zY .unit) (.pair .bool .unit)) .unit))
abbrev zwK:Ty:=(.pair .bool .unit)
abbrev zKq:Type:=((List jI) × ((Option ((jI × Unit)→Option (Bool × Unit))) × Unit))→Option (Bool × Unit)
abbrev zuh (g:Fnc zwJ zwK):Fun:=⟨148,zwJ,zwK,0,g⟩
abbrev zui:Ty:=(.pair zI (.pair (.ptr jx) .unit))
abbrev zuj:Ty:=(.pair .bool .unit)
abbrev zG2:Type:=(z3 × ((Option jh) × Unit))→Option (Bool × Unit)
abbrev zrL (g:Fnc zui zuj):Fun:=⟨149,zui,zuj,0,g⟩
abbrev zuk:Ty:=(.pair (.sl zZ) (.pair (.fn (.pair zZ .unit) (.pair .bool .unit)) .unit))
abbrev zul:Ty:=(.pair .bool .unit)
abbrev zG3:Type:=((List qh) × ((Option ((qh × Unit)→Option (Bool × Unit))) × Unit))→Option (Bool × Unit)
abbrev zrM (g:Fnc zuk zul):Fun:=⟨150,zuk,zul,0,g⟩
abbrev zum:Ty:=(.pair zZ (.pair (.ptr jx) (.pair (.ptr (.int .i64)) .unit)))
abbrev zun:Ty:=(.pair .bool .unit)
abbrev zG4:Type:=(qh × ((Option jh) × ((Option Int) × Unit)))→Option (Bool × Unit)
abbrev zrN (g:Fnc zum zun):Fun:=⟨151,zum,zun,0,g⟩
abbrev zL2:Ty:=(.pair jx (.pair (.int .i64) (.pair (.int .i64) .unit)))
abbrev zL3:Ty:=(.pair .bool .unit)
abbrev zL4:Type:=(jh × (Int × (Int × Unit)))→Option (Bool × Unit)
abbrev zpm (g:Fnc zL2 zL3):Fun:=⟨152,zL2,zL3,0,g⟩
abbrev zrO:Ty:=(.pair (.sl zu) (.pair (.fn (.pair zu .unit) (.pair .bool .unit)) .unit))
abbrev zrP:Ty:=(.pair .bool .unit)
abbrev zE0:Type:=((List zo) × ((Option ((zo × Unit)→Option (Bool × Unit))) × Unit))→Option (Bool × Unit)
abbrev zpn (g:Fnc zrO zrP):Fun:=⟨153,zrO,zrP,0,g⟩
abbrev zuo:Ty:=(.pair zu (.pair (.ptr jx) .unit))
abbrev zup:Ty:=(.pair .bool .unit)
abbrev zG5:Type:=(zo × ((Option jh) × Unit))→Option (Bool × Unit)
abbrev zrQ (g:Fnc zuo zup):Fun:=⟨154,zuo,zup,0,g⟩
abbrev zuq:Ty:=(.pair (.sl zu) (.pair (.fn (.pair zu .unit) (.pair .bool .unit)) .unit))
abbrev zur:Ty:=(.pair (.ptr zb8) .unit)
abbrev zus:Type:=((List zo) × ((Option ((zo × Unit)→Option (Bool × Unit))) × Unit))→Option ((Option zbi) × Unit)
abbrev ze0 (g:Fnc zuq zur):Fun:=⟨155,zuq,zur,0,g⟩
abbrev zwL:Ty:=(.pair zu .unit)
abbrev zwM:Ty:=(.pair .bool .unit)
abbrev zKr:Type:=(zo × Unit)→Option (Bool × Unit)
abbrev zut (g:Fnc zwL zwM):Fun:=⟨156,zwL,zwM,0,g⟩
abbrev zwN:Ty:=(.pair (.ptr zb8) (.pair (.int .i64) .unit))
abbrev zwO:Ty:=(.pair .bool .unit)
abbrev zwP:Type:=((Option zbi) × (Int × Unit))→Option (Bool × Unit)
abbrev zf9 (g:Fnc zwN zwO):Fun:=⟨157,zwN,zwO,0,g⟩
abbrev zTm:Ty:=(.pair (.int .i64) (.pair (.int .i64) .unit))
abbrev zTn:Ty:=(.pair .bool .unit)
abbrev z3M:Type:=(Int × (Int × Unit))→Option (Bool × Unit)
abbrev zPJ (g:Fnc zTm zTn):Fun:=⟨158,zTm,zTn,0,g⟩
abbrev zuu:Ty:=(.pair (.int .i64) (.pair (.ptr (.sl (.sl (.int .i64)))) (.pair (.ptr (.int .i64)) .unit)))
abbrev zuv:Ty:=(.pair .bool .unit)
abbrev zG6:Type:=(Int × ((Option (List (List Int))) × ((Option Int) × Unit)))→Option (Bool × Unit)
abbrev zrR (g:Fnc zuu zuv):Fun:=⟨159,zuu,zuv,0,g⟩
abbrev zkp:Ty:=(.pair (.sl (.int .i64)) (.pair (.fn (.pair (.int .i64) .unit) (.pair .bool .unit)) .unit))
abbrev zkq:Ty:=(.pair .bool .unit)
abbrev yU:Type:=((List Int) × ((Option ((Int × Unit)→Option (Bool × Unit))) × Unit))→Option (Bool × Unit)
abbrev qW (g:Fnc zkp zkq):Fun:=⟨160,zkp,zkq,0,g⟩
abbrev zz1:Ty:=(.pair zC (.pair (.int .i64) .unit))
abbrev zqG:Ty:=(.pair (.sl (.int .i64)) .unit)
abbrev zN6:Type:=(zd × (Int × Unit))→Option ((List Int) × Unit)
abbrev zwQ (g:Fnc zz1 zqG):Fun:=⟨161,zz1,zqG,0,g⟩
abbrev zwR:Ty:=(.pair (.sl zX) (.pair (.sl zX) .unit))
abbrev zoG:Ty:=(.pair .bool .unit)
abbrev zKs:Type:=((List qP) × ((List qP) × Unit))→Option (Bool × Unit)
abbrev zuw (g:Fnc zwR zoG):Fun:=⟨162,zwR,zoG,0,g⟩
abbrev zwS:Ty:=(.pair (.sl zV) (.pair (.sl zV) .unit))
abbrev zoH:Ty:=(.pair .bool .unit)
abbrev zKt:Type:=((List z5) × ((List z5) × Unit))→Option (Bool × Unit)
abbrev zux (g:Fnc zwS zoH):Fun:=⟨163,zwS,zoH,0,g⟩
abbrev zwT:Ty:=(.pair (.sl zI) (.pair (.sl zI) .unit))
abbrev zoI:Ty:=(.pair .bool .unit)
abbrev zKu:Type:=((List z3) × ((List z3) × Unit))→Option (Bool × Unit)
abbrev zuy (g:Fnc zwT zoI):Fun:=⟨164,zwT,zoI,0,g⟩
abbrev zwU:Ty:=(.pair (.sl zZ) (.pair (.sl zZ) .unit))
abbrev zoJ:Ty:=(.pair .bool .unit)
abbrev zKv:Type:=((List qh) × ((List qh) × Unit))→Option (Bool × Unit)
abbrev zuz (g:Fnc zwU zoJ):Fun:=⟨165,zwU,zoJ,0,g⟩
abbrev zuA:Ty:=(.pair (.sl zu) (.pair (.sl zu) .unit))
abbrev zlU:Ty:=(.pair .bool .unit)
abbrev zG7:Type:=((List zo) × ((List zo) × Unit))→Option (Bool × Unit)
abbrev zrS (g:Fnc zuA zlU):Fun:=⟨166,zuA,zlU,0,g⟩
abbrev zDt:Ty:=(.pair (.sl (.arr 4 (.int .u64))) (.pair (.sl (.arr 4 (.int .u64))) .unit))
abbrev ztk:Ty:=(.pair .bool .unit)
abbrev zRh:Type:=((List (List Int)) × ((List (List Int)) × Unit))→Option (Bool × Unit)
abbrev zz2 (g:Fnc zDt ztk):Fun:=⟨167,zDt,ztk,0,g⟩
abbrev zz3:Ty:=(.pair (.sl zY) (.pair (.sl zY) .unit))
abbrev zqH:Ty:=(.pair .bool .unit)
abbrev zN7:Type:=((List jI) × ((List jI) × Unit))→Option (Bool × Unit)
abbrev zwV (g:Fnc zz3 zqH):Fun:=⟨168,zz3,zqH,0,g⟩
abbrev zuB:Ty:=(.pair zw .unit)
abbrev zuC:Ty:=(.pair .bool .unit)
abbrev zG8:Type:=(zz × Unit)→Option (Bool × Unit)
abbrev zrT (g:Fnc zuB zuC):Fun:=⟨169,zuB,zuC,0,g⟩
abbrev zDu:Ty:=(.pair zw .unit)
abbrev zDv:Ty:=(.pair .bool .unit)
abbrev zRi:Type:=(zz × Unit)→Option (Bool × Unit)
abbrev zz4 (g:Fnc zDu zDv):Fun:=⟨170,zDu,zDv,0,g⟩
abbrev zz5:Ty:=(.pair (.int .i64) (.pair (.int .i64) (.pair (.int .i64) .unit)))
abbrev zz6:Ty:=(.pair .bool .unit)
abbrev yF:Type:=(Int × (Int × (Int × Unit)))→Option (Bool × Unit)
abbrev qH (g:Fnc zz5 zz6):Fun:=⟨171,zz5,zz6,0,g⟩
abbrev zg7:Ty:=(.pair (.sl zw) (.pair (.fn (.pair zw .unit) (.pair .bool .unit)) .unit))
abbrev zg8:Ty:=(.pair .bool .unit)
abbrev zg9:Type:=((List zz) × ((Option ((zz × Unit)→Option (Bool × Unit))) × Unit))→Option (Bool × Unit)
abbrev yY (g:Fnc zg7 zg8):Fun:=⟨172,zg7,zg8,0,g⟩
abbrev zL5:Ty:=(.pair zw (.pair zw .unit))
abbrev zL6:Ty:=(.pair (.int .i64) .unit)
abbrev zWa:Type:=(zz × (zz × Unit))→Option (Int × Unit)
abbrev zG9 (g:Fnc zL5 zL6):Fun:=⟨173,zL5,zL6,0,g⟩
abbrev zwW:Ty:=(.pair (.int .i64) (.pair (.ptr zC) .unit))
abbrev zwX:Ty:=(.pair .bool .unit)
abbrev zKw:Type:=(Int × ((Option zd) × Unit))→Option (Bool × Unit)
abbrev zuD (g:Fnc zwW zwX):Fun:=⟨174,zwW,zwX,0,g⟩
abbrev zpo:Ty:=(.pair vb .unit)
abbrev zpp:Ty:=(.pair .bool .unit)
abbrev zBC:Type:=(jw × Unit)→Option (Bool × Unit)
abbrev znY (g:Fnc zpo zpp):Fun:=⟨175,zpo,zpp,0,g⟩
abbrev zHa:Ty:=(.pair .str .unit)
abbrev zHb:Ty:=(.pair .bool .unit)
abbrev zwY:Type:=(ByteArray × Unit)→Option (Bool × Unit)
abbrev zeI (g:Fnc zHa zHb):Fun:=⟨176,zHa,zHb,0,g⟩
abbrev zfn:Ty:=(.pair (.sl vb) (.pair (.fn (.pair vb .unit) (.pair .bool .unit)) .unit))
abbrev zfo:Ty:=(.pair .bool .unit)
abbrev zoK:Type:=((List jw) × ((Option ((jw × Unit)→Option (Bool × Unit))) × Unit))→Option (Bool × Unit)
abbrev zeJ (g:Fnc zfn zfo):Fun:=⟨177,zfn,zfo,0,g⟩
abbrev zHc:Ty:=(.pair (.sl .str) .unit)
abbrev zwZ:Ty:=(.pair .bool .unit)
abbrev zTo:Type:=((List ByteArray) × Unit)→Option (Bool × Unit)
abbrev zDw (g:Fnc zHc zwZ):Fun:=⟨178,zHc,zwZ,0,g⟩
abbrev zrU:Ty:=(.pair zC .unit)
abbrev zj5:Ty:=(.pair (.sl .str) .unit)
abbrev zE1:Type:=(zd × Unit)→Option ((List ByteArray) × Unit)
abbrev zpq (g:Fnc zrU zj5):Fun:=⟨179,zrU,zj5,0,g⟩
abbrev zHd:Ty:=(.pair (.int .i64) .unit)
abbrev zHe:Ty:=(.pair zw (.pair (.int .i64) .unit))
abbrev zTp:Type:=(Int × Unit)→Option (zz × (Int × Unit))
abbrev zDx (g:Fnc zHd zHe):Fun:=⟨180,zHd,zHe,0,g⟩
abbrev znZ:Ty:=(.pair (.sl zw) (.pair zw .unit))
abbrev zn0:Ty:=(.pair .bool .unit)
abbrev zyB:Type:=((List zz) × (zz × Unit))→Option (Bool × Unit)
abbrev zlV (g:Fnc znZ zn0):Fun:=⟨181,znZ,zn0,0,g⟩
abbrev zuE:Ty:=(.pair zw (.pair (.ptr (.int .u64)) .unit))
abbrev zuF:Ty:=(.pair .bool .unit)
abbrev zHf:Type:=(zz × ((Option Int) × Unit))→Option (Bool × Unit)
abbrev zrV (g:Fnc zuE zuF):Fun:=⟨182,zuE,zuF,0,g⟩
abbrev zuG:Ty:=(.pair (.int .i64) .unit)
abbrev zuH:Ty:=(.pair .bool .unit)
abbrev zHg:Type:=(Int × Unit)→Option (Bool × Unit)
abbrev zrW (g:Fnc zuG zuH):Fun:=⟨183,zuG,zuH,0,g⟩
abbrev zw0:Ty:=(.pair zaW .unit)
abbrev zw1:Ty:=(.pair (.sl (.int .i64)) .unit)
abbrev zKx:Type:=(vU × Unit)→Option ((List Int) × Unit)
abbrev zuI (g:Fnc zw0 zw1):Fun:=⟨184,zw0,zw1,0,g⟩
abbrev zL7:Ty:=(.pair zi .unit)
abbrev zL8:Ty:=(.pair .bool .unit)
abbrev zWb:Type:=(zj × Unit)→Option (Bool × Unit)
abbrev zHh (g:Fnc zL7 zL8):Fun:=⟨185,zL7,zL8,0,g⟩
abbrev zL9:Ty:=(.pair (.sl zi) (.pair (.int .i64) (.pair (.int .i64) .unit)))
abbrev zBi:Ty:=(.pair .bool .unit)
abbrev zWc:Type:=((List zj) × (Int × (Int × Unit)))→Option (Bool × Unit)
abbrev zHi (g:Fnc zL9 zBi):Fun:=⟨186,zL9,zBi,0,g⟩
abbrev zMa:Ty:=(.pair zl .unit)
abbrev zMb:Ty:=(.pair .bool .unit)
abbrev zWd:Type:=(zy × Unit)→Option (Bool × Unit)
abbrev zHj (g:Fnc zMa zMb):Fun:=⟨187,zMa,zMb,0,g⟩
abbrev zz7:Ty:=(.pair zl (.pair zl .unit))
abbrev zz8:Ty:=(.pair .bool .unit)
abbrev zN8:Type:=(zy × (zy × Unit))→Option (Bool × Unit)
abbrev zw2 (g:Fnc zz7 zz8):Fun:=⟨188,zz7,zz8,0,g⟩
abbrev zDy:Ty:=(.pair zY .unit)
abbrev zDz:Ty:=(.pair .bool .unit)
abbrev zDA:Type:=(jI × Unit)→Option (Bool × Unit)
abbrev zkr (g:Fnc zDy zDz):Fun:=⟨189,zDy,zDz,0,g⟩
abbrev zMc:Ty:=(.pair (.int .i64) .unit)
abbrev zMd:Ty:=(.pair .bool .unit)
abbrev zWe:Type:=(Int × Unit)→Option (Bool × Unit)
abbrev zHk (g:Fnc zMc zMd):Fun:=⟨190,zMc,zMd,0,g⟩
abbrev zMe:Ty:=(.pair (.int .i64) .unit)
abbrev zMf:Ty:=(.pair .bool .unit)
abbrev zWf:Type:=(Int × Unit)→Option (Bool × Unit)
abbrev zHl (g:Fnc zMe zMf):Fun:=⟨191,zMe,zMf,0,g⟩
abbrev zHm:Ty:=(.pair .str .unit)
abbrev zw3:Ty:=(.pair .bool .unit)
abbrev zTq:Type:=(ByteArray × Unit)→Option (Bool × Unit)
abbrev zDB (g:Fnc zHm zw3):Fun:=⟨192,zHm,zw3,0,g⟩
abbrev zHn:Ty:=(.pair zu .unit)
abbrev zHo:Ty:=(.pair .bool .unit)
abbrev zTr:Type:=(zo × Unit)→Option (Bool × Unit)
abbrev zDC (g:Fnc zHn zHo):Fun:=⟨193,zHn,zHo,0,g⟩
abbrev zMg:Ty:=(.pair zw (.pair zw .unit))
abbrev zBj:Ty:=(.pair .bool .unit)
abbrev zWg:Type:=(zz × (zz × Unit))→Option (Bool × Unit)
abbrev zHp (g:Fnc zMg zBj):Fun:=⟨194,zMg,zBj,0,g⟩
abbrev zPK:Ty:=(.pair (.sl zi) .unit)
abbrev zPL:Ty:=(.pair (.ptr zdG) .unit)
abbrev zY6:Type:=((List zj) × Unit)→Option ((Option zb9) × Unit)
abbrev zMh (g:Fnc zPK zPL):Fun:=⟨195,zPK,zPL,0,g⟩
abbrev zrX:Ty:=(.pair (.ptr zdG) .unit)
abbrev zj6:Ty:=(.pair (.sl (.int .i64)) .unit)
abbrev zE2:Type:=((Option zb9) × Unit)→Option ((List Int) × Unit)
abbrev zpr (g:Fnc zrX zj6):Fun:=⟨196,zrX,zj6,0,g⟩
abbrev zDD:Ty:=(.pair zu .unit)
abbrev zDE:Ty:=(.pair .bool .unit)
abbrev zRj:Type:=(zo × Unit)→Option (Bool × Unit)
abbrev zz9 (g:Fnc zDD zDE):Fun:=⟨197,zDD,zDE,0,g⟩
abbrev zuJ:Ty:=(.pair (.ptr zb8) .unit)
abbrev zuK:Ty:=(.pair .bool .unit)
abbrev zuL:Type:=((Option zbi) × Unit)→Option (Bool × Unit)
abbrev ze1 (g:Fnc zuJ zuK):Fun:=⟨198,zuJ,zuK,0,g⟩
abbrev zha:Ty:=(.pair (.sl zh) (.pair (.fn (.pair zh .unit) (.pair .bool .unit)) .unit))
abbrev zhb:Ty:=(.pair .bool .unit)
abbrev zrb:Type:=((List zg) × ((Option ((zg × Unit)→Option (Bool × Unit))) × Unit))→Option (Bool × Unit)
abbrev zga (g:Fnc zha zhb):Fun:=⟨200,zha,zhb,0,g⟩
abbrev zn1:Ty:=(.pair zh (.pair (.ptr (.fn (.pair zh .unit) (.pair .bool .unit))) .unit))
abbrev zn2:Ty:=(.pair .bool .unit)
abbrev zyC:Type:=(zg × ((Option (Option ((zg × Unit)→Option (Bool × Unit)))) × Unit))→Option (Bool × Unit)
abbrev zlW (g:Fnc zn1 zn2):Fun:=⟨201,zn1,zn2,0,g⟩
abbrev zjm:Ty:=(.pair (.sl zX) (.pair (.fn (.pair zX .unit) (.pair .bool .unit)) .unit))
abbrev zjn:Ty:=(.pair .bool .unit)
abbrev zsw:Type:=((List qP) × ((Option ((qP × Unit)→Option (Bool × Unit))) × Unit))→Option (Bool × Unit)
abbrev zhc (g:Fnc zjm zjn):Fun:=⟨202,zjm,zjn,0,g⟩
abbrev zAa:Ty:=(.pair zX .unit)
abbrev zAb:Ty:=(.pair .bool .unit)
abbrev zN9:Type:=(qP × Unit)→Option (Bool × Unit)
abbrev zw4 (g:Fnc zAa zAb):Fun:=⟨203,zAa,zAb,0,g⟩
abbrev zHq:Ty:=(.pair zV .unit)
abbrev zHr:Ty:=(.pair .bool .unit)
abbrev zTs:Type:=(z5 × Unit)→Option (Bool × Unit)
abbrev zDF (g:Fnc zHq zHr):Fun:=⟨204,zHq,zHr,0,g⟩
abbrev zHs:Ty:=(.pair (.sl zV) (.pair zY (.pair (.int .i64) .unit)))
abbrev zHt:Ty:=(.pair (.int .i64) .unit)
abbrev zTt:Type:=((List z5) × (jI × (Int × Unit)))→Option (Int × Unit)
abbrev zDG (g:Fnc zHs zHt):Fun:=⟨205,zHs,zHt,0,g⟩
abbrev zjo:Ty:=(.pair (.sl zI) (.pair (.fn (.pair zI .unit) (.pair .bool .unit)) .unit))
abbrev zjp:Ty:=(.pair .bool .unit)
abbrev zjq:Type:=((List z3) × ((Option ((z3 × Unit)→Option (Bool × Unit))) × Unit))→Option (Bool × Unit)
abbrev zaw (g:Fnc zjo zjp):Fun:=⟨206,zjo,zjp,0,g⟩
abbrev zDH:Ty:=(.pair zI .unit)
abbrev zDI:Ty:=(.pair .bool .unit)
abbrev zRk:Type:=(z3 × Unit)→Option (Bool × Unit)
abbrev zAc (g:Fnc zDH zDI):Fun:=⟨207,zDH,zDI,0,g⟩
abbrev zjr:Ty:=(.pair (.sl zZ) (.pair (.fn (.pair zZ .unit) (.pair .bool .unit)) .unit))
abbrev zjs:Ty:=(.pair .bool .unit)
abbrev zjt:Type:=((List qh) × ((Option ((qh × Unit)→Option (Bool × Unit))) × Unit))→Option (Bool × Unit)
abbrev zax (g:Fnc zjr zjs):Fun:=⟨208,zjr,zjs,0,g⟩
abbrev zHu:Ty:=(.pair zZ .unit)
abbrev zHv:Ty:=(.pair .bool .unit)
abbrev zTu:Type:=(qh × Unit)→Option (Bool × Unit)
abbrev zDJ (g:Fnc zHu zHv):Fun:=⟨209,zHu,zHv,0,g⟩
abbrev zhd:Ty:=(.pair (.sl zu) (.pair (.fn (.pair zu .unit) (.pair .bool .unit)) .unit))
abbrev zhe:Ty:=(.pair .bool .unit)
abbrev zhf:Type:=((List zo) × ((Option ((zo × Unit)→Option (Bool × Unit))) × Unit))→Option (Bool × Unit)
abbrev yZ (g:Fnc zhd zhe):Fun:=⟨210,zhd,zhe,0,g⟩
abbrev zw5:Ty:=(.pair zu .unit)
abbrev zw6:Ty:=(.pair .bool .unit)
abbrev zKy:Type:=(zo × Unit)→Option (Bool × Unit)
abbrev zuM (g:Fnc zw5 zw6):Fun:=⟨211,zw5,zw6,0,g⟩
abbrev zMi:Ty:=(.pair zu .unit)
abbrev zMj:Ty:=(.pair .bool .unit)
abbrev zWh:Type:=(zo × Unit)→Option (Bool × Unit)
abbrev zHw (g:Fnc zMi zMj):Fun:=⟨212,zMi,zMj,0,g⟩
abbrev zAd:Ty:=(.pair (.int .i64) .unit)
abbrev zAe:Ty:=(.pair .bool .unit)
abbrev zOa:Type:=(Int × Unit)→Option (Bool × Unit)
abbrev zw7 (g:Fnc zAd zAe):Fun:=⟨213,zAd,zAe,0,g⟩
abbrev zPM:Ty:=(.pair zi .unit)
abbrev zPN:Ty:=(.pair .bool .unit)
abbrev zY7:Type:=(zj × Unit)→Option (Bool × Unit)
abbrev zMk (g:Fnc zPM zPN):Fun:=⟨214,zPM,zPN,0,g⟩
abbrev zMl:Ty:=(.pair zl .unit)
abbrev zMm:Ty:=(.pair .bool .unit)
abbrev zWi:Type:=(zy × Unit)→Option (Bool × Unit)
abbrev zHx (g:Fnc zMl zMm):Fun:=⟨215,zMl,zMm,0,g⟩
abbrev zDK:Ty:=(.pair zl (.pair zl .unit))
abbrev zDL:Ty:=(.pair (.int .i64) .unit)
abbrev zRl:Type:=(zy × (zy × Unit))→Option (Int × Unit)
abbrev zAf (g:Fnc zDK zDL):Fun:=⟨216,zDK,zDL,0,g⟩
abbrev zhg:Ty:=(.pair (.sl zi) (.pair (.fn (.pair zi .unit) (.pair .bool .unit)) .unit))
abbrev zhh:Ty:=(.pair .bool .unit)
abbrev zrc:Type:=((List zj) × ((Option ((zj × Unit)→Option (Bool × Unit))) × Unit))→Option (Bool × Unit)
abbrev zgb (g:Fnc zhg zhh):Fun:=⟨217,zhg,zhh,0,g⟩
abbrev zn3:Ty:=(.pair zi (.pair (.ptr (.fn (.pair zi .unit) (.pair .bool .unit))) .unit))
abbrev zn4:Ty:=(.pair .bool .unit)
abbrev zyD:Type:=(zj × ((Option (Option ((zj × Unit)→Option (Bool × Unit)))) × Unit))→Option (Bool × Unit)
abbrev zlX (g:Fnc zn3 zn4):Fun:=⟨218,zn3,zn4,0,g⟩
abbrev zhi:Ty:=(.pair (.sl zl) (.pair (.fn (.pair zl .unit) (.pair .bool .unit)) .unit))
abbrev zhj:Ty:=(.pair .bool .unit)
abbrev zrd:Type:=((List zy) × ((Option ((zy × Unit)→Option (Bool × Unit))) × Unit))→Option (Bool × Unit)
abbrev zgc (g:Fnc zhi zhj):Fun:=⟨219,zhi,zhj,0,g⟩
abbrev zn5:Ty:=(.pair zl (.pair (.ptr (.fn (.pair zl .unit) (.pair .bool .unit))) .unit))
abbrev zn6:Ty:=(.pair .bool .unit)
abbrev zyE:Type:=(zy × ((Option (Option ((zy × Unit)→Option (Bool × Unit)))) × Unit))→Option (Bool × Unit)
abbrev zlY (g:Fnc zn5 zn6):Fun:=⟨220,zn5,zn6,0,g⟩
abbrev zrY:Ty:=(.pair (.int .i64) (.pair (.ptr (.fn (.pair (.int .i64) .unit) (.pair .bool .unit))) .unit))
abbrev zrZ:Ty:=(.pair .bool .unit)
abbrev zE3:Type:=(Int × ((Option (Option ((Int × Unit)→Option (Bool × Unit)))) × Unit))→Option (Bool × Unit)
abbrev zps (g:Fnc zrY zrZ):Fun:=⟨221,zrY,zrZ,0,g⟩
abbrev zw8:Ty:=(.pair zY (.pair (.ptr jx) (.pair (.ptr (.int .i64)) .unit)))
abbrev zw9:Ty:=(.pair .bool .unit)
abbrev zKz:Type:=(jI × ((Option jh) × ((Option Int) × Unit)))→Option (Bool × Unit)
abbrev zuN (g:Fnc zw8 zw9):Fun:=⟨222,zw8,zw9,0,g⟩
abbrev zju:Ty:=(.pair (.sl zV) (.pair (.fn (.pair zV .unit) (.pair .bool .unit)) .unit))
abbrev zjv:Ty:=(.pair .bool .unit)
abbrev zsx:Type:=((List z5) × ((Option ((z5 × Unit)→Option (Bool × Unit))) × Unit))→Option (Bool × Unit)
abbrev zhk (g:Fnc zju zjv):Fun:=⟨223,zju,zjv,0,g⟩
abbrev zpt:Ty:=(.pair zV (.pair (.ptr (.fn (.pair zV .unit) (.pair .bool .unit))) .unit))
abbrev zpu:Ty:=(.pair .bool .unit)
abbrev zBD:Type:=(z5 × ((Option (Option ((z5 × Unit)→Option (Bool × Unit)))) × Unit))→Option (Bool × Unit)
abbrev zn7 (g:Fnc zpt zpu):Fun:=⟨224,zpt,zpu,0,g⟩
abbrev zpv:Ty:=(.pair zI (.pair (.ptr (.fn (.pair zI .unit) (.pair .bool .unit))) .unit))
abbrev zpw:Ty:=(.pair .bool .unit)
abbrev zBE:Type:=(z3 × ((Option (Option ((z3 × Unit)→Option (Bool × Unit)))) × Unit))→Option (Bool × Unit)
abbrev zn8 (g:Fnc zpv zpw):Fun:=⟨225,zpv,zpw,0,g⟩
abbrev zks:Ty:=(.pair (.sl zY) (.pair (.fn (.pair zY .unit) (.pair .bool .unit)) .unit))
abbrev zkt:Ty:=(.pair .bool .unit)
abbrev zvx:Type:=((List jI) × ((Option ((jI × Unit)→Option (Bool × Unit))) × Unit))→Option (Bool × Unit)
abbrev zjw (g:Fnc zks zkt):Fun:=⟨226,zks,zkt,0,g⟩
abbrev zr0:Ty:=(.pair zY (.pair (.ptr (.fn (.pair zY .unit) (.pair .bool .unit))) .unit))
abbrev zr1:Ty:=(.pair .bool .unit)
abbrev zE4:Type:=(jI × ((Option (Option ((jI × Unit)→Option (Bool × Unit)))) × Unit))→Option (Bool × Unit)
abbrev zpx (g:Fnc zr0 zr1):Fun:=⟨227,zr0,zr1,0,g⟩
abbrev zpy:Ty:=(.pair zZ (.pair (.ptr (.fn (.pair zZ .unit) (.pair .bool .unit))) .unit))
abbrev zpz:Ty:=(.pair .bool .unit)
abbrev zBF:Type:=(qh × ((Option (Option ((qh × Unit)→Option (Bool × Unit)))) × Unit))→Option (Bool × Unit)
abbrev zn9 (g:Fnc zpy zpz):Fun:=⟨228,zpy,zpz,0,g⟩
abbrev zoa:Ty:=(.pair zu (.pair (.ptr (.fn (.pair zu .unit) (.pair .bool .unit))) .unit))
abbrev zob:Ty:=(.pair .bool .unit)
abbrev zyF:Type:=(zo × ((Option (Option ((zo × Unit)→Option (Bool × Unit)))) × Unit))→Option (Bool × Unit)
abbrev zlZ (g:Fnc zoa zob):Fun:=⟨229,zoa,zob,0,g⟩
abbrev zpA:Ty:=(.pair (.sl (.int .i64)) (.pair (.fn (.pair (.int .i64) .unit) (.pair .bool .unit)) .unit))
abbrev zic:Ty:=(.pair (.int .i64) .unit)
abbrev zBG:Type:=((List Int) × ((Option ((Int × Unit)→Option (Bool × Unit))) × Unit))→Option (Int × Unit)
abbrev zoc (g:Fnc zpA zic):Fun:=⟨230,zpA,zic,0,g⟩
abbrev zr2:Ty:=(.pair (.sl (.int .i64)) (.pair (.int .i64) .unit))
abbrev zr3:Ty:=(.pair .bool .unit)
abbrev zE5:Type:=((List Int) × (Int × Unit))→Option (Bool × Unit)
abbrev zpB (g:Fnc zr2 zr3):Fun:=⟨231,zr2,zr3,0,g⟩
abbrev zTv:Ty:=(.pair zw .unit)
abbrev zTw:Ty:=(.pair (.sl (.int .i64)) .unit)
abbrev zTx:Type:=(zz × Unit)→Option ((List Int) × Unit)
abbrev zDM (g:Fnc zTv zTw):Fun:=⟨232,zTv,zTw,0,g⟩
abbrev zl0:Ty:=(.pair (.sl zw) (.pair (.fn (.pair zw .unit) (.pair .bool .unit)) .unit))
abbrev zfp:Ty:=(.pair (.int .i64) .unit)
abbrev zxa:Type:=((List zz) × ((Option ((zz × Unit)→Option (Bool × Unit))) × Unit))→Option (Int × Unit)
abbrev zku (g:Fnc zl0 zfp):Fun:=⟨233,zl0,zfp,0,g⟩
abbrev zHy:Ty:=(.pair (.sl (.int .i64)) .unit)
abbrev zxb:Ty:=(.pair (.int .i64) .unit)
abbrev zHz:Type:=((List Int) × Unit)→Option (Int × Unit)
abbrev zmO (g:Fnc zHy zxb):Fun:=⟨234,zHy,zxb,0,g⟩
abbrev zr4:Ty:=(.pair (.int .i64) (.pair (.int .i64) .unit))
abbrev zr5:Ty:=(.pair (.int .i64) .unit)
abbrev zr6:Type:=(Int × (Int × Unit))→Option (Int × Unit)
abbrev zdX (g:Fnc zr4 zr5):Fun:=⟨235,zr4,zr5,0,g⟩
abbrev zl1:Ty:=(.pair (.int .u64) (.pair (.int .u64) .unit))
abbrev zl2:Ty:=(.pair (.int .i64) .unit)
abbrev zl3:Type:=(Int × (Int × Unit))→Option (Int × Unit)
abbrev zbA (g:Fnc zl1 zl2):Fun:=⟨236,zl1,zl2,0,g⟩
abbrev zHA:Ty:=(.pair (.int .u8) .unit)
abbrev zHB:Ty:=(.pair .bool .unit)
abbrev zHC:Type:=(Int × Unit)→Option (Bool × Unit)
abbrev zmP (g:Fnc zHA zHB):Fun:=⟨237,zHA,zHB,0,g⟩
abbrev zPO:Ty:=(.pair .str (.pair (.fn (.pair (.int .u8) .unit) (.pair .bool .unit)) .unit))
abbrev zPP:Ty:=(.pair .bool .unit)
abbrev zPQ:Type:=(ByteArray × ((Option ((Int × Unit)→Option (Bool × Unit))) × Unit))→Option (Bool × Unit)
end Go.Proofs.YtaokpakfhdeiiaaGreatDoor
end
