import Derived.Test.YtaokpakfhdeiiaaGreatDoorMeb
import Derived.Orders
import Derived.Scope
import Derived.Carry
import Derived.OpenShut
import Derived.Test.YtaokpakfhdeiiaaGreatDoorProg
section
namespace Go.Ev
open Go.RowKit
set_option linter.unusedSimpArgs false
set_option linter.unusedVariables false
section
variable {P : Program} {nt : Nat} {F0 F F' : FH} {w0 w w' : World} {st : St} {m m' : MM} {a : Act} {fr fr' : List (Nat × AV)} {H h' : List Obj}
theorem Rel.start (h : Rel P nt F0 w0 st m F a w) (hf : ∀ t v, look fr' t = some v → v.pure = true ∧ zh P st.h m F v (a.tmps.getD t undef)) : Rel P nt F w ⟨fr', []⟩ .emp F a w :=
  ⟨h.nt, fun t v ht => (hf t v ht).2.pure (hf t v ht).1, fun i o ho => (by simp [atN] at ho), fun _ _ _ _ _ h => (nomatch h), fun _ _ _ h => (nomatch h), fun _ _ _ _ _ h => (nomatch h), fun _ _ _ _ _ _ _ _ _ h => (nomatch h), h.fok, ⟨.refl F, fun _ _ => rfl⟩, ⟨rfl, rfl, rfl, Nat.le_refl _, fun _ _ => rfl⟩, h.dfr⟩
def MM.cat (m : MM) (n : Nat) (m' : MM) : MM := ⟨fun i => if i < n then m i else m' (i - n), fun i => if i < n then m.d i else m'.d (i - n)⟩
theorem MM.cat_f (m : MM) {n i : Nat} (m' : MM) (h : i < n) : (m.cat n m') i = m i := by show (if i < n then m i else m' (i - n)) = m i; rw [if_pos h]
theorem MM.cat_d (m : MM) {n i : Nat} (m' : MM) (h : i < n) : (m.cat n m').d i = m.d i := by show (if i < n then m.d i else m'.d (i - n)) = m.d i; rw [if_pos h]
theorem MM.cat_f2 (m : MM) (n i : Nat) (m' : MM) : (m.cat n m') (n + i) = m' i := by show (if n + i < n then m (n + i) else m' (n + i - n)) = m' i; rw [if_neg (by omega), Nat.add_sub_cancel_left]
theorem MM.cat_d2 (m : MM) (n i : Nat) (m' : MM) : (m.cat n m').d (n + i) = m'.d i := by show (if n + i < n then m.d (n + i) else m'.d (n + i - n)) = m'.d i; rw [if_neg (by omega), Nat.add_sub_cancel_left]
theorem ziK {n j : Nat} (h : ¬ j < n) : ∃ i, j = n + i := ⟨j - n, by omega⟩
theorem zW2 {H h' : List Obj} {i : Nat} {o : Obj} (ho : atN h' i = some o) : atN (H ++ h'.map (Obj.sh H.length)) (H.length + i) = some (o.rn (H.length + ·)) := by
  rw [qE, List.getElem?_append_right (by omega), Nat.add_sub_cancel_left, List.getElem?_map, ← qE, ho, Option.map_some, Obj.sh_rn]
theorem Rel.cat (h : Rel P nt F0 w0 ⟨fr, H⟩ m F a w) (h2 : Rel P nt F w ⟨fr', h'⟩ m' F' a w') (hle : F.le F') : Rel P nt F0 w0 ⟨fr, H ++ h'.map (Obj.sh H.length)⟩ (m.cat H.length m') F' a w' := by
  have h1 := h.step (F' := F') h2.bel h2.gro h2.fok
  have hm : ∀ j u, atN H j = some u → Same (H ++ h'.map (Obj.sh H.length)) m (m.cat H.length m') j u := fun j u hu => ⟨MM.cat_f m m' (vW hu), fun _ _ _ _ => by rw [MM.cat_d m m' (vW hu)]⟩
  have hh : HLe H (H ++ h'.map (Obj.sh H.length)) := HLe.append _ _
  have hR : ∀ i o, atN h' i = some o → atN (H ++ h'.map (Obj.sh H.length)) (H.length + i) = some (o.rn (H.length + ·)) ∧ (m.cat H.length m') (H.length + i) = m' i ∧ (m.cat H.length m').d (H.length + i) = m'.d i := fun i o ho => ⟨zW2 ho, MM.cat_f2 _ _ _ _, MM.cat_d2 _ _ _ _⟩
  have hlast : ∀ i b n, m' i = some (b, n) → w.heap.size ≤ b := fun i b n hi => (h2.rng _ _ _ hi).2.1
  have hlastd : ∀ i j p b n, m'.d i j p = some (b, n) → w.heap.size ≤ b := fun i j p b n hi => (h2.dok _ _ _ _ _ hi).2.1
  have hfst : ∀ i b n, m i = some (b, n) → b < w.heap.size := fun i b n hi => (h.rng _ _ _ hi).2.2
  have hfstd : ∀ i j p b n, m.d i j p = some (b, n) → b < w.heap.size := fun i j p b n hi => (h.dok _ _ _ _ _ hi).2.2.1
  refine ⟨h.nt, fun t v ht => (h1.fr t v ht).mono hh hm (.refl F'), fun j u hu => ?_, fun i j b n n' hi hj => ?_, fun j b n hj => ?_, fun i j p b n hp => ?_, fun i1 j1 p1 b n i2 j2 p2 n' q1 q2 => ?_, h2.fok, h1.gro, h1.bel, h.dfr⟩
  · by_cases hj : j < H.length
    · have hu' : atN H j = some u := by rw [zbr hj] at hu; exact hu
      exact (h1.obs j u hu').mono hh hm (.refl F') hu' hu (fun _ _ _ => rfl) (fun _ _ _ hn => hn) (fun _ _ _ _ _ _ => ⟨rfl, fun hn => hn⟩)
    · obtain ⟨i, rfl⟩ := ziK hj
      rw [qE, List.getElem?_append_right (by omega), Nat.add_sub_cancel_left, List.getElem?_map, ← qE] at hu
      obtain ⟨o, ho, rfl⟩ := Option.map_eq_some_iff.1 hu
      rw [Obj.sh_rn]
      exact (h2.obs i o ho).rn (fun _ _ _ i _ o' ho' => hR i o' ho') (hR i o ho).2.1 (hR i o ho).2.2
  · by_cases e1 : i < H.length <;> by_cases e2 : j < H.length
    · rw [MM.cat_f _ _ e1] at hi; rw [MM.cat_f _ _ e2] at hj; exact h.inj _ _ _ _ _ hi hj
    · obtain ⟨j, rfl⟩ := ziK e2
      rw [MM.cat_f _ _ e1] at hi; rw [MM.cat_f2] at hj
      have := hfst _ _ _ hi; have := hlast _ _ _ hj; omega
    · obtain ⟨i, rfl⟩ := ziK e1
      rw [MM.cat_f2] at hi; rw [MM.cat_f _ _ e2] at hj
      have := hfst _ _ _ hj; have := hlast _ _ _ hi; omega
    · obtain ⟨i, rfl⟩ := ziK e1
      obtain ⟨j, rfl⟩ := ziK e2
      rw [MM.cat_f2] at hi hj
      have := h2.inj _ _ _ _ _ hi hj; omega
  · have hs := h.bel.size
    simp only [List.length_append, List.length_map]
    by_cases e : j < H.length
    · rw [MM.cat_f _ _ e] at hj
      have := h1.rng _ _ _ hj
      simp only at this
      omega
    · obtain ⟨j, rfl⟩ := ziK e
      rw [MM.cat_f2] at hj
      have := h2.rng _ _ _ hj
      simp only at this
      omega
  · have hs := h.bel.size
    by_cases e : i < H.length
    · rw [MM.cat_d _ _ e] at hp
      obtain ⟨⟨o, g1, g2⟩, g3, g4, g5, g6⟩ := h1.dok _ _ _ _ _ hp
      refine ⟨⟨o, by rw [zbr e]; exact g1, g2⟩, g3, g4, g5, fun i' n' => ?_⟩
      by_cases e' : i' < H.length
      · rw [MM.cat_f _ _ e']; exact g6 _ _
      · obtain ⟨i', rfl⟩ := ziK e'
        rw [MM.cat_f2]
        intro hi'
        have := hfstd _ _ _ _ _ hp; have := hlast _ _ _ hi'; omega
    · obtain ⟨i, rfl⟩ := ziK e
      rw [MM.cat_d2] at hp
      obtain ⟨⟨o, g1, g2⟩, g3, g4, g5, g6⟩ := h2.dok _ _ _ _ _ hp
      refine ⟨⟨_, zW2 g1, by rw [zOY]; exact g2⟩, by omega, g4, g5, fun i' n' => ?_⟩
      by_cases e' : i' < H.length
      · rw [MM.cat_f _ _ e']
        intro hi'
        have := hfst _ _ _ hi'; omega
      · obtain ⟨i', rfl⟩ := ziK e'
        rw [MM.cat_f2]; exact g6 _ _
  · by_cases e1 : i1 < H.length <;> by_cases e2 : i2 < H.length
    · rw [MM.cat_d _ _ e1] at q1; rw [MM.cat_d _ _ e2] at q2; exact h.din _ _ _ _ _ _ _ _ _ q1 q2
    · obtain ⟨i2, rfl⟩ := ziK e2
      rw [MM.cat_d _ _ e1] at q1; rw [MM.cat_d2] at q2
      have := hfstd _ _ _ _ _ q1; have := hlastd _ _ _ _ _ q2; omega
    · obtain ⟨i1, rfl⟩ := ziK e1
      rw [MM.cat_d2] at q1; rw [MM.cat_d _ _ e2] at q2
      have := hfstd _ _ _ _ _ q2; have := hlastd _ _ _ _ _ q1; omega
    · obtain ⟨i1, rfl⟩ := ziK e1
      obtain ⟨i2, rfl⟩ := ziK e2
      rw [MM.cat_d2] at q1 q2
      have := h2.din _ _ _ _ _ _ _ _ _ q1 q2
      exact ⟨by omega, this.2⟩
theorem Rel.holes (h : Rel P nt F0 w0 ⟨fr, H⟩ m F a w) (n : Nat) : Rel P nt F0 w0 ⟨fr, H ++ List.replicate n .hole⟩ m F a w := by
  have hk : z1Q H (H ++ List.replicate n .hole) m m := fun i o ho _ => ⟨by rw [zbr (vW ho)]; exact ho, rfl, rfl⟩
  refine ⟨h.nt, fun t v ht => (h.fr t v ht).keep hk, fun j u hu => ?_, h.inj, fun i b n' hi => ?_, fun i j p b n' hp => ?_, h.din, h.fok, h.gro, h.bel, h.dfr⟩
  · by_cases hj : j < H.length
    · have hu' : atN H j = some u := by rw [zbr hj] at hu; exact hu
      exact (h.obs j u hu').keep hk rfl rfl
    · rw [qE, List.getElem?_append_right (by omega)] at hu
      have hm := List.mem_of_getElem? hu
      rw [List.mem_replicate] at hm
      obtain ⟨_, rfl⟩ := hm
      show m j = none
      cases hmj : m j with
      | none => rfl
      | some bn =>
        obtain ⟨b, n'⟩ := bn
        have := (h.rng _ _ _ hmj).1
        exact absurd this hj
  · have := h.rng _ _ _ hi
    simp only [List.length_append] at this ⊢
    omega
  · obtain ⟨⟨o, g1, g2⟩, g3⟩ := h.dok _ _ _ _ _ hp
    exact ⟨⟨o, by rw [zbr (vW g1)]; exact g1, g2⟩, g3⟩
def MM.fill (m : MM) (s n : Nat) (m' : MM) : MM := ⟨fun i => if s ≤ i ∧ i < s + n then m' (i - s) else m i, fun i => if s ≤ i ∧ i < s + n then m'.d (i - s) else m.d i⟩
theorem MM.fill_f (m : MM) {s n i : Nat} (m' : MM) (h : ¬(s ≤ i ∧ i < s + n)) : (m.fill s n m') i = m i := by show (if s ≤ i ∧ i < s + n then m' (i - s) else m i) = m i; rw [if_neg h]
theorem MM.fill_d (m : MM) {s n i : Nat} (m' : MM) (h : ¬(s ≤ i ∧ i < s + n)) : (m.fill s n m').d i = m.d i := by show (if s ≤ i ∧ i < s + n then m'.d (i - s) else m.d i) = m.d i; rw [if_neg h]
theorem MM.fill_f2 (m : MM) {s n i : Nat} (m' : MM) (h : i < n) : (m.fill s n m') (s + i) = m' i := by show (if s ≤ s + i ∧ s + i < s + n then m' (s + i - s) else m (s + i)) = m' i; rw [if_pos (by omega), Nat.add_sub_cancel_left]
theorem MM.fill_d2 (m : MM) {s n i : Nat} (m' : MM) (h : i < n) : (m.fill s n m').d (s + i) = m'.d i := by show (if s ≤ s + i ∧ s + i < s + n then m'.d (s + i - s) else m.d (s + i)) = m'.d i; rw [if_pos (by omega), Nat.add_sub_cancel_left]
theorem Rel.fill (h : Rel P nt F0 w0 ⟨fr, H⟩ m F a w) (h2 : Rel P nt F w ⟨fr', h'⟩ m' F' a w') {s : Nat} {H2 : List Obj} (hlen : H2.length = H.length)
    (hs : ∀ i o, atN h' i = some o → atN H (s + i) = some .hole ∧ atN H2 (s + i) = some (o.rn (s + ·))) (hn : ∀ i, ¬(s ≤ i ∧ i < s + h'.length) → atN H2 i = atN H i) :
    Rel P nt F0 w0 ⟨fr, H2⟩ (m.fill s h'.length m') F' a w' := by
  have h1 := h.step (F' := F') h2.bel h2.gro h2.fok
  have hin : ∀ i, i < h'.length → atN H (s + i) = some .hole := fun i hi => (hs i h'[i] (by rw [qE, List.getElem?_eq_getElem hi])).1
  have hmh : ∀ i, i < h'.length → m (s + i) = none := fun i hi => h.obs _ _ (hin i hi)
  have seg : ∀ {i : Nat}, (s ≤ i ∧ i < s + h'.length) → ∃ j, j < h'.length ∧ i = s + j := fun {i} hi => ⟨i - s, by omega, by omega⟩
  have hk : z1Q H H2 m (m.fill s h'.length m') := fun i o ho hne => by
    by_cases e : s ≤ i ∧ i < s + h'.length
    · obtain ⟨j, hj, rfl⟩ := seg e
      rw [hin j hj] at ho; cases ho; exact absurd rfl hne
    · exact ⟨by rw [hn i e]; exact ho, MM.fill_f m m' e, MM.fill_d m m' e⟩
  have hlast : ∀ i b n, m' i = some (b, n) → w.heap.size ≤ b := fun i b n hi => (h2.rng _ _ _ hi).2.1
  have hlastd : ∀ i j p b n, m'.d i j p = some (b, n) → w.heap.size ≤ b := fun i j p b n hi => (h2.dok _ _ _ _ _ hi).2.1
  have hfst : ∀ i b n, m i = some (b, n) → b < w.heap.size := fun i b n hi => (h.rng _ _ _ hi).2.2
  have hfstd : ∀ i j p b n, m.d i j p = some (b, n) → b < w.heap.size := fun i j p b n hi => (h.dok _ _ _ _ _ hi).2.2.1
  have hnd : ∀ {i j p b n}, i < h'.length → m.d (s + i) j p ≠ some (b, n) := fun hi hp => by
    obtain ⟨⟨o, g1, g2⟩, _⟩ := h.dok _ _ _ _ _ hp
    simp only at g1
    rw [hin _ hi] at g1; cases g1; cases g2
  have hR : ∀ i o, atN h' i = some o → atN H2 (s + i) = some (o.rn (s + ·)) ∧ (m.fill s h'.length m') (s + i) = m' i ∧ (m.fill s h'.length m').d (s + i) = m'.d i := fun i o ho => ⟨(hs i o ho).2, MM.fill_f2 _ _ (vW ho), MM.fill_d2 _ _ (vW ho)⟩
  refine ⟨h.nt, fun t v ht => (h1.fr t v ht).keep hk, fun j u hu => ?_, fun i j b n n' hi hj => ?_, fun j b n hj => ?_, fun i j p b n hp => ?_, fun i1 j1 p1 b n i2 j2 p2 n' q1 q2 => ?_, h2.fok, h1.gro, h1.bel, h.dfr⟩
  · by_cases e : s ≤ j ∧ j < s + h'.length
    · obtain ⟨i, hi, rfl⟩ := seg e
      obtain ⟨o, ho⟩ : ∃ o, atN h' i = some o := ⟨h'[i], by rw [qE, List.getElem?_eq_getElem hi]⟩
      have := (hR i o ho).1
      simp only at hu
      rw [this] at hu
      cases hu
      exact (h2.obs i o ho).rn (fun _ _ _ i _ o' ho' => hR i o' ho') (hR i o ho).2.1 (hR i o ho).2.2
    · simp only at hu
      rw [hn j e] at hu
      exact (h1.obs j u hu).keep hk (MM.fill_f m m' e) (MM.fill_d m m' e)
  · by_cases e1 : s ≤ i ∧ i < s + h'.length <;> by_cases e2 : s ≤ j ∧ j < s + h'.length
    · obtain ⟨i, l1, rfl⟩ := seg e1
      obtain ⟨j, l2, rfl⟩ := seg e2
      rw [MM.fill_f2 _ _ l1] at hi; rw [MM.fill_f2 _ _ l2] at hj
      have := h2.inj _ _ _ _ _ hi hj; omega
    · obtain ⟨i, l1, rfl⟩ := seg e1
      rw [MM.fill_f2 _ _ l1] at hi; rw [MM.fill_f _ _ e2] at hj
      have := hfst _ _ _ hj; have := hlast _ _ _ hi; omega
    · obtain ⟨j, l2, rfl⟩ := seg e2
      rw [MM.fill_f _ _ e1] at hi; rw [MM.fill_f2 _ _ l2] at hj
      have := hfst _ _ _ hi; have := hlast _ _ _ hj; omega
    · rw [MM.fill_f _ _ e1] at hi; rw [MM.fill_f _ _ e2] at hj; exact h.inj _ _ _ _ _ hi hj
  · have hsz := h.bel.size
    by_cases e : s ≤ j ∧ j < s + h'.length
    · obtain ⟨i, l1, rfl⟩ := seg e
      rw [MM.fill_f2 _ _ l1] at hj
      have := h2.rng _ _ _ hj
      have := vW (hin i l1)
      simp only at *
      omega
    · rw [MM.fill_f _ _ e] at hj
      have := h1.rng _ _ _ hj
      simp only at *
      omega
  · have hsz := h.bel.size
    by_cases e : s ≤ i ∧ i < s + h'.length
    · obtain ⟨i, l1, rfl⟩ := seg e
      rw [MM.fill_d2 _ _ l1] at hp
      obtain ⟨⟨o, g1, g2⟩, g3, g4, g5, g6⟩ := h2.dok _ _ _ _ _ hp
      refine ⟨⟨_, (hR i o g1).1, by rw [zOY]; exact g2⟩, by omega, g4, g5, fun i' n' => ?_⟩
      by_cases e' : s ≤ i' ∧ i' < s + h'.length
      · obtain ⟨i', l2, rfl⟩ := seg e'
        rw [MM.fill_f2 _ _ l2]; exact g6 _ _
      · rw [MM.fill_f _ _ e']
        intro hi'
        have := hfst _ _ _ hi'; omega
    · rw [MM.fill_d _ _ e] at hp
      obtain ⟨⟨o, g1, g2⟩, g3, g4, g5, g6⟩ := h1.dok _ _ _ _ _ hp
      refine ⟨⟨o, by simp only at g1 ⊢; rw [hn i e]; exact g1, g2⟩, g3, g4, g5, fun i' n' => ?_⟩
      by_cases e' : s ≤ i' ∧ i' < s + h'.length
      · obtain ⟨i', l2, rfl⟩ := seg e'
        rw [MM.fill_f2 _ _ l2]
        intro hi'
        have := hfstd _ _ _ _ _ hp; have := hlast _ _ _ hi'; omega
      · rw [MM.fill_f _ _ e']; exact g6 _ _
  · by_cases e1 : s ≤ i1 ∧ i1 < s + h'.length <;> by_cases e2 : s ≤ i2 ∧ i2 < s + h'.length
    · obtain ⟨i1, l1, rfl⟩ := seg e1
      obtain ⟨i2, l2, rfl⟩ := seg e2
      rw [MM.fill_d2 _ _ l1] at q1; rw [MM.fill_d2 _ _ l2] at q2
      have := h2.din _ _ _ _ _ _ _ _ _ q1 q2
      exact ⟨by omega, this.2⟩
    · obtain ⟨i1, l1, rfl⟩ := seg e1
      rw [MM.fill_d2 _ _ l1] at q1; rw [MM.fill_d _ _ e2] at q2
      have := hfstd _ _ _ _ _ q2; have := hlastd _ _ _ _ _ q1; omega
    · obtain ⟨i2, l2, rfl⟩ := seg e2
      rw [MM.fill_d _ _ e1] at q1; rw [MM.fill_d2 _ _ l2] at q2
      have := hfstd _ _ _ _ _ q1; have := hlastd _ _ _ _ _ q2; omega
    · rw [MM.fill_d _ _ e1] at q1; rw [MM.fill_d _ _ e2] at q2; exact h.din _ _ _ _ _ _ _ _ _ q1 q2
theorem zh.fill {v : AV} {u : Value} {s : Nat} {H2 : List Obj} (hs : ∀ i o, atN h' i = some o → atN H2 (s + i) = some (o.rn (s + ·))) (hv : zh P h' m' F' v u) : zh P H2 (m.fill s h'.length m') F' (v.shT s) u := by
  have hR : ∀ i o, atN h' i = some o → atN H2 (s + i) = some (o.rn (s + ·)) ∧ (m.fill s h'.length m') (s + i) = m' i ∧ (m.fill s h'.length m').d (s + i) = m'.d i := fun i o ho => ⟨hs i o ho, MM.fill_f2 _ _ (vW ho), MM.fill_d2 _ _ (vW ho)⟩
  cases v with
  | tup vs =>
    obtain ⟨arr, e, h1, h3⟩ := hv
    refine ⟨arr, e, by simpa using h1, fun i x hx => ?_⟩
    rw [List.getElem?_map] at hx
    obtain ⟨y, hy, rfl⟩ := Option.map_eq_some_iff.1 hx
    obtain ⟨z, hz, hyz⟩ := h3 i y hy
    refine ⟨z, hz, ?_⟩
    rw [AV.sh_rn]
    exact hyz.rn fun i _ o ho => hR i o ho
  | _ =>
    rw [zh.eq1 (by intro vs e; cases e)] at hv
    refine zh.of1 ?_
    simp only [AV.shT]
    rw [AV.sh_rn]
    exact hv.rn fun i _ o ho => hR i o ho
theorem zh.cat {v : AV} {u : Value} (hv : zh P h' m' F' v u) : zh P (H ++ h'.map (Obj.sh H.length)) (m.cat H.length m') F' (v.shT H.length) u := by
  have hR : ∀ i o, atN h' i = some o → atN (H ++ h'.map (Obj.sh H.length)) (H.length + i) = some (o.rn (H.length + ·)) ∧ (m.cat H.length m') (H.length + i) = m' i ∧ (m.cat H.length m').d (H.length + i) = m'.d i := fun i o ho => ⟨zW2 ho, MM.cat_f2 _ _ _ _, MM.cat_d2 _ _ _ _⟩
  cases v with
  | tup vs =>
    obtain ⟨arr, e, h1, h3⟩ := hv
    refine ⟨arr, e, by simpa using h1, fun i x hx => ?_⟩
    rw [List.getElem?_map] at hx
    obtain ⟨y, hy, rfl⟩ := Option.map_eq_some_iff.1 hx
    obtain ⟨z, hz, hyz⟩ := h3 i y hy
    refine ⟨z, hz, ?_⟩
    rw [AV.sh_rn]
    exact hyz.rn fun i _ o ho => hR i o ho
  | _ =>
    rw [zh.eq1 (by intro vs e; cases e)] at hv
    refine zh.of1 ?_
    simp only [AV.shT]
    rw [AV.sh_rn]
    exact hv.rn fun i _ o ho => hR i o ho
end
end Go.Ev
end
section
namespace Go.Ev
open Go.RowKit
set_option linter.unusedSimpArgs false
set_option linter.unusedVariables false
section
variable {P : Program} {nt : Nat} {F0 F G : FH} {w0 w : World} {st st' : St} {m : MM} {a : Act} {E : Env} {v : AV} {u : Value}
theorem zUv {R : Type} {q : Bool} {args : Array Operand} {ts : Array TypeId} {k : AV → St → Option R} : zpU q E ⟨.builtin .len, args, ts⟩ st k = match args.toList, ts.toList with | [x], [t] => (match rd E st none x with | some v => ziw E t v st k | none => none) | _, _ => none := rfl
theorem z6t {q : Bool} {o : Oper} (hE : z4 P G E) (hG : G.le F0) (h : Rel P nt F0 w0 st m F a w) (hs : zlp o.op = true) (he : zb8 q E o.op o.type st pk = some (v, st')) :
    st' = st ∧ ∃ u, (execOp a.eval o).run P w = .ok (.value u) w ∧ zh P st.h m F v u := by
  obtain ⟨dst, op, ty, pos, after, guard⟩ := o
  simp only at he hs
  cases op <;> (try (simp only [zlp] at hs; cases hs; done)) <;> simp only [zb8] at he
  case load t x =>
    split at he
    · rename_i av hav
      obtain ⟨u, h1, rfl, h2⟩ := zLL hE h (zG hE hG h hav) he
      exact ⟨rfl, u, by simp only [execOp]; exact qc h1, h2⟩
    · cases he
  case nilCheck x =>
    split at he
    · rename_i τ y hx
      obtain ⟨y, rfl, he⟩ := Option.bind_eq_some_iff.1 he
      cases he
      have hr := zG hE hG h hx
      obtain ⟨d, cc, hp, _⟩ := hr.ptr
      exact ⟨rfl, a.eval x, by simp only [execOp, hp]; rfl, hr⟩
    · rename_i τ σ y hx
      obtain ⟨y, rfl, he⟩ := Option.bind_eq_some_iff.1 he
      cases he
      have hr := zG hE hG h hx
      obtain ⟨f, first, caps, hp, _⟩ := zh.one rfl hr
      simp only [List.cons.injEq, and_true] at hp
      exact ⟨rfl, a.eval x, by simp only [execOp, hp]; rfl, hr⟩
    · rename_i id p hx
      obtain ⟨hlive, he⟩ := zd he
      cases he
      have hr := zG hE hG h hx
      obtain ⟨b, n, o, off, _, _, hp, _⟩ := (show qm P st.h m F (.bp id p) _ from hr).resolve_left (zwa hlive)
      exact ⟨rfl, a.eval x, by simp only [execOp, hp]; rfl, hr⟩
    · rename_i id i p hx
      obtain ⟨hlive, he⟩ := zd he
      cases he
      have hr := zG hE hG h hx
      obtain ⟨b, n, o, τ, len, off, σ, _, _, _, _, _, hp⟩ := (show qm P st.h m F (.rp id i p) _ from hr).resolve_left (zwa hlive)
      exact ⟨rfl, a.eval x, by simp only [execOp, hp]; rfl, hr⟩
    · rename_i id i p j q hx
      split at he
      · rename_i τ xs k ho
        cases he
        have hr := zG hE hG h hx
        obtain ⟨o, ho', _, hr'⟩ := (show qm P st.h m F (.dp id i p j q) _ from hr)
        rw [ho] at ho'
        cases ho'
        obtain ⟨_, σ, len, off, ρ, b, n, _, _, _, _, hp⟩ := hr' _ _ _ rfl
        exact ⟨rfl, a.eval x, by simp only [execOp, hp]; rfl, hr⟩
      · cases he
    · cases he
  case binOp op t x y ty' =>
    split at he
    · rename_i av au hav hau
      obtain ⟨u, h1, rfl, h2⟩ := zUf (X := x) (Y := y) (w := w) hE zIb (zG hE hG h hav) (zG hE hG h hau) he
      exact ⟨rfl, u, by simp only [execOp]; exact qc h1, h2⟩
    · cases he
  case fieldAddr t x f =>
    split at he
    · rename_i av hav
      obtain ⟨u, h1, rfl, h2⟩ := zGI hE h (zG hE hG h hav) he
      exact ⟨rfl, u, by simp only [execOp]; exact qc h1, h2⟩
    · cases he
  case indexAddr t x i =>
    split at he
    · rename_i av au hav hau
      obtain ⟨u, h1, rfl, h2⟩ := zGJ hE h (zG hE hG h hav) (zG hE hG h hau) he
      exact ⟨rfl, u, by simp only [execOp]; exact qc h1, h2⟩
    · cases he
  case lookup t x i ok =>
    split at he
    · rename_i av au hav hau
      obtain ⟨u, h1, rfl, h2⟩ := zOW hE h (zG hE hG h hav) (zG hE hG h hau) he
      exact ⟨rfl, u, by simp only [execOp]; exact qc h1, h2⟩
    · cases he
  case call c =>
    obtain ⟨callee, args, argTypes⟩ := c
    simp only [zlp] at hs
    split at hs
    · rw [zUv] at he
      split at he
      · rename_i x t hx ht
        split at he
        · rename_i av hav
          obtain ⟨u, h1, rfl, h2⟩ := zYM (ty := ty) hE h (zG hE hG h hav) ht he
          have hargs : args.map a.eval = #[a.eval x] := by apply Array.ext'; simp [hx]
          refine ⟨rfl, u, ?_, h2⟩
          simp only [execOp, resolve, Sem.run_bind, Sem.run_pure, Result.andThen_ok, invoke, builtin, hargs]
          simp [h1]
        · cases he
      · cases he
    · cases hs
theorem zCx {α : Type} {h k : List α} {i : Nat} {o : α} (ho : atN h i = some o) : atN (h ++ k) i = some o := by
  rw [qE] at ho ⊢
  rw [List.getElem?_append_left (List.getElem?_eq_some_iff.1 ho).1]
  exact ho
theorem z1R {h k : List Obj} {i : Nat} (hk : ∀ o, atN h i = some o → atN k i = some o) (ho : live h i = true) : live k i = true := by
  unfold live at ho ⊢
  cases hi : atN h i with
  | none => rw [hi] at ho; cases ho
  | some o => rw [hi] at ho; rw [hk _ hi]; exact ho
def more (k : List Obj) (st : St) : St := ⟨st.fr, k⟩
def zwb (h k : List Obj) (v : AV) : Prop := ∀ i, v.has1 i = true → ∀ o, atN h i = some o → atN k i = some o
def Sup (h k : List Obj) (v : AV) : Prop := ∀ i, v.has i = true → ∀ o, atN h i = some o → atN k i = some o
theorem zwb.refl (h : List Obj) (v : AV) : zwb h h v := fun _ _ _ h => h
theorem Sup.refl (h : List Obj) (v : AV) : Sup h h v := fun _ _ _ h => h
variable {k : List Obj}
theorem zyy {x : (τ : Ty) × τ.I × St} (hk : zwb st.h k v) (h : vI true st v = some x) : vI true (more k st) v = some ⟨x.1, x.2.1, more k x.2.2⟩ ∧ x.2.2 = st := by
  cases v with
  | dat τ y => simp only [vI, Option.some.injEq] at h ⊢; subst h; exact ⟨rfl, rfl⟩
  | clip τ y => simp only [vI, Option.some.injEq] at h ⊢; subst h; exact ⟨rfl, rfl⟩
  | ow id =>
    simp only [vI] at h ⊢
    split at h
    · rename_i τ xs ho
      cases h
      rw [show atN (more k st).h id = some (.row τ xs true) from hk _ (Nat.beq_refl _) _ ho]
      exact ⟨rfl, rfl⟩
    · cases h
    · cases h
    · cases h
  | bp id p =>
    cases p with
    | cons _ _ => cases h
    | nil =>
      simp only [vI] at h ⊢
      split at h
      · rename_i τ xs ho
        cases h
        rw [show atN (more k st).h id = some (.bx (.dat τ xs) true) from hk _ (Nat.beq_refl _) _ ho]
        exact ⟨rfl, rfl⟩
      · cases h
      · cases h
  | _ => cases h
theorem zRC {σ : Ty} {x : σ.I × St} (hk : zwb st.h k v) (h : zdV true σ st v = some x) : zdV true σ (more k st) v = some (x.1, more k x.2) ∧ x.2 = st := by
  unfold zdV at h ⊢
  split at h
  · rename_i τ y st1 hz
    obtain ⟨h1, h2⟩ := zyy (k := k) hk hz
    simp only at h1 h2
    subst h2
    rw [h1]
    split at h
    · rename_i z hc
      cases h
      simp only [hc, and_self]
    · cases h
  · cases h
theorem z1S : ∀ {τ : Ty} {vs : List AV} {st : St} {x : τ.I × St}, (∀ v ∈ vs, zwb st.h k v) → yc true τ vs st = some x → yc true τ vs (more k st) = some (x.1, more k x.2) ∧ x.2 = st := by
  intro τ
  induction τ with
  | unit => intro vs st x _ h; cases vs <;> first | (cases h; exact ⟨rfl, rfl⟩) | cases h
  | pair a b _ ihb =>
    intro vs st x hk h
    cases vs with
    | nil => cases h
    | cons v vs =>
      simp only [yc] at h ⊢
      split at h
      · rename_i y st1 hy
        split at h
        · rename_i ys st2 hys
          cases h
          obtain ⟨h1, h2⟩ := zRC (k := k) (hk v (by simp)) hy
          simp only at h1 h2
          subst h2
          obtain ⟨h3, h4⟩ := ihb (fun v hv => hk v (by simp [hv])) hys
          simp only at h3 h4
          subst h4
          rw [h1]
          simp only [h3, and_self]
        · cases h
      · cases h
  | _ => intro vs st x _ h; cases vs <;> cases h
theorem z8C {x : (τ : Ty) × τ.I × St} (hk : Sup st.h k v) (h : frz true st v = some x) : frz true (more k st) v = some ⟨x.1, x.2.1, more k x.2.2⟩ ∧ x.2.2 = st := by
  cases v with
  | fld b vs =>
    simp only [frz] at h ⊢
    split at h
    · rename_i y st1 hy
      cases h
      obtain ⟨h1, h2⟩ := z1S (k := k) (fun v hv i hi => hk i (by simp only [AV.has, List.any_eq_true]; exact ⟨v, hv, hi⟩)) hy
      simp only at h1 h2
      subst h2
      simp only [h1, and_self]
    · cases h
  | dat τ x => exact zyy (v := .dat τ x) hk h
  | clip τ x => exact zyy (v := .clip τ x) hk h
  | bp id p => exact zyy (v := .bp id p) hk h
  | ow id => exact zyy (v := .ow id) hk h
  | _ => cases h
theorem z9U {v' : AV} {s s' : St} (h : kAV v' s pk = some (v, st')) : kAV v' s' pk = some (v, s') := by
  obtain ⟨rfl, rfl⟩ := zcb h
  unfold kAV at h ⊢
  split
  · rename_i b; cases b <;> rfl
  · rfl
theorem z7G {R : Type} {k : AV → St → Option R} {s s2 : St} {t : TypeId} {x : AV} (hat : ∀ i, x.has1 i = true → atN s.h i = atN s2.h i) : zaU E t x s k = zaU E t x s2 (fun v _ => k v s) := by
  unfold zaU
  cases x with
  | bp id p =>
    have hh : atN s.h id = atN s2.h id := hat id (Nat.beq_refl _)
    first | (simp only [hh]; done) | (simp only [hh]; rfl)
  | rp id i' p =>
    have hh : atN s.h id = atN s2.h id := hat id (Nat.beq_refl _)
    first | (simp only [hh]; done) | (simp only [hh]; rfl)
  | dp id i' p j' q =>
    have hh : atN s.h id = atN s2.h id := hat id (Nat.beq_refl _)
    first | (simp only [hh]; done) | (simp only [hh]; rfl)
  | dat τ y => cases τ <;> rfl
  | _ => rfl
theorem z1T {t : TypeId} {x : AV} (he : zaU E t x st pk = some (v, st')) {i0 : Nat} (hx : x.has1 i0 = true) : ∃ o, atN st.h i0 = some o := by
  cases ho : atN st.h i0 with
  | some o => exact ⟨o, rfl⟩
  | none =>
    exfalso
    unfold zaU at he
    cases x with
    | bp id p =>
      obtain rfl : id = i0 := Nat.eq_of_beq_eq_true hx
      first | (cases he; done) | (simp only [ho] at he; cases he)
    | rp id i' p =>
      obtain rfl : id = i0 := Nat.eq_of_beq_eq_true hx
      first | (cases he; done) | (simp only [ho] at he; cases he)
    | dp id i' p j' q =>
      obtain rfl : id = i0 := Nat.eq_of_beq_eq_true hx
      first | (cases he; done) | (simp only [ho] at he; cases he)
    | ds id i' p =>
      obtain rfl : id = i0 := Nat.eq_of_beq_eq_true hx
      first | (cases he; done) | (simp only [ho] at he; cases he)
    | ow id =>
      obtain rfl : id = i0 := Nat.eq_of_beq_eq_true hx
      first | (cases he; done) | (simp only [ho] at he; cases he)
    | om id =>
      obtain rfl : id = i0 := Nat.eq_of_beq_eq_true hx
      first | (cases he; done) | (simp only [ho] at he; cases he)
    | _ => cases hx
theorem z4a {t : TypeId} {x : AV} (hk : zwb st.h k x) (he : zaU E t x st pk = some (v, st')) : zaU E t x (more k st) pk = some (v, more k st) := by
  have hat : ∀ i, x.has1 i = true → atN (more k st).h i = atN st.h i := fun i hi => by
    obtain ⟨o, ho⟩ := z1T he hi
    rw [ho]; exact hk i hi o ho
  rw [z7G hat, zT8, he]
  rfl
theorem zW3 {R : Type} {k : AV → St → Option R} {s s2 : St} {t : TypeId} {x i : AV} (hat : ∀ i, x.has1 i = true → atN s.h i = atN s2.h i) : vn E t x i s k = vn E t x i s2 (fun v _ => k v s) := by
  unfold vn
  cases x with
  | bp id p =>
    have hh : atN s.h id = atN s2.h id := hat id (Nat.beq_refl _)
    cases i with
    | dat τ n => cases τ <;> first | rfl | (simp only [hh]; done) | (simp only [hh]; rfl)
    | _ => rfl
  | rp id i' p =>
    have hh : atN s.h id = atN s2.h id := hat id (Nat.beq_refl _)
    cases i with
    | dat τ n => cases τ <;> first | rfl | (simp only [hh]; done) | (simp only [hh]; rfl)
    | _ => rfl
  | dp id i' p j' q =>
    have hh : atN s.h id = atN s2.h id := hat id (Nat.beq_refl _)
    cases i with
    | dat τ n => cases τ <;> first | rfl | (simp only [hh]; done) | (simp only [hh]; rfl)
    | _ => rfl
  | ds id i' p =>
    have hh : atN s.h id = atN s2.h id := hat id (Nat.beq_refl _)
    cases i with
    | dat τ n => cases τ <;> first | rfl | (simp only [hh]; done) | (simp only [hh]; rfl)
    | _ => rfl
  | ow id =>
    have hh : atN s.h id = atN s2.h id := hat id (Nat.beq_refl _)
    cases i with
    | dat τ n => cases τ <;> first | rfl | (simp only [hh]; done) | (simp only [hh]; rfl)
    | _ => rfl
  | dat τ y =>
    cases i with
    | dat τ' n => cases τ with
      | ptr a => cases a <;> cases τ' <;> rfl
      | _ => cases τ' <;> rfl
    | _ => cases τ with
      | ptr a => cases a <;> rfl
      | _ => rfl
  | clip τ y => cases i with
    | dat τ' n => cases τ' <;> rfl
    | _ => rfl
  | _ => rfl
theorem zQV {t : TypeId} {x i : AV} (he : vn E t x i st pk = some (v, st')) {i0 : Nat} (hx : x.has1 i0 = true) : ∃ o, atN st.h i0 = some o := by
  cases ho : atN st.h i0 with
  | some o => exact ⟨o, rfl⟩
  | none =>
    exfalso
    unfold vn at he
    cases x with
    | bp id p =>
      obtain rfl : id = i0 := Nat.eq_of_beq_eq_true hx
      cases i with
      | dat τ n => cases τ <;> first | (cases he; done) | (simp only [ho] at he; cases he)
      | _ => cases he
    | rp id i' p =>
      obtain rfl : id = i0 := Nat.eq_of_beq_eq_true hx
      cases i with
      | dat τ n => cases τ <;> first | (cases he; done) | (simp only [ho] at he; cases he)
      | _ => cases he
    | dp id i' p j' q =>
      obtain rfl : id = i0 := Nat.eq_of_beq_eq_true hx
      cases i with
      | dat τ n => cases τ <;> first | (cases he; done) | (simp only [ho] at he; cases he)
      | _ => cases he
    | ds id i' p =>
      obtain rfl : id = i0 := Nat.eq_of_beq_eq_true hx
      cases i with
      | dat τ n => cases τ <;> first | (cases he; done) | (simp only [ho] at he; cases he)
      | _ => cases he
    | ow id =>
      obtain rfl : id = i0 := Nat.eq_of_beq_eq_true hx
      cases i with
      | dat τ n => cases τ <;> first | (cases he; done) | (simp only [ho] at he; cases he)
      | _ => cases he
    | om id =>
      obtain rfl : id = i0 := Nat.eq_of_beq_eq_true hx
      cases i with
      | dat τ n => cases τ <;> first | (cases he; done) | (simp only [ho] at he; cases he)
      | _ => cases he
    | _ => cases hx
theorem zSp {t : TypeId} {x i : AV} (hk : zwb st.h k x) (he : vn E t x i st pk = some (v, st')) : vn E t x i (more k st) pk = some (v, more k st) := by
  have hat : ∀ i, x.has1 i = true → atN (more k st).h i = atN st.h i := fun i hi => by
    obtain ⟨o, ho⟩ := zQV he hi
    rw [ho]; exact hk i hi o ho
  rw [zW3 hat, zGE, he]
  rfl
theorem zW4 {R : Type} {k : AV → St → Option R} {s s2 : St} {t : TypeId} {x : AV} {f : Nat} (hat : ∀ i, x.has1 i = true → atN s.h i = atN s2.h i) : vo E t x f s k = vo E t x f s2 (fun v _ => k v s) := by
  unfold vo
  cases x with
  | bp id p =>
    have hh : atN s.h id = atN s2.h id := hat id (Nat.beq_refl _)
    first | (simp only [hh]; done) | (simp only [hh]; rfl)
  | rp id i' p =>
    have hh : atN s.h id = atN s2.h id := hat id (Nat.beq_refl _)
    first | (simp only [hh]; done) | (simp only [hh]; rfl)
  | dp id i' p j' q =>
    have hh : atN s.h id = atN s2.h id := hat id (Nat.beq_refl _)
    first | (simp only [hh]; done) | (simp only [hh]; rfl)
  | dat τ y => cases τ with
    | ptr a => cases a <;> rfl
    | _ => rfl
  | _ => rfl
theorem zQW {t : TypeId} {x : AV} {f : Nat} (he : vo E t x f st pk = some (v, st')) {i0 : Nat} (hx : x.has1 i0 = true) : ∃ o, atN st.h i0 = some o := by
  cases ho : atN st.h i0 with
  | some o => exact ⟨o, rfl⟩
  | none =>
    exfalso
    unfold vo at he
    cases x with
    | bp id p =>
      obtain rfl : id = i0 := Nat.eq_of_beq_eq_true hx
      first | (cases he; done) | (simp only [ho] at he; cases he)
    | rp id i' p =>
      obtain rfl : id = i0 := Nat.eq_of_beq_eq_true hx
      first | (cases he; done) | (simp only [ho] at he; cases he)
    | dp id i' p j' q =>
      obtain rfl : id = i0 := Nat.eq_of_beq_eq_true hx
      first | (cases he; done) | (simp only [ho] at he; cases he)
    | ds id i' p =>
      obtain rfl : id = i0 := Nat.eq_of_beq_eq_true hx
      first | (cases he; done) | (simp only [ho] at he; cases he)
    | ow id =>
      obtain rfl : id = i0 := Nat.eq_of_beq_eq_true hx
      first | (cases he; done) | (simp only [ho] at he; cases he)
    | om id =>
      obtain rfl : id = i0 := Nat.eq_of_beq_eq_true hx
      first | (cases he; done) | (simp only [ho] at he; cases he)
    | _ => cases hx
theorem zSq {t : TypeId} {x : AV} {f : Nat} (hk : zwb st.h k x) (he : vo E t x f st pk = some (v, st')) : vo E t x f (more k st) pk = some (v, more k st) := by
  have hat : ∀ i, x.has1 i = true → atN (more k st).h i = atN st.h i := fun i hi => by
    obtain ⟨o, ho⟩ := zQW he hi
    rw [ho]; exact hk i hi o ho
  rw [zW4 hat, zGF, he]
  rfl
theorem z8D {R : Type} {k : AV → St → Option R} {s s2 : St} {t : TypeId} {x : AV} (hat : ∀ i, x.has1 i = true → atN s.h i = atN s2.h i) : ziw E t x s k = ziw E t x s2 (fun v _ => k v s) := by
  unfold ziw
  cases x with
  | ds id i' p =>
    have hh : atN s.h id = atN s2.h id := hat id (Nat.beq_refl _)
    first | (simp only [hh]; done) | (simp only [hh]; rfl)
  | ow id =>
    have hh : atN s.h id = atN s2.h id := hat id (Nat.beq_refl _)
    first | (simp only [hh]; done) | (simp only [hh]; rfl)
  | om id =>
    have hh : atN s.h id = atN s2.h id := hat id (Nat.beq_refl _)
    first | (simp only [hh]; done) | (simp only [hh]; rfl)
  | dat τ y => cases τ <;> rfl
  | _ => rfl
theorem z4b {t : TypeId} {x : AV} (he : ziw E t x st pk = some (v, st')) {i0 : Nat} (hx : x.has1 i0 = true) : ∃ o, atN st.h i0 = some o := by
  cases ho : atN st.h i0 with
  | some o => exact ⟨o, rfl⟩
  | none =>
    exfalso
    unfold ziw at he
    cases x with
    | bp id p =>
      obtain rfl : id = i0 := Nat.eq_of_beq_eq_true hx
      first | (cases he; done) | (simp only [ho] at he; cases he)
    | rp id i' p =>
      obtain rfl : id = i0 := Nat.eq_of_beq_eq_true hx
      first | (cases he; done) | (simp only [ho] at he; cases he)
    | dp id i' p j' q =>
      obtain rfl : id = i0 := Nat.eq_of_beq_eq_true hx
      first | (cases he; done) | (simp only [ho] at he; cases he)
    | ds id i' p =>
      obtain rfl : id = i0 := Nat.eq_of_beq_eq_true hx
      first | (cases he; done) | (simp only [ho] at he; cases he)
    | ow id =>
      obtain rfl : id = i0 := Nat.eq_of_beq_eq_true hx
      first | (cases he; done) | (simp only [ho] at he; cases he)
    | om id =>
      obtain rfl : id = i0 := Nat.eq_of_beq_eq_true hx
      first | (cases he; done) | (simp only [ho] at he; cases he)
    | _ => cases hx
theorem z6u {t : TypeId} {x : AV} (hk : zwb st.h k x) (he : ziw E t x st pk = some (v, st')) : ziw E t x (more k st) pk = some (v, more k st) := by
  have hat : ∀ i, x.has1 i = true → atN (more k st).h i = atN st.h i := fun i hi => by
    obtain ⟨o, ho⟩ := z4b he hi
    rw [ho]; exact hk i hi o ho
  rw [z8D hat, zYA, he]
  rfl
theorem zZg {t : TypeId} {x i : AV} {ok : Bool} (hk : zwb st.h k x) (he : zdF E t x i ok st pk = some (v, st')) : zdF E t x i ok (more k st) pk = some (v, more k st) := by
  unfold zdF at he ⊢
  split at he
  · split at he
    · rename_i ho
      split at he
      · split at he
        · rename_i hc
          obtain ⟨h1, h2⟩ := zd he
          simp only [show atN (more k st).h _ = _ from hk _ (Nat.beq_refl _) _ ho, hc, h1, cond_true]
          cases ok with
          | false => exact z9U h2
          | true => cases h2; rfl
        · cases he
      · cases he
    · cases he
  · cases he
theorem z4c {nil : Bool} {op : BinOp} {t : TypeId} {x y : AV} {st2 : St} (he : zkS nil E op t x y st pk = some (v, st')) : zkS nil E op t x y st2 pk = some (v, st2) := by
  have hst : ∀ {R : Type} {s s2 : St} {k : AV → St → Option R}, zkS nil E op t x y s k = zkS nil E op t x y s2 (fun v _ => k v s) := rfl
  rw [hst (s2 := st), zT7, he]
  rfl
theorem zYS {q : Bool} {op : Op} {ty : TypeId} (hs : zlp op = true) (hk : ∀ x θ v, x ∈ op.operands → rd E st θ x = some v → zwb st.h k v) (he : zb8 q E op ty st pk = some (v, st')) : zb8 q E op ty (more k st) pk = some (v, more k st) := by
  have hrd : ∀ θ x, rd E (more k st) θ x = rd E st θ x := fun θ x => by cases x <;> rfl
  cases op <;> (try (simp only [zlp] at hs; cases hs; done)) <;> simp only [zb8, hrd] at he ⊢
  case load t x =>
    split at he
    · rename_i hx; exact z4a (hk _ _ _ (by simp [Op.operands]) hx) he
    · cases he
  case nilCheck x =>
    split at he
    · obtain ⟨y, rfl, he⟩ := Option.bind_eq_some_iff.1 he
      cases he; rfl
    · obtain ⟨y, rfl, he⟩ := Option.bind_eq_some_iff.1 he
      cases he; rfl
    · rename_i hx
      obtain ⟨h1, h2⟩ := zd he
      cases h2
      simp only [show live (more k st).h _ = true from z1R (hk _ _ _ (by simp [Op.operands]) hx _ (Nat.beq_refl _)) h1, cond_true]
    · rename_i hx
      obtain ⟨h1, h2⟩ := zd he
      cases h2
      simp only [show live (more k st).h _ = true from z1R (hk _ _ _ (by simp [Op.operands]) hx _ (Nat.beq_refl _)) h1, cond_true]
    · rename_i hx
      split at he
      · rename_i ho
        cases he
        simp only [show atN (more k st).h _ = _ from hk _ _ _ (by simp [Op.operands]) hx _ (Nat.beq_refl _) _ ho]
      · cases he
    · cases he
  case binOp op t x y ty' =>
    split at he
    · exact z4c he
    · cases he
  case fieldAddr t x f =>
    split at he
    · rename_i hx; exact zSq (hk _ _ _ (by simp [Op.operands]) hx) he
    · cases he
  case indexAddr t x i =>
    split at he
    · rename_i hx _; exact zSp (hk _ _ _ (by simp [Op.operands]) hx) he
    · cases he
  case lookup t x i ok =>
    split at he
    · rename_i hx _; exact zZg (hk _ _ _ (by simp [Op.operands]) hx) he
    · cases he
  case call c =>
    obtain ⟨callee, args, argTypes⟩ := c
    simp only [zlp] at hs
    split at hs
    · rw [zUv] at he ⊢
      simp only [hrd] at he ⊢
      split at he
      · split at he
        · rename_i hx
          exact z6u (hk _ _ _ (by
            rename_i e1 _ _ _
            simp only [Op.operands, Call.operands]
            have : args = #[_] := Array.toList_inj.1 e1
            simp [this]) hx) he
        · cases he
      · cases he
    · cases hs
end
end Go.Ev
end
section
namespace Go.Ev
open Go.RowKit
set_option linter.unusedSimpArgs false
set_option linter.unusedVariables false
section
variable {P : Program} {nt : Nat} {F0 F G : FH} {w0 w : World} {st st' : St} {m : MM} {a : Act} {E : Env} {v : AV} {u : Value} {R : Type}
def Inv (P : Program) (nt : Nat) (F0 : FH) (w0 : World) (st : St) (a : Act) (w : World) : Prop := ∃ m F, Rel P nt F0 w0 st m F a w
theorem zCK {ops : Array Oper} {o : Oper} {b : Bool} (h : Rel P nt F0 w0 st m F a w) (hg : zmT ops.toList st.fr o = some b) : Region.wanted o (yielded ops a.tmps) = b := by
  unfold zmT at hg
  unfold Region.wanted
  cases hgd : o.guard with
  | none => rw [hgd] at hg; simpa using hg
  | some gw =>
    obtain ⟨g, want⟩ := gw
    rw [hgd] at hg
    simp only at hg ⊢
    have hd : zGA ops.toList g = (ops[g]?).bind (·.dst) := by unfold zGA; rw [qE, Array.getElem?_toList]
    rw [hd] at hg
    unfold yielded
    cases ht : (ops[g]?).bind (·.dst) with
    | none => rw [ht] at hg; cases hg
    | some d =>
      rw [ht] at hg
      simp only [Option.bind_some] at hg ⊢
      cases hl : look st.fr d with
      | none => rw [hl] at hg; cases hg
      | some x =>
        rw [hl] at hg
        have hr := h.fr d x hl
        split at hg
        · rename_i y hy
          cases hy
          cases hg
          have := zh.bool (st := st) hr
          cases hT : a.tmps[d]? with
          | none => simp [hT, undef] at this
          | some z => simp [hT] at this; subst this; simp
        · rename_i hy
          cases hy
          cases hg
          obtain ⟨arr, e, _⟩ := hr
          cases hT : a.tmps[d]? with
          | none => simp
          | some z => simp [hT] at e; subst e; simp
        · cases hg
theorem zUw {o : Oper} (h : zT1 E o = true) : ∀ d, o.dst = some d → d < E.nt := by
  intro d hd
  unfold zT1 at h
  rw [hd] at h
  simp only [Nat.blt_eq] at h
  exact h
theorem z7H {x y : Option R} {r : R} (h : both x y = some r) : x = some r ∧ y = some r := by
  unfold both at h
  split at h
  · rename_i e; exact ⟨h, e ▸ h⟩
  · cases h
theorem z7I (x : Option R) : both x x = x := by unfold both; rw [if_pos rfl]
theorem z7J {o : Oper} {k : AV → St → Option R} {r : R} (hE : z4 P G E) (hG : G.le F0) (h : Rel P nt F0 w0 st m F a w) (he : z5X E o.op o.type st k = some r) :
    (∃ p, zb8 false E o.op o.type st pk = some p ∧ k p.1 p.2 = some r) ∨ ∃ b : Bool, (execOp a.eval o).run P w = .ok (.value (.bool b)) w ∧ k (.dat .bool b) st = some r := by
  obtain ⟨dst, op, ty, pos, after, guard⟩ := o
  simp only at he ⊢
  unfold z5X at he
  split at he
  · split at he
    · rename_i t X Y ty' _ _ τ xs hY hX
      right
      obtain ⟨h1, he⟩ := zd he
      have hr := zG hE hG h hX
      obtain ⟨e, hu, _⟩ := (hE.types t _ (Env.is_spec h1)).sl
      obtain ⟨ad, cap, hp, _, hm⟩ := hr.sl
      have hq : a.eval Y = .slice none 0 0 := zIb hY
      have hb : ∀ b : Bool, (ad.isNone = b) → (execOp a.eval ⟨dst, .binOp .eql t X Y ty', ty, pos, after, guard⟩).run P w = .ok (.value (.bool b)) w := by
        intro b hb
        simp only [execOp]
        refine qc ?_
        rw [hp, hq]
        simp only [Sem.run_bind, yf .eql t X Y (p := .slice ad (List.length xs) cap) rfl, Result.andThen_ok]
        have h : ∀ k, (Op.equalIn (k + 1) t (.slice ad (List.length xs) cap) (.slice none 0 0)).run P w = .ok b w := fun k => by
          subst hb
          cases ad <;> simp [Op.equalIn, zl hu]
        have hrun : (Op.equal t (.slice ad (List.length xs) cap) (.slice none 0 0)).run P w = .ok b w := h 9999
        simp [binOp, hrun]
      cases hxs : List.isEmpty xs with
      | true =>
        rw [hxs] at he
        obtain ⟨e1, e2⟩ := z7H he
        refine ⟨ad.isNone, hb _ rfl, ?_⟩
        cases ad.isNone
        · exact e2
        · exact e1
      | false =>
        rw [hxs] at he
        obtain ⟨d, cc, rfl, _⟩ := hm (by rintro rfl; simp at hxs)
        exact ⟨false, hb _ rfl, he⟩
    · left
      rw [zqZ] at he
      exact Option.bind_eq_some_iff.1 he
  · left
    rw [zqZ] at he
    exact Option.bind_eq_some_iff.1 he
theorem z7K {ops : Array Oper} {Q : Exit → Act → World → Prop} {k : St → Option R} {r : R} (hE : z4 P G E) (hG : G.le F0) (hnt : E.nt = nt)
    (hQ : ∀ st a w, Inv P nt F0 w0 st a w → k st = some r → Q .normal a w) :
    ∀ (rest pre : List Oper) (st : St) (a : Act) (w : World), ops.toList = pre ++ rest → Inv P nt F0 w0 st a w → zT2 E ops.toList rest st k = some r → wpOps P ops Q (List.range' pre.length rest.length) a w := by
  intro rest
  induction rest with
  | nil => intro pre st a w _ hi he; exact hQ st a w hi he
  | cons o rest ih =>
    intro pre st a w hp ⟨m, F, h⟩ he
    have hget : ops[pre.length]? = some o := by rw [← Array.getElem?_toList, hp]; simp
    simp only [zT2] at he
    obtain ⟨hd, he⟩ := zd he
    have hd' : ∀ d, o.dst = some d → d < nt := fun d h => hnt ▸ zUw hd d h
    cases hg : zmT ops.toList st.fr o with
    | none => rw [hg] at he; cases he
    | some b =>
      rw [hg] at he
      have hw := zCK h hg
      simp only [List.length_cons, List.range'_succ]
      unfold wpOps
      simp only [hget, hw]
      have hnext := ih (pre ++ [o])
      simp only [List.length_append, List.length_cons, List.length_nil, List.append_assoc, List.singleton_append] at hnext
      cases b with
      | false =>
        simp only [Bool.false_eq_true, if_false]
        exact hnext _ _ _ hp ⟨m, F, h.put hd' zaN⟩ he
      | true =>
        simp only [if_true]
        left
        simp only [cond_true] at he
        rcases z7J hE hG h he with ⟨⟨v, st'⟩, h1, h2⟩ | ⟨b, h1, h2⟩
        · refine zSm hE hG h h1 _ _ ?_
          rintro u w' ⟨m', F', _, h3, h4⟩
          exact hnext _ _ _ hp ⟨m', F', h3.put hd' h4⟩ h2
        · refine qP.val (R := fun u' w' => u' = .bool b ∧ w' = w) h1 ⟨rfl, rfl⟩ _ _ ?_
          rintro u' w' ⟨rfl, rfl⟩
          exact hnext _ _ _ hp ⟨m, F, h.put (v := .dat .bool b) hd' (show ql P F .bool b (.bool b) from ⟨rfl, rfl⟩)⟩ h2
end
end Go.Ev
end
section
namespace Go.Ev
open Go.RowKit
set_option linter.unusedSimpArgs false
set_option linter.unusedVariables false
section
variable {R : Type} {E : Env}
def zUx (E : Env) (all : List Oper) (s s1 : St) (o : Oper) (v : AV) (d : Did) : Prop :=
  zT1 E o = true ∧ s1.fr = (s.put o.dst v).fr ∧
  ((zmT all s.fr o = some false ∧ v = .tup [] ∧ s1.h = s.h ∧ d.rd = false ∧ d.wr = false ∧ d.ch = false) ∨
   (zmT all s.fr o = some true ∧
    ((∃ fr' v0 st', znY s (zkT o) = (fr', true, d.rd) ∧ zb8 false E o.op o.type ⟨fr', []⟩ pk = some (v0, st') ∧ v = v0.shT s.h.length ∧ s1.h = s.h ++ st'.h.map (Obj.sh s.h.length) ∧ d.wr = !isNil st'.h ∧ d.ch = false ∧ d.lk = zs5 s o) ∨
     (∃ st', zlp o.op = true ∧ zb8 false E o.op o.type s pk = some (v, st') ∧ s1.h = st'.h ∧ d.rd = true ∧ d.wr = false ∧ d.ch = false ∧ d.lk = zs5 s o) ∨
     (∃ st', zb8 false E o.op o.type s pk = some (v, st') ∧ s1.h = st'.h ∧ d.rd = true ∧ d.wr = true ∧ d.ch = true ∧ d.cg = zWP E s o.op) ∨
     (∃ a vs z, z1n E o.op s = some (a, vs, z) ∧ v = .fld a vs ∧ s1.h = s.h ++ z ∧ d.rd = true ∧ d.wr = !isNil z ∧ d.ch = false ∧ d.lk = zs5 s o))))
def Apt (e d : Did) : Prop := (e.ch = true → d.wr = false ∧ (d.rd = true → apart e.cg d.lk = true)) ∧ (d.ch = true → e.wr = false ∧ (e.rd = true → apart d.cg e.lk = true))
def Ok (bs : List Nat) (e d : Did) : Prop := Nat.testBit ((atN bs d.i).getD 0) e.i = true ∨ Apt e d
theorem zn4 {bj : Nat} {d : Did} : ∀ {l : List Did}, zGC bj d l = true → ∀ e ∈ l, Nat.testBit bj e.i = true ∨ Apt e d
  | [], _, e, he => by simp at he
  | x :: l, h, e, he => by
    simp only [zGC] at h
    cases hb : Nat.testBit bj x.i with
    | true =>
      rw [hb] at h
      rcases List.mem_cons.1 he with rfl | he
      · exact .inl hb
      · exact zn4 h e he
    | false =>
      rw [hb] at h
      simp only [cond_false] at h
      cases h1 : (x.ch && (d.wr || (d.rd && !apart x.cg d.lk))) with
      | true => rw [h1] at h; cases h
      | false =>
        rw [h1] at h
        simp only [cond_false] at h
        cases h2 : (d.ch && (x.wr || (x.rd && !apart d.cg x.lk))) with
        | true => rw [h2] at h; cases h
        | false =>
          rw [h2] at h
          rcases List.mem_cons.1 he with rfl | he
          · refine .inr ⟨fun hx => ?_, fun hx => ?_⟩
            · rw [hx] at h1
              simp only [Bool.true_and, Bool.or_eq_false_iff, Bool.and_eq_false_iff, Bool.not_eq_false'] at h1
              exact ⟨h1.1, fun hr => by rw [hr] at h1; simpa using h1.2⟩
            · rw [hx] at h2
              simp only [Bool.true_and, Bool.or_eq_false_iff, Bool.and_eq_false_iff, Bool.not_eq_false'] at h2
              exact ⟨h2.1, fun hr => by rw [hr] at h2; simpa using h2.2⟩
          · exact zn4 h e he
theorem Apt.idle {e d : Did} (h1 : d.rd = false) (h2 : d.wr = false) (h3 : d.ch = false) : Apt e d := ⟨fun _ => ⟨h2, fun h => (by rw [h1] at h; cases h)⟩, fun h => (by rw [h3] at h; cases h)⟩
theorem Apt.idle' {e d : Did} (h1 : d.rd = false) (h2 : d.wr = false) (h3 : d.ch = false) : Apt d e := ⟨fun h => (by rw [h3] at h; cases h), fun _ => ⟨h2, fun h => (by rw [h1] at h; cases h)⟩⟩
theorem zYT {all : List Oper} {bs : List Nat} {k : St → Option R} {r : R} : ∀ (rest : List Oper) (j : Nat) (seen : List Did) (st : St), evD E all bs rest j seen st k = some r →
    ∃ (S : Nat → St) (V : Nat → AV) (D : Nat → Did), S j = st ∧ k (S (j + rest.length)) = some r ∧ (∀ i, (D i).i = i) ∧
      (∀ i o, rest[i]? = some o → zUx E all (S (j + i)) (S (j + i + 1)) o (V (j + i)) (D (j + i))) ∧
      (∀ i, i < rest.length → ∀ e ∈ seen, Ok bs e (D (j + i))) ∧
      (∀ i i', i < i' → i' < rest.length → Ok bs (D (j + i)) (D (j + i')))
  | [], j, seen, st, h => ⟨fun _ => st, fun _ => .dead, fun i => ⟨i, false, false, false, [], none⟩, rfl, h, fun _ => rfl, by simp, by simp, by simp⟩
  | o :: rest, j, seen, st, h => by
    have key : ∀ (s1 : St) (v : AV) (d : Did) (seen' : List Did), zUx E all st s1 o v d → d.i = j → (∀ e ∈ seen, Ok bs e d) → (seen' = d :: seen ∨ (seen' = seen ∧ d.rd = false ∧ d.wr = false ∧ d.ch = false)) → evD E all bs rest (j + 1) seen' s1 k = some r →
        ∃ (S : Nat → St) (V : Nat → AV) (D : Nat → Did), S j = st ∧ k (S (j + (o :: rest).length)) = some r ∧ (∀ i, (D i).i = i) ∧
          (∀ i o', (o :: rest)[i]? = some o' → zUx E all (S (j + i)) (S (j + i + 1)) o' (V (j + i)) (D (j + i))) ∧
          (∀ i, i < (o :: rest).length → ∀ e ∈ seen, Ok bs e (D (j + i))) ∧
          (∀ i i', i < i' → i' < (o :: rest).length → Ok bs (D (j + i)) (D (j + i'))) := by
      intro s1 v d seen' hs hd ho hse he
      obtain ⟨S, V, D, h1, h2, h3, h4, h5, h6⟩ := zYT rest (j + 1) seen' s1 he
      have hne : ∀ i, j + 1 + i ≠ j := fun i => by omega
      have hS : ∀ i, (if j + (i + 1) = j then st else S (j + (i + 1))) = S (j + 1 + i) := fun i => by rw [if_neg (by omega), show j + (i + 1) = j + 1 + i by omega]
      have hV : ∀ i, (if j + (i + 1) = j then v else V (j + (i + 1))) = V (j + 1 + i) := fun i => by rw [if_neg (by omega), show j + (i + 1) = j + 1 + i by omega]
      have hD : ∀ i, (if j + (i + 1) = j then d else D (j + (i + 1))) = D (j + 1 + i) := fun i => by rw [if_neg (by omega), show j + (i + 1) = j + 1 + i by omega]
      refine ⟨fun i => if i = j then st else S i, fun i => if i = j then v else V i, fun i => if i = j then d else D i, by simp, ?_, ?_, ?_, ?_, ?_⟩
      · simp only [List.length_cons, hS]; exact h2
      · intro i
        by_cases e : i = j
        · subst e; simp [hd]
        · simp [e, h3]
      · intro i o' hi
        cases i with
        | zero =>
          simp only [List.getElem?_cons_zero, Option.some.injEq] at hi
          subst hi
          simp only [Nat.add_zero, if_true]
          rw [if_neg (by omega), h1]
          exact hs
        | succ i =>
          rw [List.getElem?_cons_succ] at hi
          have := h4 i o' hi
          simp only [hS, hV, hD]
          rw [if_neg (by omega), show j + (i + 1) + 1 = j + 1 + i + 1 by omega]
          exact this
      · intro i hi e hes
        cases i with
        | zero => simp only [Nat.add_zero, if_true]; exact ho e hes
        | succ i =>
          simp only [hD]
          refine h5 i (by simpa using hi) e ?_
          rcases hse with rfl | ⟨rfl, _⟩
          · exact List.mem_cons_of_mem _ hes
          · exact hes
      · intro i i' hii hi'
        cases i' with
        | zero => omega
        | succ i' =>
          simp only [hD]
          cases i with
          | zero =>
            simp only [Nat.add_zero, if_true]
            rcases hse with rfl | ⟨_, g1, g2, g3⟩
            · exact h5 i' (by simpa using hi') d (by simp)
            · exact .inr (Apt.idle' g1 g2 g3)
          | succ i =>
            simp only [hD]
            exact h6 i i' (by omega) (by simpa using hi')
    simp only [evD] at h
    obtain ⟨hdst, h⟩ := zd h
    cases hg : zmT all st.fr o with
    | none => rw [hg] at h; cases h
    | some b =>
      rw [hg] at h
      simp only at h
      cases b with
      | false =>
        simp only [cond_false] at h
        refine key _ (.tup []) ⟨j, false, false, false, [], none⟩ seen ⟨hdst, rfl, .inl ⟨hg, rfl, ?_, rfl, rfl, rfl⟩⟩ rfl (fun e _ => .inr (Apt.idle rfl rfl rfl)) (.inr ⟨rfl, rfl, rfl, rfl⟩) h
        cases o.dst <;> rfl
      | true =>
        simp only [cond_true] at h
        cases hpu : (znY st (zkT o)).2.1 with
        | true =>
          rw [hpu] at h
          simp only [cond_true] at h
          rw [zqZ] at h
          obtain ⟨⟨v0, st'⟩, h1, h2⟩ := Option.bind_eq_some_iff.1 h
          obtain ⟨h3, h4⟩ := zd h2
          have hord := zn4 h3
          refine key _ (v0.shT st.h.length) ⟨j, (znY st (zkT o)).2.2, !isNil st'.h, false, zs5 st o, none⟩ _ ⟨hdst, ?_, .inr ⟨hg, .inl ⟨(znY st (zkT o)).1, v0, st', by rw [← hpu], h1, rfl, ?_, rfl, rfl, rfl⟩⟩⟩ rfl hord (.inl rfl) h4
          · cases o.dst <;> rfl
          · cases o.dst <;> rfl
        | false =>
          rw [hpu] at h
          simp only [cond_false] at h
          cases hb : z1n E o.op st with
          | some q =>
            obtain ⟨a, vs, z⟩ := q
            rw [hb] at h
            simp only at h
            obtain ⟨h3, h⟩ := zd h
            have hord := zn4 h3
            refine key _ (.fld a vs) ⟨j, true, !isNil z, false, zs5 st o, none⟩ _ ⟨hdst, ?_, .inr ⟨hg, .inr (.inr (.inr ⟨a, vs, z, hb, rfl, ?_, rfl, rfl, rfl, rfl⟩))⟩⟩ rfl hord (.inl rfl) h
            · cases o.dst <;> rfl
            · cases o.dst <;> rfl
          | none =>
          rw [hb] at h
          simp only at h
          cases hs : zlp o.op with
          | true =>
            rw [hs] at h
            simp only [cond_true] at h
            obtain ⟨h3, h⟩ := zd h
            have hord := zn4 h3
            rw [zqZ] at h
            obtain ⟨⟨v0, st'⟩, h1, h2⟩ := Option.bind_eq_some_iff.1 h
            have hf := zUu h1
            refine key _ v0 ⟨j, true, false, false, zs5 st o, none⟩ _ ⟨hdst, ?_, .inr ⟨hg, .inr (.inl ⟨st', hs, h1, ?_, rfl, rfl, rfl, rfl⟩)⟩⟩ rfl hord (.inl rfl) h2
            · cases o.dst <;> simp [St.put, hf]
            · cases o.dst <;> rfl
          | false =>
            rw [hs] at h
            simp only [cond_false] at h
            obtain ⟨h3, h⟩ := zd h
            have hord := zn4 h3
            rw [zqZ] at h
            obtain ⟨⟨v0, st'⟩, h1, h2⟩ := Option.bind_eq_some_iff.1 h
            have hf := zUu h1
            refine key _ v0 ⟨j, true, true, true, [], zWP E st o.op⟩ _ ⟨hdst, ?_, .inr ⟨hg, .inr (.inr (.inl ⟨st', h1, ?_, rfl, rfl, rfl, rfl⟩))⟩⟩ rfl hord (.inl rfl) h2
            · cases o.dst <;> simp [St.put, hf]
            · cases o.dst <;> rfl
theorem z7L {x : Nat} {u : Obj} : ∀ {b : Ty} {vs : List AV} {h : List Obj} {r : b.I × List Obj}, zWN b vs h = some r → atN h x = some u → x ∉ vs.flatMap AV.ids1 → atN r.2 x = some u := by
  intro b
  induction b with
  | unit => intro vs h r hz hx _; cases vs with
    | nil => cases hz; exact hx
    | cons _ _ => cases hz
  | pair a b _ ihb =>
    intro vs h r hz hx hn
    cases vs with
    | nil => cases hz
    | cons v vs =>
      simp only [zWN] at hz
      split at hz
      · rename_i y h1 hy
        split at hz
        · rename_i ys h2 hys
          cases hz
          simp only [List.flatMap_cons, List.mem_append, not_or] at hn
          refine ihb hys ?_ hn.2
          unfold zON at hy
          split at hy
          · obtain ⟨_, hy⟩ := zcX hy
            split at hy
            · cases hy; exact hx
            · cases hy
          · rename_i id
            split at hy
            · split at hy
              · cases hy
                have : id ≠ x := fun e => hn.1 (by simp [AV.ids1, e])
                rw [jy this]; exact hx
              · cases hy
            · cases hy
          · cases hy
        · cases hz
      · cases hz
  | _ => intro vs h r hz; cases vs <;> cases hz
theorem z7M {x : Nat} {u : Obj} {σ : Ty} {v : AV} {h : List Obj} {r : σ.I × List Obj} (hz : zSf σ v h = some r) (hx : atN h x = some u) (hn : x ∉ v.ids) : atN r.2 x = some u := by
  unfold zSf at hz
  split at hz
  · rename_i a b vs
    obtain ⟨_, hz⟩ := zd hz
    exact z7L (b := a) (r := r) hz hx hn
  · rename_i τ id
    unfold zON at hz
    simp only at hz
    split at hz
    · split at hz
      · cases hz
        have : id ≠ x := fun e => hn (by simp [AV.ids, AV.ids1, e])
        rw [jy this]; exact hx
      · cases hz
    · cases hz
  · cases hz
theorem z9j {s st' : St} {op : Op} {ty : TypeId} {v : AV} {l : List Nat} (hc : zWP E s op = some l) (he : zb8 false E op ty s pk = some (v, st')) {x : Nat} {u : Obj} (hx : atN s.h x = some u) (hn : x ∉ l) : atN st'.h x = some u := by
  unfold zWP at hc
  split at hc
  · rename_i t ps
    split at hc
    · rename_i τ hτ
      split at hc
      · rename_i w hps
        split at hc
        · rename_i r hr
          cases hc
          simp only [zb8, hτ, hps, hr] at he
          obtain ⟨_, he⟩ := zd he
          cases he
          simp only
          refine zCx ?_
          unfold zT0 at hr
          split at hr
          · rename_i heq
            cases heq
            exact z7M hr hx hn
          · cases hr
        · cases hc
      · cases hc
    · cases hc
  · cases hc
theorem z7N {acc : List Nat} : ∀ {es : List Edge} {i : Nat}, Nat.testBit (z5Y acc es) i = true → ∃ e ∈ es, Region.binds .any e = true ∧ (e.on = i ∨ ∃ b, atN acc e.on = some b ∧ Nat.testBit b i = true) := by
  have key : ∀ (es : List Edge) (s i : Nat), Nat.testBit (es.foldl (fun s e => cond (Region.binds .any e) ((s ||| 2 ^ e.on) ||| (atN acc e.on).getD 0) s) s) i = true → Nat.testBit s i = true ∨ ∃ e ∈ es, Region.binds .any e = true ∧ (e.on = i ∨ ∃ b, atN acc e.on = some b ∧ Nat.testBit b i = true) := by
    intro es
    induction es with
    | nil => intro s i h; exact .inl h
    | cons e es ih =>
      intro s i h
      rw [List.foldl_cons] at h
      rcases ih _ _ h with h1 | ⟨e', he', h1⟩
      · cases hb : Region.binds .any e with
        | false => rw [hb] at h1; exact .inl h1
        | true =>
          rw [hb] at h1
          simp only [cond_true, Nat.testBit_or, Bool.or_eq_true] at h1
          rcases h1 with (h1 | h1) | h1
          · exact .inl h1
          · rw [Nat.testBit_two_pow] at h1
            exact .inr ⟨e, by simp, hb, .inl (by simpa using h1)⟩
          · cases ha : atN acc e.on with
            | none => rw [ha] at h1; simp at h1
            | some b => rw [ha] at h1; exact .inr ⟨e, by simp, hb, .inr ⟨b, ha, h1⟩⟩
      · exact .inr ⟨e', by simp [he'], h1⟩
  intro es i h
  rcases key es 0 i h with h1 | h1
  · simp at h1
  · exact h1
theorem z6v : ∀ (l : List Oper) (acc : List Nat) (j : Nat) (o : Oper), l[j]? = some o → ∃ acc', atN (zye l acc) (acc.length + j) = some (z5Y acc' o.after.toList) ∧ ∀ x b, atN acc' x = some b → atN (zye l acc) x = some b := by
  have pre : ∀ (l : List Oper) (acc : List Nat) (x b : Nat), atN acc x = some b → atN (zye l acc) x = some b := by
    intro l
    induction l with
    | nil => intro acc x b h; exact h
    | cons o l ih => intro acc x b h; exact ih _ _ _ (zCx h)
  intro l
  induction l with
  | nil => intro acc j o h; simp at h
  | cons u l ih =>
    intro acc j o h
    cases j with
    | zero =>
      simp only [List.getElem?_cons_zero, Option.some.injEq] at h
      subst h
      refine ⟨acc, ?_, fun x b hx => pre l _ x b (zCx hx)⟩
      refine pre l _ _ _ ?_
      rw [qE]; simp
    | succ j =>
      rw [List.getElem?_cons_succ] at h
      obtain ⟨acc', h1, h2⟩ := ih (acc ++ [z5Y acc u.after.toList]) j o h
      refine ⟨acc', ?_, h2⟩
      simp only [List.length_append, List.length_cons, List.length_nil] at h1
      rw [show acc.length + (j + 1) = acc.length + (0 + 1) + j by omega]
      exact h1
theorem zCL {t : Nat} : ∀ {l : List Nat}, zOP t l = true ↔ t ∈ l
  | [] => by simp [zOP]
  | x :: l => by
    simp only [zOP, List.mem_cons]
    by_cases e : x = t
    · subst e; simp [beq_self]
    · rw [zgC e, cond_false, zCL]
      exact ⟨.inr, fun h => h.resolve_left fun h' => e h'.symm⟩
theorem zs6 {bj j : Nat} {o : Oper} : ∀ {l : List Oper} {i0 : Nat}, zCu bj j o l i0 = true → ∀ i u d, l[i]? = some u → u.dst = some d → (i0 + i = j ∨ o.dst ≠ some d) ∧ (d ∈ zkT o → Nat.testBit bj (i0 + i) = true ∧ i0 + i < j)
  | [], _, _, i, u, d, hi, _ => by simp at hi
  | x :: l, i0, h, i, u, d, hi, hd => by
    simp only [zCu, Bool.and_eq_true] at h
    cases i with
    | zero =>
      simp only [List.getElem?_cons_zero, Option.some.injEq] at hi
      subst hi
      rw [hd] at h
      simp only [Bool.and_eq_true, Bool.or_eq_true, Bool.not_eq_true'] at h
      obtain ⟨⟨h1, h2⟩, _⟩ := h
      refine ⟨?_, fun hm => ?_⟩
      · rcases h1 with h1 | h1
        · exact .inl (Nat.eq_of_beq_eq_true h1)
        · right
          intro he
          rw [he] at h1
          simp [beq_self] at h1
      · rcases h2 with h2 | h2
        · rw [zCL.2 hm] at h2; cases h2
        · exact ⟨h2.1, by simpa using h2.2⟩
    | succ i =>
      rw [List.getElem?_cons_succ] at hi
      have := zs6 h.2 i u d hi hd
      rw [show i0 + (i + 1) = i0 + 1 + i by omega]
      exact this
theorem zyg {bs : List Nat} {all : List Oper} (h : zT3 bs all = true) {j : Nat} {o : Oper} (hj : all[j]? = some o) :
    zCu ((atN bs j).getD 0) j o all 0 = true ∧ (∀ g b, o.guard = some (g, b) → Nat.testBit ((atN bs j).getD 0) g = true ∧ g < j) ∧ ∀ e ∈ o.after.toList, Region.binds .any e = true → e.on < j := by
  have key : ∀ (l : List Oper) (j0 j : Nat) (o : Oper), zGB bs all l j0 = true → l[j]? = some o → zCu ((atN bs (j0 + j)).getD 0) (j0 + j) o all 0 = true ∧ (∀ g b, o.guard = some (g, b) → Nat.testBit ((atN bs (j0 + j)).getD 0) g = true ∧ g < j0 + j) ∧ ∀ e ∈ o.after.toList, Region.binds .any e = true → e.on < j0 + j := by
    intro l
    induction l with
    | nil => intro j0 j o _ h; simp at h
    | cons x l ih =>
      intro j0 j o h hj
      simp only [zGB, Bool.and_eq_true] at h
      cases j with
      | zero =>
        simp only [List.getElem?_cons_zero, Option.some.injEq] at hj
        subst hj
        obtain ⟨⟨⟨h1, h2⟩, h3⟩, _⟩ := h
        refine ⟨h1, fun g b hg => ?_, fun e he hb => ?_⟩
        · rw [hg] at h2
          simp only [Bool.and_eq_true, Nat.blt_eq] at h2
          exact h2
        · have := List.all_eq_true.1 h3 e he
          simp only [hb, Bool.not_true, Bool.false_or, Nat.blt_eq] at this
          exact this
      | succ j =>
        rw [List.getElem?_cons_succ] at hj
        have := ih (j0 + 1) j o h.2 hj
        rw [show j0 + (j + 1) = j0 + 1 + j by omega]
        exact this
  have := key all 0 j o h hj
  simpa using this
end
end Go.Ev
end
section
namespace Go.Ev
open Go.RowKit
set_option linter.unusedSimpArgs false
set_option linter.unusedVariables false
section
variable {P : Program} {nt : Nat} {F0 F G : FH} {w0 w : World} {st st' : St} {m : MM} {a : Act} {E : Env} {v : AV} {u : Value} {R : Type}
theorem zUy {τ : Ty} {x : τ.I} (hz : vI true st v = some ⟨τ, x, st'⟩) (h : Rel P nt F0 w0 st m F a w) (hv : qm P st.h m F v u) : ql P F τ x u := by
  cases v with
  | dat τ' y =>
    simp only [vI, Option.some.injEq] at hz
    cases hz
    exact hv
  | clip τ' ys =>
    simp only [vI, Option.some.injEq] at hz
    cases hz
    obtain ⟨ad, rfl, h1⟩ := hv
    exact ⟨⟨ad, _, rfl, Nat.le_refl _, h1⟩, rfl⟩
  | ow id =>
    simp only [vI] at hz
    split at hz
    · rename_i σ xs ho
      cases hz
      have hu := qm.owAt ho rfl hv
      cases hmi : m id with
      | none =>
        rw [hmi] at hu
        obtain ⟨hl, ad, rfl⟩ := hu
        obtain rfl := List.length_eq_zero_iff.1 hl
        exact .sl_nil
      | some bn =>
        obtain ⟨b, n⟩ := bn
        rw [hmi] at hu
        obtain ⟨cap, hn, hcap, rfl⟩ := hu
        obtain ⟨el, fr, cs, c, d, h1, h2, h3, h4, h5⟩ := h.row ho hmi
        exact .sl_of_row h5 h3 h4 hcap
    · cases hz
    · cases hz
    · cases hz
  | bp id p =>
    cases p with
    | cons _ _ => simp [vI] at hz
    | nil =>
      simp only [vI] at hz
      split at hz
      · rename_i σ y ho
        cases hz
        obtain ⟨b, n, off, hmi, rfl, ρ, h3⟩ := (show zh P st.h m F (.bp id []) u from hv).bpAt ho
        simp only [qS, Option.some.injEq, Prod.mk.injEq] at h3
        obtain ⟨rfl, rfl⟩ := h3
        obtain ⟨b', n', el, fr, cs, h4, h5, h6, h7⟩ := h.obs id _ ho
        rw [hmi] at h4
        cases h4
        exact ⟨⟨_, _, rfl, ⟨rfl, cs, h7, fun j v hj => by rw [Nat.zero_add, ← Array.getElem?_toList]; exact hj⟩, h6⟩, rfl⟩
      · cases hz
      · cases hz
  | _ => simp [vI] at hz
theorem z9k {σ : Ty} {x : σ.I} {c : List Value} (hz : zdV true σ st v = some (x, st')) (h : Rel P nt F0 w0 st m F a w) (hv : zbq P st.h m F σ v c) : Rep P F σ x c ∧ st' = st := by
  have hsame := (zRC (zwb.refl _ _) hz).2
  simp only at hsame
  unfold zdV at hz
  split at hz
  · rename_i τ y st1 hz1
    split at hz
    · rename_i z hc
      cases hz
      obtain ⟨rfl, rfl⟩ := z7 hc
      refine ⟨?_, hsame⟩
      cases v with
      | dat τ' y' =>
        simp only [vI, Option.some.injEq] at hz1
        cases hz1
        exact hv.2
      | ow id =>
        obtain ⟨ρ, u, rfl, rfl, h1, _, ad, l, cc, rfl⟩ := hv
        have := (zUy hz1 h h1).1
        simpa [Value.cells] using this
      | _ => exact hv.elim
    · cases hz
  · cases hz
theorem z8E : ∀ {b : Ty} {vs : List AV} {x : b.I} {cs : List Value} {st st' : St}, yc true b vs st = some (x, st') → Rel P nt F0 w0 st m F a w → qw P st.h m F b vs cs → Rep P F b x cs := by
  intro b
  induction b with
  | unit =>
    intro vs x cs st st' hz h hv
    cases vs with
    | nil => exact hv
    | cons _ _ => exact hv.elim
  | pair a b _ ihb =>
    intro vs x cs st st' hz h hv
    cases vs with
    | nil => exact hv.elim
    | cons v vs =>
      obtain ⟨c, d, e, h1, h2⟩ := hv
      simp only [yc] at hz
      split at hz
      · rename_i y st1 hy
        split at hz
        · rename_i ys st2 hys
          cases hz
          obtain ⟨g1, rfl⟩ := z9k hy h h1
          exact ⟨c, d, e, g1, ihb hys h h2⟩
        · cases hz
      · cases hz
  | _ => intro vs x cs st st' hz h hv; cases vs <;> exact hv.elim
theorem qai {τ : Ty} {x : τ.I} (hz : frz true st v = some ⟨τ, x, st'⟩) (h : Rel P nt F0 w0 st m F a w) (hv : zh P st.h m F v u) : ql P F τ x u := by
  cases v with
  | fld b vs =>
    simp only [frz] at hz
    split at hz
    · rename_i y st1 hy
      cases hz
      obtain ⟨cs, rfl, h1⟩ := (show zT P st.h m F (.fld b vs) u from hv)
      exact ⟨z8E (b := b) hy h h1, rfl⟩
    · cases hz
  | dat τ x => exact zUy (v := .dat τ x) hz h hv
  | clip τ x => exact zUy (v := .clip τ x) hz h hv
  | bp id p => exact zUy (v := .bp id p) hz h hv
  | ow id => exact zUy (v := .ow id) hz h hv
  | _ => cases hz
theorem z6w {h k : List Obj} {fr : List (Nat × AV)} (hr : Rel P nt F0 w0 ⟨fr, k⟩ m F a w) (hs : Sup h k v) (hv : zh P k m F v u) : zh P k m F (zmU h v).1 u := by
  unfold zmU
  cases hp : v.pure with
  | true => exact hv
  | false =>
    simp only [cond_false]
    split
    · rename_i τ x s hz
      have h1 := (z8C (st := ⟨[], h⟩) (k := k) hs hz).1
      exact qai (st := ⟨[], k⟩) h1 (hr.frames (fr := []) (fun t v ht => by simp [look] at ht)) hv
    · exact hv
theorem z4d {h : List Obj} (hp : (zmU h v).2 = false) : (zmU h v).1 = v := by
  unfold zmU at hp ⊢
  cases hq : v.pure with
  | true => rfl
  | false =>
    rw [hq] at hp
    simp only [cond_false] at hp
    split at hp <;> cases hp
theorem zLW {s : St} : ∀ {l : List Nat} {fr' : List (Nat × AV)} {pu rs : Bool}, znY s l = (fr', pu, rs) →
    ∀ t v', look fr' t = some v' → t ∈ l ∧ ∃ v, look s.fr t = some v ∧ v' = (zmU s.h v).1 ∧ (rs = false → v' = v) ∧ (pu = true → v'.pure = true)
  | [], _, _, _, h, t, v', ht => by cases h; simp [look] at ht
  | x :: l, fr', pu, rs, h, t, v', ht => by
    simp only [znY] at h
    cases hx : look s.fr x with
    | none =>
      rw [hx] at h
      obtain ⟨h1, h2⟩ := zLW h t v' ht
      exact ⟨List.mem_cons_of_mem _ h1, h2⟩
    | some v =>
      rw [hx] at h
      simp only [Prod.mk.injEq] at h
      obtain ⟨rfl, rfl, rfl⟩ := h
      by_cases e : x = t
      · subst e
        simp only [look, beq_self, cond_true, Option.some.injEq] at ht
        subst ht
        refine ⟨by simp, v, hx, rfl, fun hr => ?_, fun hp => ?_⟩
        · simp only [Bool.or_eq_false_iff] at hr
          exact z4d hr.1
        · simp only [Bool.and_eq_true] at hp
          exact hp.1
      · simp only [look, zgC e, cond_false] at ht
        obtain ⟨h1, v2, h2, h3, h4, h5⟩ := zLW (Prod.ext rfl (Prod.ext rfl rfl) : znY s l = ((znY s l).1, (znY s l).2.1, (znY s l).2.2)) t v' ht
        refine ⟨List.mem_cons_of_mem _ h1, v2, h2, h3, fun hr => h4 ?_, fun hp => h5 ?_⟩
        · simp only [Bool.or_eq_false_iff] at hr
          exact hr.2
        · simp only [Bool.and_eq_true] at hp
          exact hp.2
theorem zh.nowhere {h2 : List Obj} {m2 : MM} {n : Nat} (hv : zh P [] m F v u) : zh P h2 m2 F (v.shT n) u := by
  have key : ∀ {x : AV} {y : Value}, zT P [] m F x y → zT P h2 m2 F (x.sh n) y := by
    intro x y hx
    have one : ∀ {x : AV} {y : Value}, qm P [] m F x y → qm P h2 m2 F (x.sh1 n) y := by
      intro x y hx
      cases x with
      | dat τ z => exact hx
      | clip τ z => exact hx
      | dead => trivial
      | tup vs => exact hx.elim
      | fld b vs => exact hx.elim
      | bp id p => rcases hx with hg | ⟨b, n, o, off, h1, ho, _⟩ <;> simp_all [atN]
      | rp id i p => rcases hx with hg | ⟨b, n, o, τ, len, off, σ, h1, ho, _⟩ <;> simp_all [atN]
      | ow id => rcases hx with hg | ⟨o, τ, len, ho, _⟩ <;> simp_all [atN]
      | om id => rcases hx with hg | ⟨b, n, κ, σ, es, h1, ho, _⟩ <;> simp_all [atN]
      | ds id i p => obtain ⟨o, ho, _⟩ := hx; simp [atN] at ho
      | dp id i p j q => obtain ⟨o, ho, _⟩ := hx; simp [atN] at ho
    have zLE : ∀ {b : Ty} {vs : List AV} {cs : List Value}, qw P [] m F b vs cs → qw P h2 m2 F b (vs.map (AV.sh1 n)) cs := by
      intro b
      induction b with
      | unit => intro vs cs hv; cases vs with
        | nil => exact hv
        | cons _ _ => exact hv.elim
      | pair a b _ ihb =>
        intro vs cs hv
        cases vs with
        | nil => exact hv.elim
        | cons v vs =>
          obtain ⟨c, d, e, h1, h2⟩ := hv
          refine ⟨c, d, e, ?_, ihb h2⟩
          cases v with
          | dat τ x => exact h1
          | ow id =>
            obtain ⟨σ, u, _, _, h3, _⟩ := h1
            rcases h3 with hg | ⟨o, τ, len, ho, _⟩
            · simp [atN] at hg
            · simp [atN] at ho
          | _ => exact h1.elim
      | _ => intro vs cs hv; cases vs <;> exact hv.elim
    cases x with
    | fld b vs => obtain ⟨cs, e, h1⟩ := hx; exact ⟨cs, e, zLE h1⟩
    | tup vs => exact hx.elim
    | dat τ z => exact hx
    | clip τ z => exact hx
    | dead => trivial
    | bp id p => exact one (x := .bp id p) hx
    | rp id i p => exact one (x := .rp id i p) hx
    | ow id => exact one (x := .ow id) hx
    | om id => exact one (x := .om id) hx
    | ds id i p => exact one (x := .ds id i p) hx
    | dp id i p j q => exact one (x := .dp id i p j q) hx
  cases v with
  | tup vs =>
    obtain ⟨arr, e, h1, h3⟩ := hv
    refine ⟨arr, e, by simpa using h1, fun i x hx => ?_⟩
    rw [List.getElem?_map] at hx
    obtain ⟨y, hy, rfl⟩ := Option.map_eq_some_iff.1 hx
    obtain ⟨z, hz, hyz⟩ := h3 i y hy
    exact ⟨z, hz, key hyz⟩
  | _ =>
    rw [zh.eq1 (by intro vs e; cases e)] at hv
    exact zh.of1 (key hv)
def zyh (f : Nat → Bool) : Nat → Nat
  | 0 => 0
  | n + 1 => zyh f n + cond (f n) 0 1
theorem zYU {f : Nat → Bool} : ∀ {n : Nat}, zyh f n = 0 → ∀ i, i < n → f i = true
  | n + 1, h, i, hi => by
    simp only [zyh] at h
    by_cases e : i = n
    · subst e
      cases hf : f i with
      | true => rfl
      | false => rw [hf] at h; simp at h
    · exact zYU (n := n) (by omega) i (by omega)
theorem left_step {f g : Nat → Bool} {j : Nat} : ∀ {n : Nat}, f j = false → g j = true → (∀ i, i ≠ j → g i = f i) → zyh f n = zyh g n + (if j < n then 1 else 0)
  | 0, _, _, _ => by simp [zyh]
  | n + 1, h1, h2, h3 => by
    have ih := left_step (n := n) h1 h2 h3
    simp only [zyh]
    by_cases e : n = j
    · subst e
      simp only [h1, h2, cond_true, cond_false]
      simp at ih
      simp [ih]
    · rw [h3 n e, ih]
      by_cases h4 : j < n
      · have h5 : j < n + 1 := by omega
        simp only [if_pos h4, if_pos h5]
        generalize cond (f n) 0 1 = z
        omega
      · have h5 : ¬ j < n + 1 := by omega
        simp only [if_neg h4, if_neg h5]
        generalize cond (f n) 0 1 = z
        omega
theorem zYV {f : Nat → Bool} : ∀ {n : Nat}, (∀ i, i < n → f i = false) → zyh f n = n
  | 0, _ => rfl
  | n + 1, h => by
    have ih := zYV (n := n) (fun i hi => h i (by omega))
    simp only [zyh, ih, h n (by omega), cond_false]
theorem z6x {q : Bool} {op : Op} {ty : TypeId} (hs : zlp op = true) (he : zb8 q E op ty st pk = some (v, st')) : st' = st := by
  have := zYS (k := st.h) hs (fun x θ v _ _ => zwb.refl _ _) he
  rw [show more st.h st = st from rfl, he] at this
  cases this
  rfl
structure Hol (n : Nat) (S : Nat → St) (D : Nat → Did) (done : Nat → Bool) (c e : Nat) (H : List Obj) : Prop where
  ce : c ≤ e
  en : e ≤ n
  chg : ∀ i, i < n → (D i).ch = true → (done i = true ↔ i < c)
  quiet : ∀ i, c ≤ i → i < e → (D i).ch = false
  fst : c = 0 ∨ (0 < c ∧ (D (c - 1)).ch = true)
  lst : e = n ∨ (D e).ch = true
  len : H.length = (S e).h.length
  hol : ∀ i, c ≤ i → i < e → done i = false → ∀ x, (S i).h.length ≤ x → x < (S (i + 1)).h.length → atN H x = some .hole
  own : ∀ x o, atN (S e).h x = some o → (∀ i, c ≤ i → i < e → (S i).h.length ≤ x → x < (S (i + 1)).h.length → done i = true) → atN H x = some o
structure Mid (P : Program) (nt : Nat) (F0 : FH) (w0 : World) (all : List Oper) (bs : List Nat) (S : Nat → St) (V : Nat → AV) (D : Nat → Did) (done : Nat → Bool) (a : Act) (w : World) : Prop where
  down : ∀ j, j < all.length → done j = true → ∀ i, Nat.testBit ((atN bs j).getD 0) i = true → done i = true
  rel : ∃ c e H, Hol all.length S D done c e H ∧ ∃ fr m F, Rel P nt F0 w0 ⟨fr, H⟩ m F a w ∧
    (∀ (i : Nat) (o : Oper) (d : Nat), all[i]? = some o → done i = true → o.dst = some d → look fr d = some (V i)) ∧
    (∀ t, (∀ (i : Nat) (o : Oper), all[i]? = some o → o.dst ≠ some t) → look fr t = look (S 0).fr t)
structure Reg (E : Env) (all : List Oper) (bs : List Nat) (S : Nat → St) (V : Nat → AV) (D : Nat → Did) : Prop where
  data : zT3 bs all = true
  bits : bs = zye all []
  id : ∀ i, (D i).i = i
  step : ∀ i o, all[i]? = some o → zUx E all (S i) (S (i + 1)) o (V i) (D i)
  ok : ∀ i i', i < i' → i' < all.length → Ok bs (D i) (D i')
section
variable {all : List Oper} {bs : List Nat} {S : Nat → St} {V : Nat → AV} {D : Nat → Did} {done : Nat → Bool}
theorem Reg.chwr (g : Reg E all bs S V D) {i : Nat} (hi : i < all.length) (hc : (D i).ch = true) : (D i).wr = true := by
  obtain ⟨_, _, h⟩ := g.step i all[i] (List.getElem?_eq_getElem hi)
  rcases h with ⟨_, _, _, _, _, h⟩ | ⟨_, ⟨_, _, _, _, _, _, _, _, h, _⟩ | ⟨_, _, _, _, _, _, h, _⟩ | ⟨_, _, _, _, h, _⟩ | ⟨_, _, _, _, _, _, _, _, h, _⟩⟩
  · rw [h] at hc; cases hc
  · rw [h] at hc; cases hc
  · rw [h] at hc; cases hc
  · exact h
  · rw [h] at hc; cases hc
theorem Reg.quiet (g : Reg E all bs S V D) {i : Nat} (hi : i < all.length) (hq : (D i).wr = false) : (S (i + 1)).h = (S i).h := by
  obtain ⟨_, _, h⟩ := g.step i all[i] (List.getElem?_eq_getElem hi)
  rcases h with ⟨_, _, h, _⟩ | ⟨_, ⟨_, _, st', _, _, _, h1, h2, _⟩ | ⟨st', h1, h2, h3, _⟩ | ⟨_, _, _, _, h, _⟩ | ⟨_, _, z, _, _, h1, _, h2, _⟩⟩
  · exact h
  · rw [h2] at hq
    cases hs : st'.h with
    | nil => rw [h1, hs]; simp
    | cons x l => rw [hs] at hq; cases hq
  · rw [h3, z6x h1 h2]
  · rw [h] at hq; cases hq
  · rw [h2] at hq
    cases z with
    | nil => rw [h1]; simp
    | cons x l => cases hq
theorem Reg.grow (g : Reg E all bs S V D) {i : Nat} (hi : i < all.length) (hq : (D i).ch = false) : ∃ k, (S (i + 1)).h = (S i).h ++ k := by
  cases hw : (D i).wr with
  | false => exact ⟨[], by rw [g.quiet hi hw]; simp⟩
  | true =>
    obtain ⟨_, _, h⟩ := g.step i all[i] (List.getElem?_eq_getElem hi)
    rcases h with ⟨_, _, _, _, h, _⟩ | ⟨_, ⟨_, _, st', _, _, _, h1, h2, _⟩ | ⟨st', _, _, _, _, h, _⟩ | ⟨_, _, _, _, _, h, _⟩ | ⟨_, _, z, _, _, h1, _⟩⟩
    · rw [h] at hw; cases hw
    · exact ⟨_, h1⟩
    · rw [h] at hw; cases hw
    · rw [h] at hq; cases hq
    · exact ⟨_, h1⟩
theorem Reg.grows (g : Reg E all bs S V D) {j : Nat} : ∀ {c : Nat}, j ≤ c → c ≤ all.length → (∀ i, j ≤ i → i < c → (D i).ch = false) → ∃ k, (S c).h = (S j).h ++ k := by
  intro c
  induction c with
  | zero => intro h _ _; exact ⟨[], by rw [Nat.le_zero.1 h]; simp⟩
  | succ c ih =>
    intro h hl hq
    by_cases e : j = c + 1
    · exact ⟨[], by rw [e]; simp⟩
    · obtain ⟨k, hk⟩ := ih (by omega) (by omega) fun i h1 h2 => hq i h1 (by omega)
      obtain ⟨k', hk'⟩ := g.grow (i := c) (by omega) (hq c (by omega) (by omega))
      exact ⟨k ++ k', by rw [hk', hk, List.append_assoc]⟩
structure Next (all : List Oper) (bs : List Nat) (done : Nat → Bool) (j : Nat) : Prop where
  lt : j < all.length
  un : done j = false
  bef : ∀ i, Nat.testBit ((atN bs j).getD 0) i = true → done i = true
theorem Reg.pass (g : Reg E all bs S V D) (hd : ∀ j, j < all.length → done j = true → ∀ i, Nat.testBit ((atN bs j).getD 0) i = true → done i = true) {j : Nat} (hn : Next all bs done j) (hf : (D j).wr = true) {c e : Nat} {H : List Obj} (hh : Hol all.length S D done c e H) : c ≤ j ∧ j ≤ e := by
  constructor
  · rcases Nat.lt_or_ge j c with h | h
    · exfalso
      rcases hh.fst with h0 | ⟨h0, h1⟩
      · omega
      · have hlt : c - 1 < all.length := by have := hh.ce; have := hh.en; omega
        have hdn : done (c - 1) = true := (hh.chg _ hlt h1).2 (by omega)
        by_cases e1 : j = c - 1
        · subst e1; rw [hn.un] at hdn; cases hdn
        · rcases g.ok j (c - 1) (by omega) hlt with h2 | h2
          · rw [g.id, g.id] at h2
            have := hd _ hlt hdn j h2
            rw [hn.un] at this; cases this
          · have h3 := (h2.2 h1).1
            rw [h3] at hf; cases hf
    · exact h
  · rcases Nat.lt_or_ge e j with h | h
    · exfalso
      have hlt := hn.lt
      rcases hh.lst with h0 | h0
      · have := hh.en; omega
      · rcases g.ok e j h hlt with h2 | h2
        · rw [g.id, g.id] at h2
          have h3 := (hh.chg e (by omega) h0).1 (hn.bef _ h2)
          have := hh.ce
          omega
        · have h3 := (h2.1 h0).1
          rw [h3] at hf; cases hf
    · exact h
theorem Reg.growLen (g : Reg E all bs S V D) {c e : Nat} {H : List Obj} (hh : Hol all.length S D done c e H) {i j : Nat} (hc : c ≤ i) (hij : i ≤ j) (hj : j ≤ e) : ∃ k, (S j).h = (S i).h ++ k := by
  induction j with
  | zero => obtain rfl : i = 0 := by omega
            exact ⟨[], by simp⟩
  | succ j ih =>
    by_cases e1 : i = j + 1
    · subst e1; exact ⟨[], by simp⟩
    · obtain ⟨k, hk⟩ := ih (by omega) (by omega)
      obtain ⟨k', hk'⟩ := g.grow (i := j) (by have := hh.en; omega) (hh.quiet j (by omega) (by omega))
      exact ⟨k ++ k', by rw [hk', hk, List.append_assoc]⟩
theorem zs7 {α : Type} {a b k : List α} (h : a = b ++ k) : b.length ≤ a.length := by rw [h]; simp
theorem Reg.sees (g : Reg E all bs S V D) {c e j : Nat} {H : List Obj} (hh : Hol all.length S D done c e H) (hcj : c ≤ j) (hje : j ≤ e) {x : Nat} {o : Obj} (ho : atN (S j).h x = some o) (hx : atN H x ≠ some .hole) : atN H x = some o := by
  obtain ⟨k, hk⟩ := g.growLen hh hcj hje (Nat.le_refl e)
  refine hh.own x o (by rw [hk]; exact zCx ho) fun i h1 h2 h3 h4 => ?_
  cases hd : done i with
  | true => rfl
  | false => exact absurd (hh.hol i h1 h2 hd x h3 h4) hx
theorem Reg.full (g : Reg E all bs S V D) {c e : Nat} {H : List Obj} (hh : Hol all.length S D done c e H) (hall : ∀ i, c ≤ i → i < e → (D i).wr = true → done i = true) : H = (S e).h := by
  apply List.ext_getElem?
  intro x
  cases hx : (S e).h[x]? with
  | none =>
    have : (S e).h.length ≤ x := by simpa using hx
    have hl := hh.len
    rw [List.getElem?_eq_none_iff]; omega
  | some o =>
    rw [← qE]
    rw [← qE] at hx
    refine hh.own x o hx fun i h1 h2 h3 h4 => ?_
    cases hw : (D i).wr with
    | true => exact hall i h1 h2 hw
    | false =>
      have := g.quiet (i := i) (by have := hh.en; omega) hw
      rw [this] at h4
      omega
theorem Reg.before (g : Reg E all bs S V D) {j : Nat} (hn : Next all bs done j) (hc : (D j).ch = true) {i : Nat} (hi : i < j) (hw : (D i).wr = true) : done i = true := by
  rcases g.ok i j hi hn.lt with h | h
  · rw [g.id, g.id] at h; exact hn.bef i h
  · have := (h.2 hc).1
    rw [this] at hw; cases hw
theorem apart_spec {o : Option (List Nat)} {k : List Nat} (h : apart o k = true) {x : Nat} (hx : x ∈ k) : ∃ l, o = some l ∧ x ∉ l := by
  cases o with
  | none => cases h
  | some l =>
    refine ⟨l, rfl, fun hl => ?_⟩
    have := List.all_eq_true.1 h x hx
    rw [zCL.2 hl] at this
    cases this
theorem Reg.keeps (g : Reg E all bs S V D) {i : Nat} (hi : i < all.length) {x : Nat} {o : Obj} (hx : atN (S i).h x = some o) (hc : (D i).ch = true → ∃ l, (D i).cg = some l ∧ x ∉ l) : atN (S (i + 1)).h x = some o := by
  cases hch : (D i).ch with
  | false =>
    obtain ⟨k, hk⟩ := g.grow hi hch
    rw [hk]; exact zCx hx
  | true =>
    obtain ⟨l, hl, hn⟩ := hc hch
    obtain ⟨_, _, h⟩ := g.step i all[i] (List.getElem?_eq_getElem hi)
    rcases h with ⟨_, _, _, _, _, h⟩ | ⟨_, ⟨_, _, _, _, _, _, _, _, h, _⟩ | ⟨_, _, _, _, _, _, h, _⟩ | ⟨st', hev, hh, _, _, _, hcg⟩ | ⟨_, _, _, _, _, _, _, _, h, _⟩⟩
    · rw [h] at hch; cases hch
    · rw [h] at hch; cases hch
    · rw [h] at hch; cases hch
    · rw [hl] at hcg
      rw [hh]
      exact z9j hcg.symm hev hx hn
    · rw [h] at hch; cases hch
theorem Reg.looks (g : Reg E all bs S V D) (hd : ∀ j, j < all.length → done j = true → ∀ i, Nat.testBit ((atN bs j).getD 0) i = true → done i = true) {j : Nat} (hn : Next all bs done j) (hr : (D j).rd = true) {c e : Nat} {H : List Obj} (hh : Hol all.length S D done c e H) {x : Nat} {o o' : Obj}
    (hx : x ∈ (D j).lk) (ho : atN (S j).h x = some o) (hH : atN H x = some o') (hne : o' ≠ .hole) : atN H x = some o := by
  have hne' : atN H x ≠ some .hole := by rw [hH]; intro e; cases e; exact hne rfl
  have hlt := hn.lt
  rcases Nat.lt_or_ge j c with h1 | h1
  ·
    have key : ∀ i, j ≤ i → i ≤ c → atN (S i).h x = some o := by
      intro i
      induction i with
      | zero => intro h2 _; obtain rfl : j = 0 := by omega
                exact ho
      | succ i ih =>
        intro h2 h3
        by_cases e1 : j = i + 1
        · rw [← e1]; exact ho
        · refine g.keeps (by have := hh.ce; have := hh.en; omega) (ih (by omega) (by omega)) fun hch => ?_
          have hil : i < all.length := by have := hh.ce; have := hh.en; omega
          have hdi : done i = true := (hh.chg i hil hch).2 (by omega)
          have hne2 : j ≠ i := fun e2 => by subst e2; rw [hn.un] at hdi; cases hdi
          rcases g.ok j i (by omega) hil with h4 | h4
          · rw [g.id, g.id] at h4
            have := hd i hil hdi j h4
            rw [hn.un] at this; cases this
          · exact apart_spec ((h4.2 hch).2 hr) hx
    exact g.sees hh (Nat.le_refl c) hh.ce (key c (by omega) (Nat.le_refl c)) hne'
  · rcases Nat.lt_or_ge e j with h2 | h2
    ·
      have hxe : x < (S e).h.length := by rw [← hh.len]; exact vW hH
      obtain ⟨u, hu⟩ : ∃ u, atN (S e).h x = some u := ⟨(S e).h[x], by rw [qE, List.getElem?_eq_getElem hxe]⟩
      have key : ∀ i, e ≤ i → i ≤ j → atN (S i).h x = some u := by
        intro i
        induction i with
        | zero => intro h3 _; obtain rfl : e = 0 := by omega
                  exact hu
        | succ i ih =>
          intro h3 h4
          by_cases e1 : e = i + 1
          · rw [← e1]; exact hu
          · refine g.keeps (by omega) (ih (by omega) (by omega)) fun hch => ?_
            have hil : i < all.length := by omega
            rcases g.ok i j (by omega) hlt with h5 | h5
            · rw [g.id, g.id] at h5
              have h6 := (hh.chg i hil hch).1 (hn.bef i h5)
              have := hh.ce
              omega
            · exact apart_spec ((h5.1 hch).2 hr) hx
      have h3 := key j (by omega) (Nat.le_refl j)
      rw [ho] at h3
      cases h3
      exact g.sees hh hh.ce (Nat.le_refl e) hu hne'
    · exact g.sees hh h1 h2 ho hne'
theorem z9l (D : Nat → Did) (n : Nat) : ∀ k c, c + k = n → ∃ e, c ≤ e ∧ e ≤ n ∧ (∀ i, c ≤ i → i < e → (D i).ch = false) ∧ (e = n ∨ (D e).ch = true) := by
  intro k
  induction k with
  | zero => intro c h; exact ⟨c, Nat.le_refl c, by omega, fun i h1 h2 => by omega, .inl (by omega)⟩
  | succ k ih =>
    intro c h
    cases hc : (D c).ch with
    | true => exact ⟨c, Nat.le_refl c, by omega, fun i h1 h2 => by omega, .inr hc⟩
    | false =>
      obtain ⟨e, h1, h2, h3, h4⟩ := ih (c + 1) (by omega)
      refine ⟨e, by omega, h2, fun i h5 h6 => ?_, h4⟩
      by_cases e1 : i = c
      · subst e1; exact hc
      · exact h3 i (by omega) h6
theorem Reg.open (g : Reg E all bs S V D) {c : Nat} (hcn : c ≤ all.length) (hfst : c = 0 ∨ (0 < c ∧ (D (c - 1)).ch = true)) (hchg : ∀ i, i < all.length → (D i).ch = true → (done i = true ↔ i < c)) (hund : ∀ i, c ≤ i → i < all.length → (D i).wr = true → done i = false) :
    ∃ e n, Hol all.length S D done c e ((S c).h ++ List.replicate n .hole) := by
  obtain ⟨e, h1, h2, h3, h4⟩ := z9l D all.length (all.length - c) c (by omega)
  have grow : ∀ j, c ≤ j → j ≤ e → ∃ k, (S j).h = (S c).h ++ k := fun j hj hje => g.grows hj (by omega) fun i h5 h6 => h3 i h5 (by omega)
  obtain ⟨k, hk⟩ := grow e h1 (Nat.le_refl e)
  have hlenc : ∀ i, c ≤ i → i < e → (S c).h.length ≤ (S i).h.length := fun i h5 h6 => zs7 (grow i h5 (by omega)).choose_spec
  have hlene : ∀ i, c ≤ i → i < e → (S (i + 1)).h.length ≤ (S e).h.length := fun i h5 h6 => by
    obtain ⟨k', hk'⟩ := g.grows (j := i + 1) (c := e) (by omega) (by omega) fun i' h7 h8 => h3 i' (by omega) h8
    exact zs7 hk'
  refine ⟨e, k.length, h1, h2, hchg, h3, hfst, h4, by rw [hk]; simp, fun i h5 h6 h7 x h8 h9 => ?_, fun x o ho hall => ?_⟩
  · have := hlenc i h5 h6
    have := hlene i h5 h6
    rw [hk] at this
    simp only [List.length_append] at this
    rw [qE, List.getElem?_append_right (by omega), List.getElem?_replicate, if_pos (by omega)]
  · by_cases hx : x < (S c).h.length
    · rw [zbr hx]
      rw [hk, zbr hx] at ho
      exact ho
    · exfalso
      have hxe := vW ho
      have key : ∀ j, c ≤ j → j ≤ e → x < (S j).h.length → ∃ i, c ≤ i ∧ i < e ∧ (S i).h.length ≤ x ∧ x < (S (i + 1)).h.length := by
        intro j
        induction j with
        | zero => intro h5 _ h6; obtain rfl : c = 0 := by omega
                  exact absurd h6 hx
        | succ j ih =>
          intro h5 h6 h7
          by_cases e1 : c = j + 1
          · rw [← e1] at h7; exact absurd h7 hx
          · by_cases h8 : x < (S j).h.length
            · exact ih (by omega) (by omega) h8
            · exact ⟨j, by omega, by omega, by omega, h7⟩
      obtain ⟨i, h5, h6, h7, h8⟩ := key e h1 (Nat.le_refl e) hxe
      have hdi := hall i h5 h6 h7 h8
      cases hw : (D i).wr with
      | true => rw [hund i h5 (by omega) hw] at hdi; cases hdi
      | false =>
        have := g.quiet (i := i) (by omega) hw
        rw [this] at h8
        omega
theorem Reg.slots (g : Reg E all bs S V D) : ∀ {j : Nat}, j ≤ all.length →
    (∀ (i : Nat) (o : Oper) (d : Nat), all[i]? = some o → i < j → o.dst = some d → look (S j).fr d = some (V i)) ∧
    (∀ t, (∀ (i : Nat) (o : Oper), all[i]? = some o → i < j → o.dst ≠ some t) → look (S j).fr t = look (S 0).fr t) := by
  intro j
  induction j with
  | zero => intro _; exact ⟨fun i o d _ h => by omega, fun t _ => rfl⟩
  | succ j ih =>
    intro hj
    obtain ⟨h1, h2⟩ := ih (by omega)
    have hget := List.getElem?_eq_getElem (show j < all.length by omega)
    obtain ⟨_, hf, _⟩ := g.step j _ hget
    have hfr : ∀ t, look (S (j + 1)).fr t = if all[j].dst = some t then some (V j) else look (S j).fr t := by
      intro t
      rw [hf]
      cases hd : all[j].dst with
      | none => simp [St.put]
      | some d => simp [St.put, zCG]
    have hdist := (zyg g.data hget).1
    constructor
    · intro i o d hi hij hd
      rw [hfr]
      by_cases e : i = j
      · subst e
        rw [hget] at hi
        cases hi
        rw [if_pos hd]
      · rw [if_neg ?_]
        · exact h1 i o d hi (by omega) hd
        · have := (zs6 hdist i o d hi hd).1
          rw [Nat.zero_add] at this
          exact this.resolve_left e
    · intro t ht
      rw [hfr, if_neg (ht j _ hget (by omega))]
      exact h2 t fun i o hi hij => ht i o hi (by omega)
end
end
end Go.Ev
end
section
namespace Go.Ev
open Go.RowKit
set_option linter.unusedSimpArgs false
set_option linter.unusedVariables false
section
variable {P : Program} {nt : Nat} {F0 G : FH} {w0 : World} {E : Env} {R : Type} {bs : List Nat} {S : Nat → St} {V : Nat → AV} {D : Nat → Did} {done : Nat → Bool} {ops : Array Oper} {Q : Exit → Act → World → Prop}
def add (done : Nat → Bool) (j : Nat) : Nat → Bool := fun i => if i = j then true else done i
theorem zKj {i j : Nat} : add done j i = true ↔ done i = true ∨ i = j := by
  unfold add
  by_cases e : i = j
  · simp [e]
  · simp [e]
theorem put_eq (fr : List (Nat × AV)) (h : List Obj) (dst : Option Tmp) (v : AV) : (⟨fr, h⟩ : St).put dst v = ⟨((⟨fr, h⟩ : St).put dst v).fr, h⟩ := by cases dst <;> rfl
theorem Reg.filled (g : Reg E ops.toList bs S V D) (hd : ∀ j, j < ops.toList.length → done j = true → ∀ i, Nat.testBit ((atN bs j).getD 0) i = true → done i = true) {j c e : Nat} {H z : List Obj} (hn : Next ops.toList bs done j) (hh : Hol ops.toList.length S D done c e H)
    (hf : (D j).wr = true) (hch : (D j).ch = false) (hz : (S (j + 1)).h = (S j).h ++ z) :
    ∃ H2 : List Obj, H2.length = H.length ∧ (∀ i o, atN z i = some o → atN H ((S j).h.length + i) = some .hole ∧ atN H2 ((S j).h.length + i) = some o) ∧
      (∀ i, ¬((S j).h.length ≤ i ∧ i < (S j).h.length + z.length) → atN H2 i = atN H i) ∧ Hol ops.toList.length S D (add done j) c e H2 := by
  obtain ⟨hcj, hje⟩ := g.pass hd hn hf hh
  have hlt := hn.lt
  have hjlt : j < e := by
    rcases Nat.lt_or_ge j e with h | h
    · exact h
    · obtain rfl : j = e := by omega
      rcases hh.lst with h0 | h0
      · omega
      · rw [hch] at h0; cases h0
  have adn : ∀ {i}, i ≠ j → add done j i = done i := fun {i} hi => by unfold add; rw [if_neg hi]
  have hlen1 : (S (j + 1)).h.length = (S j).h.length + z.length := by rw [hz]; simp
  obtain ⟨k, hk⟩ := g.growLen hh (i := j + 1) (j := e) (by omega) (by omega) (Nat.le_refl e)
  have hLe : (S j).h.length + z.length ≤ H.length := by rw [hh.len, ← hlen1]; exact zs7 hk
  have hholes : ∀ i, i < z.length → atN H ((S j).h.length + i) = some .hole := fun i hi => hh.hol j hcj hjlt hn.un _ (by omega) (by omega)
  let H2 : List Obj := H.take (S j).h.length ++ z ++ H.drop ((S j).h.length + z.length)
  have hH2len : H2.length = H.length := by simp [H2]; omega
  have hH2in : ∀ i o', atN z i = some o' → atN H2 ((S j).h.length + i) = some o' := by
    intro i o' ho'
    have hil := vW ho'
    simp only [H2]
    rw [qE, List.append_assoc, List.getElem?_append_right (by simp; omega), List.length_take, Nat.min_eq_left (by omega), Nat.add_sub_cancel_left, List.getElem?_append_left hil, ← qE, ho']
  have hH2out : ∀ i, ¬((S j).h.length ≤ i ∧ i < (S j).h.length + z.length) → atN H2 i = atN H i := by
    intro i hi
    simp only [H2]
    rw [qE, qE, List.append_assoc]
    by_cases h5 : i < (S j).h.length
    · rw [List.getElem?_append_left (by simp; omega), List.getElem?_take, if_pos h5]
    · rw [List.getElem?_append_right (by simp; omega), List.length_take, Nat.min_eq_left (by omega), List.getElem?_append_right (by omega), List.getElem?_drop]
      congr 1
      omega
  refine ⟨H2, hH2len, fun i o' ho' => ⟨hholes i (vW ho'), hH2in i o' ho'⟩, hH2out, ?_⟩
  have disj : ∀ i, c ≤ i → i < e → i ≠ j → ∀ x, (S i).h.length ≤ x → x < (S (i + 1)).h.length → ¬((S j).h.length ≤ x ∧ x < (S j).h.length + z.length) := by
    intro i h5 h6 hne x h7 h8 h9
    rcases Nat.lt_or_gt_of_ne hne with h10 | h10
    · obtain ⟨k', hk'⟩ := g.growLen hh (i := i + 1) (j := j) (by omega) (by omega) (by omega)
      have := zs7 hk'
      omega
    · obtain ⟨k', hk'⟩ := g.growLen hh (i := j + 1) (j := i) (by omega) (by omega) (by omega)
      have := zs7 hk'
      omega
  refine ⟨hh.ce, hh.en, fun i hi hci => ?_, hh.quiet, hh.fst, hh.lst, by rw [hH2len]; exact hh.len, fun i h5 h6 h7 x h8 h9 => ?_, fun x o' ho' hall => ?_⟩
  · have hne : i ≠ j := by rintro rfl; rw [hch] at hci; cases hci
    rw [adn hne]; exact hh.chg i hi hci
  · have hne : i ≠ j := by
      rintro rfl
      rw [zKj.2 (.inr rfl)] at h7; cases h7
    rw [adn hne] at h7
    rw [hH2out x (disj i h5 h6 hne x h8 h9)]
    exact hh.hol i h5 h6 h7 x h8 h9
  · by_cases hx : (S j).h.length ≤ x ∧ x < (S j).h.length + z.length
    · obtain ⟨i, rfl⟩ : ∃ i, x = (S j).h.length + i := ⟨x - (S j).h.length, by omega⟩
      have hil : i < z.length := by omega
      have hoi : atN z i = some z[i] := by rw [qE, List.getElem?_eq_getElem hil]
      rw [hH2in i _ hoi, ← ho', hk, hz, List.append_assoc, qE, List.getElem?_append_right (by omega), Nat.add_sub_cancel_left, List.getElem?_append_left hil, ← qE, hoi]
    · rw [hH2out x hx]
      refine hh.own x o' ho' fun i h5 h6 h7 h8 => ?_
      have h9 := hall i h5 h6 h7 h8
      by_cases hne : i = j
      · subst hne
        exact absurd ⟨h7, by omega⟩ hx
      · rw [adn hne] at h9; exact h9
theorem zOZ {h h2 : List Obj} {fr : List (Nat × AV)} {a : Ty} : ∀ {ps : List (Nat × Option AV)} {vs vs' : List AV}, zWO h a vs ps = some vs' → (∀ i j, (i, some (AV.ow j)) ∈ ps → ∀ o, atN h j = some o → atN h2 j = some o) → zdG false a vs ps ⟨fr, h2⟩ = some (vs', ⟨fr, h2⟩)
  | [], vs, vs', hb, _ => by cases hb; rfl
  | (i, none) :: ps, vs, vs', hb, _ => by cases hb
  | (i, some v) :: ps, vs, vs', hb, hs => by
    cases v with
    | ow j =>
      simp only [zWO] at hb
      obtain ⟨h1, h2'⟩ := zd hb
      have hr : rowIs h2 a i j = true := by
        unfold rowIs at h1 ⊢
        cases hT : zeR h j with
        | none => rw [hT] at h1; cases h1
        | some σ =>
          rw [hT] at h1
          obtain ⟨o, ho, hl⟩ := zQO.1 hT
          rw [zQO.2 ⟨o, hs i j (by simp) o ho, hl⟩]
          exact h1
      simp only [zdG, hr, cond_true]
      exact zOZ h2' fun i' j' hm => hs i' j' (by simp [hm])
    | dat σ y =>
      simp only [zWO] at hb
      obtain ⟨h1, h2'⟩ := zd hb
      simp only [zdG, frz, vI, h1, cond_true]
      exact zOZ h2' fun i' j' hm => hs i' j' (by simp [hm])
    | _ => cases hb
theorem zSr {st : St} {o : Oper} {t x : Nat} {v : AV} (ht : t ∈ zkT o) (hv : look st.fr t = some v) (hx : x ∈ v.ids) : x ∈ zs5 st o := by
  unfold zs5
  exact List.mem_flatMap.2 ⟨t, ht, by rw [hv]; exact hx⟩
theorem z8F {v : AV} {i : Nat} (h : v.has1 i = true) : i ∈ v.ids1 := by
  cases v <;> first | (cases h; done) | (have := Nat.eq_of_beq_eq_true h; subst this; simp [AV.ids1])
theorem z5K {v : AV} {i : Nat} (ht : ∀ vs, v ≠ .tup vs) (h : v.has i = true) : i ∈ v.ids := by
  cases v with
  | fld a vs =>
    simp only [AV.has, List.any_eq_true] at h
    obtain ⟨x, hx, hxi⟩ := h
    exact List.mem_flatMap.2 ⟨x, hx, z8F hxi⟩
  | tup vs => exact absurd rfl (ht vs)
  | _ => first | (cases h; done) | (have := Nat.eq_of_beq_eq_true h; subst this; simp [AV.ids, AV.ids1])
theorem z8G {v : AV} {i : Nat} (h : v.has1 i = true) : v.has i = true := by
  cases v <;> first | exact h | cases h
theorem zRD {θ : Option Ty} {c : Value} {v : AV} {i : Nat} (h : zKd θ c = some v) : v.has1 i = false := by
  unfold zKd at h
  (repeat' split at h) <;> first | (cases h; rfl) | cases h
theorem Reg.go (hE : z4 P G E) (hG : G.le F0) (hnt : E.nt = nt) (g : Reg E ops.toList bs S V D) {a : Act} {w : World} (hm : Mid P nt F0 w0 ops.toList bs S V D done a w) {j : Nat} (hn : Next ops.toList bs done j)
    {K : Act → World → Prop} (hK : ∀ a' w', Mid P nt F0 w0 ops.toList bs S V D (add done j) a' w' → K a' w') : wpOp P ops Q j K a w := by
  obtain ⟨hd, c, e, H, hh, fr, m, F, hrel, hV, hO⟩ := hm
  have hlt := hn.lt
  have hget : ops.toList[j]? = some ops.toList[j] := List.getElem?_eq_getElem hlt
  generalize ho : ops.toList[j] = o at hget
  have hgo : ops[j]? = some o := by rw [← Array.getElem?_toList]; exact hget
  obtain ⟨hs1, hs2⟩ := g.slots (j := j) (by omega)
  obtain ⟨hdata, hguard, _⟩ := zyg g.data hget
  have hag : ∀ t, t ∈ zkT o → look fr t = look (S j).fr t := by
    intro t ht
    by_cases hex : ∃ (i : Nat) (o' : Oper), ops.toList[i]? = some o' ∧ o'.dst = some t
    · obtain ⟨i, o', hi, hdt⟩ := hex
      have := (zs6 hdata i o' t hi hdt).2 ht
      rw [Nat.zero_add] at this
      rw [hV i o' t hi (hn.bef i this.1) hdt, hs1 i o' t hi this.2 hdt]
    · have hno : ∀ (i : Nat) (o' : Oper), ops.toList[i]? = some o' → o'.dst ≠ some t := fun i o' hi hdt => hex ⟨i, o', hi, hdt⟩
      rw [hO t hno, hs2 t fun i o' hi _ => hno i o' hi]
  have hag' : ∀ t, Operand.tmp t ∈ o.op.operands → look fr t = look (S j).fr t := fun t ht => hag t (zLV.2 ht)
  have hgv : zmT ops.toList fr o = zmT ops.toList (S j).fr o := by
    unfold zmT
    cases hgd : o.guard with
    | none => rfl
    | some gw =>
      obtain ⟨gi, want⟩ := gw
      simp only
      obtain ⟨hb, hlt'⟩ := hguard gi want hgd
      have : (zGA ops.toList gi).bind (look fr) = (zGA ops.toList gi).bind (look (S j).fr) := by
        cases hdo : zGA ops.toList gi with
        | none => rfl
        | some d =>
          simp only [Option.bind_some]
          unfold zGA at hdo
          rw [qE] at hdo
          obtain ⟨o', ho', hdt⟩ := Option.bind_eq_some_iff.1 hdo
          rw [hV gi o' d ho' (hn.bef gi hb) hdt, hs1 gi o' d ho' hlt' hdt]
      rw [this]
  obtain ⟨hdst, _, hstep⟩ := g.step j o hget
  have hd' : ∀ d, o.dst = some d → d < nt := fun d h => hnt ▸ zUw hdst d h
  have fin : ∀ (c' e' : Nat) (H' : List Obj) (a' : Act) (w' : World) (m' : MM) (F' : FH), Hol ops.toList.length S D (add done j) c' e' H' →
      Rel P nt F0 w0 ((⟨fr, H'⟩ : St).put o.dst (V j)) m' F' a' w' → Mid P nt F0 w0 ops.toList bs S V D (add done j) a' w' := by
    intro c' e' H' a' w' m' F' hh' hr
    refine ⟨fun j' hj' hdj i hb => ?_, c', e', H', hh', _, m', F', (by rw [put_eq] at hr; exact hr), ?_, ?_⟩
    · rw [zKj] at hdj ⊢
      rcases hdj with hdj | rfl
      · exact .inl (hd j' hj' hdj i hb)
      · exact .inl (hn.bef i hb)
    · intro i o' d hi hdi hdt
      have hl : ∀ t, look ((⟨fr, H'⟩ : St).put o.dst (V j)).fr t = if o.dst = some t then some (V j) else look fr t := by
        intro t
        cases hd : o.dst with
        | none => simp [St.put]
        | some d => simp [St.put, zCG]
      rw [hl]
      by_cases e : o.dst = some d
      · rw [if_pos e]
        have := (zs6 hdata i o' d hi hdt).1
        rw [Nat.zero_add] at this
        rcases this with rfl | this
        · rfl
        · exact absurd e this
      · rw [if_neg e]
        rw [zKj] at hdi
        rcases hdi with hdi | rfl
        · exact hV i o' d hi hdi hdt
        · rw [hget] at hi; cases hi; exact absurd hdt e
    · intro t ht
      have := ht j o hget
      rw [← hO t ht]
      cases hd : o.dst with
      | none => rfl
      | some d =>
        simp only [St.put, zCG]
        rw [if_neg]
        rintro rfl
        exact this hd
  have adn : ∀ {i}, i ≠ j → add done j i = done i := fun {i} hi => by unfold add; rw [if_neg hi]
  have stay : (D j).wr = false → Hol ops.toList.length S D (add done j) c e H := by
    intro hf
    have hch : (D j).ch = false := by
      cases hc : (D j).ch with
      | false => rfl
      | true => rw [g.chwr hlt hc] at hf; cases hf
    refine ⟨hh.ce, hh.en, fun i hi hci => ?_, hh.quiet, hh.fst, hh.lst, hh.len, fun i h1 h2 h3 x h4 h5 => ?_, fun x o' ho' hall => hh.own x o' ho' fun i h1 h2 h3 h4 => ?_⟩
    · have hne : i ≠ j := by rintro rfl; rw [hch] at hci; cases hci
      rw [adn hne]; exact hh.chg i hi hci
    · have hne : i ≠ j := by
        rintro rfl
        rw [zKj.2 (.inr rfl)] at h3; cases h3
      rw [adn hne] at h3
      exact hh.hol i h1 h2 h3 x h4 h5
    · have h5 := hall i h1 h2 h3 h4
      by_cases hne : i = j
      · subst hne
        have := g.quiet hlt hf
        rw [this] at h4
        omega
      · rw [adn hne] at h5; exact h5
  unfold wpOp
  simp only [hgo]
  rcases hstep with ⟨hg, hVj, hh, h1, h2, h3⟩ | ⟨hg, hstep⟩
  · have hwant := zCK hrel (o := o) (ops := ops) (b := false) (by rw [← hg]; exact hgv)
    rw [hwant]
    simp only [Bool.false_eq_true, if_false]
    refine hK _ _ (fin c e H _ _ m F (stay h2) ?_)
    exact Rel.put hrel hd' (by rw [hVj]; exact zaN)
  · have hwant := zCK hrel (o := o) (ops := ops) (b := true) (by rw [← hg]; exact hgv)
    rw [hwant]
    simp only [if_true]
    left
    rcases hstep with ⟨fr', v0, st', hres, hev, hVj, hh1, h2, h3, hlk⟩ | ⟨st', hst, hev, hh1, h1, h2, h3, hlk⟩ | ⟨st', hev, hh1, h1, h2, h3, _⟩ | ⟨b, vs', z, hbld, hVj, hh1, h1, h2, h3, hlk⟩
    · have hsp := zLW hres
      have hf : ∀ t v, look fr' t = some v → v.pure = true ∧ zh P H m F v (a.tmps.getD t undef) := by
        intro t v ht
        obtain ⟨h4, v1, h5, h6, h7, h8⟩ := hsp t v ht
        refine ⟨h8 rfl, ?_⟩
        have hr1 := hrel.fr t v1 (by simp only; rw [hag t h4]; exact h5)
        simp only at hr1
        cases hrd : (D j).rd with
        | false => rw [h7 hrd]; exact hr1
        | true =>
          rw [h6]
          cases v1 with
          | tup vs =>
            have e : (zmU (S j).h (.tup vs)).1 = .tup vs := by
              unfold zmU
              cases (AV.tup vs).pure <;> rfl
            rw [e]; exact hr1
          | _ =>
            refine z6w hrel (fun i hi o' ho' => ?_) hr1
            rw [zh.eq1 (by intro vs e; cases e)] at hr1
            obtain ⟨u, hu, hne⟩ := hr1.real hi
            exact g.looks hd hn hrd hh (by rw [hlk]; exact zSr h4 h5 (z5K (by intro vs e; cases e) hi)) ho' hu hne
      have hstart := hrel.start hf
      refine zSm hE (hG.trans hrel.gro.1) hstart hev _ _ ?_
      rintro u w' ⟨m', F', hle, hrel', hv⟩
      cases hwr : (D j).wr with
      | true =>
        obtain ⟨H2, hH2len, hsz, hH2out, hhol⟩ := g.filled hd hn hh hwr h3 hh1
        have hs : ∀ i o', atN st'.h i = some o' → atN H ((S j).h.length + i) = some .hole ∧ atN H2 ((S j).h.length + i) = some (o'.rn ((S j).h.length + ·)) := fun i o' ho' => by
          have := hsz i (o'.sh (S j).h.length) (by rw [qE, List.getElem?_map, ← qE, ho']; rfl)
          exact ⟨this.1, by rw [this.2, Obj.sh_rn]⟩
        rw [List.length_map] at hH2out
        have hfill := hrel.fill hrel' hH2len hs hH2out
        exact hK _ _ (fin c e H2 _ _ _ F' hhol (Rel.put hfill hd' (by rw [hVj]; exact hv.fill fun i o' ho' => (hs i o' ho').2)))
      | false =>
        have hcat := hrel.cat hrel' hle
        rw [hwr] at h2
        have hnil : st'.h = [] := by
          cases hs : st'.h with
          | nil => rfl
          | cons x l => rw [hs] at h2; cases h2
        rw [hnil] at hcat hv
        simp only [List.map_nil, List.append_nil] at hcat
        refine hK _ _ (fin c e H _ _ (m.cat H.length m') F' (stay hwr) ?_)
        refine Rel.put hcat hd' ?_
        rw [hVj]
        exact hv.nowhere
    · have h4 := z1P hev hag'
      have h5 := zYS (k := H) hst (fun x θ v hx hrdv i hi o' ho' => by
        have hrdv' : rd E ⟨fr, H⟩ θ x = some v := by rw [← hrdv]; cases x <;> rfl
        have hr1 := zG hE hG hrel hrdv'
        have hrdS : rd E (S j) θ x = some v := by
          rw [← hrdv']
          cases x with
          | tmp t => exact (hag' t hx).symm
          | _ => rfl
        cases v with
        | tup vs => cases hi
        | _ =>
          first | (cases hi; done) | (
            rw [zh.eq1 (by intro vs e; cases e)] at hr1
            have hi' := z8G hi
            obtain ⟨u, hu, hne⟩ := hr1.real hi'
            refine g.looks hd hn h1 hh ?_ ho' hu hne
            rw [hlk]
            cases x with
            | tmp t => exact zSr (zLV.2 hx) hrdS (z5K (by intro vs e; cases e) hi')
            | const c => exact absurd hi (by rw [zRD hrdS]; simp)
            | global gl => exact absurd hi (by obtain ⟨_, _, _, e, _⟩ := hE.glob gl _ hrdS; cases e <;> simp [AV.has1])
            | func f => (simp only [rd, Option.map_eq_some_iff] at hrdS; obtain ⟨_, _, e⟩ := hrdS; cases e))) h4
      have h6 : more H (sw fr (S j)) = ⟨fr, H⟩ := rfl
      rw [h6] at h5
      obtain ⟨_, u, h7, h8⟩ := z6t hE hG hrel hst h5
      refine qP.val (R := fun u' w' => u' = u ∧ w' = w) h7 ⟨rfl, rfl⟩ _ _ ?_
      rintro u' w' ⟨rfl, rfl⟩
      exact hK _ _ (fin c e H _ _ m F (stay h2) (Rel.put hrel hd' h8))
    · obtain ⟨hcj, hje⟩ := g.pass hd hn h2 hh
      have hje' : j = e := by
        rcases Nat.lt_or_ge j e with h | h
        · have := hh.quiet j hcj h
          rw [h3] at this; cases this
        · omega
      subst hje'
      have hfull := g.full hh fun i h5 h6 h7 => g.before hn h3 h6 h7
      have h4 := z1P hev hag'
      have h6 : sw fr (S j) = ⟨fr, H⟩ := by unfold sw; rw [hfull]
      rw [h6] at h4
      refine zSm hE hG hrel h4 _ _ ?_
      rintro u w' ⟨m', F', hle, hrel', hv⟩
      have hchg' : ∀ i, i < ops.toList.length → (D i).ch = true → (add done j i = true ↔ i < j + 1) := by
        intro i hi hci
        by_cases hne : i = j
        · subst hne
          exact ⟨fun _ => by omega, fun _ => zKj.2 (.inr rfl)⟩
        · rw [adn hne, hh.chg i hi hci]
          constructor
          · intro h; have := hh.ce; omega
          · intro h
            rcases Nat.lt_or_ge i c with h5 | h5
            · exact h5
            · have := hh.quiet i h5 (by omega)
              rw [hci] at this; cases this
      have hund : ∀ i, j + 1 ≤ i → i < ops.toList.length → (D i).wr = true → add done j i = false := by
        intro i h5 h6 h7
        rw [adn (by omega)]
        cases hdi : done i with
        | false => rfl
        | true =>
          rcases g.ok j i (by omega) h6 with h8 | h8
          · rw [g.id, g.id] at h8
            have := hd i h6 hdi j h8
            rw [hn.un] at this; cases this
          · have := (h8.1 h3).1
            rw [this] at h7; cases h7
      obtain ⟨e', n, hh'⟩ := g.open (done := add done j) (c := j + 1) (by omega) (.inr ⟨by omega, h3⟩) hchg' hund
      refine hK _ _ (fin (j + 1) e' _ _ _ m' F' hh' ?_)
      have hrel2 : Rel P nt F0 w0 ⟨fr, (S (j + 1)).h⟩ m' F' a w' := by rw [hh1]; exact hrel'
      refine Rel.put (hrel2.holes n) hd' ?_
      refine zh.keep (h := (sw fr st').h) (m := m') (fun i o' ho' _ => ⟨?_, rfl, rfl⟩) hv
      simp only
      rw [hh1]
      exact zCx ho'
    ·
      obtain ⟨H2, hH2len, hsz, hH2out, hhol⟩ : ∃ H2 : List Obj, H2.length = H.length ∧ (∀ i o, atN z i = some o → atN H ((S j).h.length + i) = some .hole ∧ atN H2 ((S j).h.length + i) = some o) ∧
          (∀ i, ¬((S j).h.length ≤ i ∧ i < (S j).h.length + z.length) → atN H2 i = atN H i) ∧ Hol ops.toList.length S D (add done j) c e H2 := by
        cases hwr : (D j).wr with
        | true => exact g.filled hd hn hh hwr h3 hh1
        | false =>
          rw [hwr] at h2
          have hnil : z = [] := by
            cases z with
            | nil => rfl
            | cons x l => cases h2
          subst hnil
          exact ⟨H, rfl, fun i o ho => by simp [atN] at ho, fun i _ => rfl, stay hwr⟩
      obtain ⟨dst, op, ty, pos, after, guard⟩ := o
      simp only at hbld hd' hag'
      cases op with
      | build t ps =>
        simp only [z1n] at hbld
        split at hbld
        · rename_i τ hτ
          split at hbld
          · rename_i a0 hsel
            split at hbld
            · rename_i vs1 hb
              simp only [Option.some.injEq, Prod.mk.injEq] at hbld
              obtain ⟨rfl, rfl, rfl⟩ := hbld
              have hτb : τ = .st a0 := by
                unfold z5W at hsel
                split at hsel
                · obtain ⟨_, hsel⟩ := zd hsel
                  cases hsel; rfl
                · cases hsel
              subst hτb
              have hty := hE.types t _ hτ
              obtain ⟨i, z, g1, g2, g3, g4⟩ := zSk (hty.head (by intro a b e; cases e))
              obtain ⟨fs, f1, f2, _⟩ := hty.st
              obtain ⟨places, hpl1, hpl2⟩ := run_places (w := w) f2
              have hstart := hrel.start (fr' := []) (fun t v ht => by simp [look] at ht)
              obtain ⟨cz, k1, k2, k3, k4⟩ := zLS (st := ⟨[], []⟩) hty.chn (z8A [] a0) (show zcB a0 z.cells.toList = some [] from g3) hstart
              rw [List.append_nil] at k1
              have hagg : ∃ zc, z = .agg zc := by
                have : zkU z = true := g4
                cases z <;> first | exact ⟨_, rfl⟩ | cases this
              obtain ⟨zc, rfl⟩ := hagg
              have hs : ∀ i o', atN (zab [] a0).2 i = some o' → atN H ((S j).h.length + i) = some .hole ∧ atN H2 ((S j).h.length + i) = some (o'.rn ((S j).h.length + ·)) := fun i o' ho' => by
                have := hsz i (o'.sh (S j).h.length) (by rw [qE, List.getElem?_map, ← qE, ho']; rfl)
                exact ⟨this.1, by rw [this.2, Obj.sh_rn]⟩
              rw [List.length_map] at hH2out
              have hfill := hrel.fill k2 hH2len hs hH2out
              have hfs : qw P H2 (m.fill (S j).h.length (zab [] a0).2.length .emp) F a0 ((zab [] a0).1.map (AV.sh1 (S j).h.length)) cz := by
                have := qw.rn (ρ := ((S j).h.length + ·)) (h2 := H2) (m2 := m.fill (S j).h.length (zab [] a0).2.length .emp) (fun v _ i _ o ho => ⟨(hs i o ho).2, MM.fill_f2 _ _ (vW ho), MM.fill_d2 _ _ (vW ho)⟩) k4
                rwa [List.map_congr_left fun x _ => (AV.sh1_rn (S j).h.length x).symm] at this
              have hrdS : ∀ θ x, x ∈ (Op.build t ps).operands → rd E (S j) θ x = rd E ⟨fr, H2⟩ θ x := fun θ x hx => by
                cases x with
                | tmp t => exact (hag' t hx).symm
                | _ => rfl
              have hmapS : (ps.toList.map fun p => (p.1, rd E (S j) (zjY a0 p.1) p.2)) = ps.toList.map fun p => (p.1, rd E ⟨fr, H2⟩ (zjY a0 p.1) p.2) := by
                refine List.map_congr_left fun p hp => ?_
                rw [hrdS _ _ (by simp only [Op.operands]; exact List.mem_toArray.2 (List.mem_map.2 ⟨p, hp, rfl⟩))]
              rw [hmapS] at hb
              have hrdv : ∀ (p : Nat × Operand) v, rd E ⟨fr, H2⟩ (zjY a0 p.1) p.2 = some v → zh P H2 (m.fill (S j).h.length (zab [] a0).2.length .emp) F v (a.eval p.2) := fun p v hv => zG hE hG hfill hv
              have hbf := zOZ (fr := fr) (h2 := H2) hb (fun i jj hm o ho => by
                obtain ⟨p, hp, he⟩ := List.mem_map.1 hm
                simp only [Prod.mk.injEq] at he
                have hrdH : rd E ⟨fr, H⟩ (zjY a0 p.1) p.2 = some (.ow jj) := by rw [← he.2]; cases p.2 <;> rfl
                have hv1 := zG hE hG hrel hrdH
                obtain ⟨u, hu, hne⟩ := (show zT P H m F (.ow jj) _ from hv1).real (i := jj) (Nat.beq_refl _)
                have hH := g.looks hd hn h1 hh (by
                  rw [hlk]
                  obtain ⟨pi, px⟩ := p
                  cases px with
                  | tmp tt =>
                    have ht : Operand.tmp tt ∈ (Op.build t ps).operands := List.mem_toArray.2 (List.mem_map.2 ⟨_, hp, rfl⟩)
                    exact zSr (zLV.2 ht) (by rw [← hag' tt ht]; exact hrdH) (by simp [AV.ids, AV.ids1])
                  | const c => exact absurd (Nat.beq_refl jj) (by have := zRD (i := jj) hrdH; simp [AV.has1] at this)
                  | global gl => obtain ⟨_, _, _, e, _⟩ := hE.glob gl _ hrdH; cases e
                  | func f => simp only [rd, Option.map_eq_some_iff] at hrdH; obtain ⟨_, _, e⟩ := hrdH; cases e) ho hu hne
                by_cases hx : (S j).h.length ≤ jj ∧ jj < (S j).h.length + (zab [] a0).2.length
                · have := vW ho
                  omega
                · rw [hH2out jj hx]; exact hH)
              have hsome := zyx hbf
              have hps := zCJ hE hG hfill (θ := fun i => zjY a0 i) (ps := ps.toList) fun p hp => hsome (p.1, rd E ⟨fr, H2⟩ (zjY a0 p.1) p.2) (List.mem_map.2 ⟨p, hp, rfl⟩)
              obtain ⟨m', F', cells', r1, r2, r3, r4⟩ := zOU (place := (places[·]?)) hpl2 (cells := zc) hbf hfill hps (by rw [show zc.toList = cz from k1]; exact hfs)
              have hmap : (ps.map fun x => (x.1, a.eval x.2)).toList = ps.toList.map fun p => (p.1, a.eval p.2) := by simp
              refine qP.val (R := fun u' w' => u' = .agg cells' ∧ w' = w) (u := .agg cells') (w' := w) ?_ ⟨rfl, rfl⟩ _ _ ?_
              · simp only [execOp]
                refine qc ?_
                unfold Instr.build
                simp only [Sem.run_bind, va g1 g2, Result.andThen_ok, zl f1, hpl1, hmap, Value.cells, r3, Sem.run_pure]
              · rintro u' w' ⟨rfl, rfl⟩
                refine hK _ _ (fin c e H2 _ _ m' F' hhol (Rel.put r2 hd' ?_))
                rw [hVj]
                exact ⟨cells', rfl, r4⟩
            · cases hbld
          · cases hbld
        · cases hbld
      | _ => cases hbld
theorem Reg.bef (g : Reg E ops.toList bs S V D) (hd : ∀ j, j < ops.toList.length → done j = true → ∀ i, Nat.testBit ((atN bs j).getD 0) i = true → done i = true) {j : Nat} {o : Oper} (hj : ops.toList[j]? = some o)
    (ha : ∀ e ∈ o.after.toList, Region.binds .any e = true → done e.on = true) : ∀ i, Nat.testBit ((atN bs j).getD 0) i = true → done i = true := by
  intro i hi
  obtain ⟨acc, h1, h2⟩ := z6v ops.toList [] j o hj
  rw [List.length_nil, Nat.zero_add, ← g.bits] at h1
  rw [h1] at hi
  obtain ⟨e, he, hb, h3⟩ := z7N hi
  have hde := ha e he hb
  rcases h3 with rfl | ⟨b, h3, h4⟩
  · exact hde
  · have h5 := h2 _ _ h3
    rw [← g.bits] at h5
    refine hd e.on ?_ hde i (by rw [h5]; exact h4)
    have := (zyg g.data hj).2.2 e he hb
    have := (List.getElem?_eq_some_iff.1 hj).1
    omega
theorem Reg.any (hE : z4 P G E) (hG : G.le F0) (hnt : E.nt = nt) (g : Reg E ops.toList bs S V D)
    (hQ : ∀ a w, Inv P nt F0 w0 (S ops.toList.length) a w → Q .normal a w) :
    ∀ (fuel : Nat) (listed : Array Bool) (a : Act) (w : World), listed.size = ops.size → zyh (fun i => listed.getD i false) ops.size ≤ fuel → Mid P nt F0 w0 ops.toList bs S V D (fun i => listed.getD i false) a w → wpAny P .any ops Q fuel listed a w := by
  have hlen : ops.toList.length = ops.size := rfl
  have hfinal : ∀ (listed : Array Bool) (a : Act) (w : World), (∀ i, i < ops.size → listed.getD i false = true) → Mid P nt F0 w0 ops.toList bs S V D (fun i => listed.getD i false) a w → Q .normal a w := by
    intro listed a w hall ⟨hd, c, e, H, hh, fr, m, F, hrel, hV, hO⟩
    apply hQ
    have he : e = ops.toList.length := by
      rcases hh.lst with h0 | h0
      · exact h0
      · rcases Nat.lt_or_ge e ops.toList.length with h1 | h1
        · have := (hh.chg e h1 h0).1 (hall e h1)
          have := hh.ce
          omega
        · have := hh.en; omega
    have hfull := g.full hh fun i h1 h2 h3 => hall i (by rw [he] at h2; exact h2)
    have hh : (S ops.toList.length).h = H := by rw [hfull, he]
    obtain ⟨hs1, hs2⟩ := g.slots (j := ops.toList.length) (Nat.le_refl _)
    refine ⟨m, F, ?_⟩
    have := hrel.frames (fr := (S ops.toList.length).fr) ?_
    · simp only at this
      rw [← hh] at this
      exact this
    · intro t v ht
      by_cases hex : ∃ (i : Nat) (o' : Oper), ops.toList[i]? = some o' ∧ o'.dst = some t
      · obtain ⟨i, o', hi, hdt⟩ := hex
        have hil := (List.getElem?_eq_some_iff.1 hi).1
        rw [hs1 i o' t hi hil hdt] at ht
        simp only
        rw [hV i o' t hi (hall i hil) hdt]; exact ht
      · have hno : ∀ (i : Nat) (o' : Oper), ops.toList[i]? = some o' → o'.dst ≠ some t := fun i o' hi hdt => hex ⟨i, o', hi, hdt⟩
        rw [hs2 t fun i o' hi _ => hno i o' hi] at ht
        simp only
        rw [hO t hno]; exact ht
  have hready : ∀ (listed : Array Bool) , listed.size = ops.size → (∀ j, j < ops.toList.length → (listed.getD j false) = true → ∀ i, Nat.testBit ((atN bs j).getD 0) i = true → listed.getD i false = true) → ∀ j, j < ops.size → listed.getD j false = false → Region.ready .any ops listed ≠ [] := by
    intro listed hsz hd j
    induction j using Nat.strongRecOn with
    | _ j ih =>
      intro hj hu hr
      have hget : ops.toList[j]? = some ops.toList[j] := List.getElem?_eq_getElem (show j < ops.toList.length from hj)
      have hback := (zyg g.data hget).2.2
      by_cases hall : ∀ e ∈ ops.toList[j].after.toList, Region.binds .any e = true → listed.getD e.on false = true
      · have hmem : j ∈ Region.ready .any ops listed := by
          rw [mem_ready]
          refine ⟨?_, ops.toList[j], by rw [← Array.getElem?_toList]; exact hget, fun e he hb => hall e (by simpa using he) hb⟩
          have : j < listed.size := by omega
          simpa [Array.getD, this] using hu
        rw [hr] at hmem
        cases hmem
      · obtain ⟨e, hne⟩ := Classical.not_forall.1 hall
        simp only [Classical.not_imp] at hne
        obtain ⟨he, hb, hf⟩ := hne
        have hlt := hback e he hb
        exact ih e.on hlt (by omega) (by simpa using hf) hr
  intro fuel
  induction fuel with
  | zero =>
    intro listed a w hsz hleft hm
    have hall := zYU (n := ops.size) (Nat.le_zero.1 hleft)
    refine ⟨?_, hfinal listed a w hall hm⟩
    cases hr : Region.ready .any ops listed with
    | nil => rfl
    | cons x l =>
      have hx : x ∈ Region.ready .any ops listed := by rw [hr]; simp
      obtain ⟨h1, o, h2, _⟩ := mem_ready.1 hx
      have hlt := (Array.getElem?_eq_some_iff.1 h2).1
      have := hall x hlt
      have hl : x < listed.size := by omega
      simp [Array.getD, hl] at this h1
      rw [h1] at this; cases this
  | succ fuel ih =>
    intro listed a w hsz hleft hm
    constructor
    · intro hr
      refine hfinal listed a w (fun i hi => ?_) hm
      cases hdi : listed.getD i false with
      | true => rfl
      | false => exact absurd hr (hready listed hsz hm.down i hi hdi)
    · intro j hj
      obtain ⟨h1, o, h2, h3⟩ := mem_ready.1 hj
      have hlt := (Array.getElem?_eq_some_iff.1 h2).1
      have hl : j < listed.size := by omega
      have hu : listed.getD j false = false := by simpa [Array.getD, hl] using h1
      have hadd : add (fun i => listed.getD i false) j = fun i => (listed.setIfInBounds j true).getD i false := by
        funext i
        unfold add
        by_cases e : i = j
        · subst e; simp [hl]
        · rw [if_neg e, getD_set_ne false (Ne.symm e)]
      refine g.go hE hG hnt hm ⟨hlt, hu, g.bef hm.down (by rw [Array.getElem?_toList]; exact h2) fun e he hb => h3 e (by simpa using he) hb⟩ fun a' w' hm' => ?_
      rw [hadd] at hm'
      refine ih _ _ _ (by simpa using hsz) ?_ hm'
      have := left_step (f := fun i => listed.getD i false) (g := fun i => (listed.setIfInBounds j true).getD i false) (n := ops.size) (j := j) hu (by simp [hl]) (fun i hi => getD_set_ne false (Ne.symm hi))
      rw [if_pos hlt] at this
      omega
theorem z9m {k : St → Option R} {r : R} {st : St} {a : Act} {w : World} {id : Nat} (hm : P.follows .mixedOrders = true) (hE : z4 P G E) (hG : G.le F0) (hnt : E.nt = nt) (hdata : zT3 (zye ops.toList []) ops.toList = true)
    (hQ : ∀ st a w, Inv P nt F0 w0 st a w → k st = some r → Q .normal a w) (hi : Inv P nt F0 w0 st a w) (he : evD E ops.toList (zye ops.toList []) ops.toList 0 [] st k = some r) : (Code.region id ops true).wp P Q a w := by
  refine wp_region_any hm ?_
  obtain ⟨S, V, D, h1, h2, h3, h4, h5, h6⟩ := zYT ops.toList 0 [] st he
  have g : Reg E ops.toList (zye ops.toList []) S V D := ⟨hdata, rfl, h3, fun i o hi => by have := h4 i o hi; simpa using this, fun i i' hii hl => by have := h6 i i' hii hl; simpa using this⟩
  obtain ⟨m, F, hrel⟩ := hi
  rw [Nat.zero_add] at h2
  refine g.any hE hG hnt (fun a w hi => hQ _ a w hi h2) ops.size _ a _ (by simp) ?_ ?_
  · rw [zYV]
    · exact Nat.le_refl _
    · intro i hi; simp [hi]
  · obtain ⟨e, n, hh⟩ := g.open (done := fun i => (Array.replicate ops.size false).getD i false) (c := 0) (Nat.zero_le _) (.inl rfl) (fun i hi _ => by
        have : i < ops.size := hi
        simp [this]) (fun i _ hi _ => by
        have : i < ops.size := hi
        simp [this])
    refine ⟨fun j hj hdj => ?_, 0, e, _, hh, (S 0).fr, m, F, ?_, fun i o d hi hdi => ?_, fun t _ => rfl⟩
    · have : j < ops.size := hj
      simp [this] at hdj
    · rw [h1]; exact hrel.drew.holes n
    · have : i < ops.size := (List.getElem?_eq_some_iff.1 hi).1
      simp [this] at hdi
end
end Go.Ev
end
section
namespace Go.Ev
open Go.RowKit
set_option linter.unusedSimpArgs false
set_option linter.unusedVariables false
theorem zUz : ∀ {l : List Nat} {i : Nat}, i ∈ l → l[idxOf l i]? = some i
  | x :: l, i, h => by
    by_cases e : x = i
    · subst e; simp [idxOf, beq_self]
    · have hm : i ∈ l := by
        rcases List.mem_cons.1 h with h | h
        · exact absurd h.symm e
        · exact h
      simp only [idxOf, zgC e, cond_false, List.getElem?_cons_succ]
      exact zUz hm
theorem zIc : ∀ {l : List Nat}, zOQ l = true → ∀ (i j x : Nat), l[i]? = some x → l[j]? = some x → i = j
  | [], _, i, _, x, hi, _ => by simp at hi
  | y :: l, h, i, j, x, hi, hj => by
    simp only [zOQ, Bool.and_eq_true, Bool.not_eq_true'] at h
    have hno : ∀ k, l[k]? ≠ some y := fun k hk => by
      have := zCL.2 (List.mem_of_getElem? hk)
      rw [h.1] at this; cases this
    cases i with
    | zero =>
      simp only [List.getElem?_cons_zero, Option.some.injEq] at hi
      subst hi
      cases j with
      | zero => rfl
      | succ j => exact absurd (by simpa using hj) (hno j)
    | succ i =>
      cases j with
      | zero =>
        simp only [List.getElem?_cons_zero, Option.some.injEq] at hj
        subst hj
        exact absurd (by simpa using hi) (hno i)
      | succ j =>
        rw [zIc h.2 i j x (by simpa using hi) (by simpa using hj)]
section
variable {P : Program} {nt : Nat} {F0 F : FH} {w0 w : World} {st : St} {m : MM} {a : Act}
theorem zq1 {l : List Nat} {v : AV} {i : Nat} (hv : v.okG1 l = true) (hi : v.has1 i = true) : i ∈ l := by
  cases v <;> simp only [AV.has1] at hi <;> first | (cases hi; done) | (rw [← Nat.eq_of_beq_eq_true hi]; exact zCL.1 hv)
theorem z5L {l : List Nat} {v : AV} {i : Nat} (ht : ∀ vs, v ≠ .tup vs) (hv : v.okG l = true) (hi : v.has i = true) : i ∈ l := by
  cases v with
  | tup vs => exact absurd rfl (ht vs)
  | fld b vs =>
    simp only [AV.has, List.any_eq_true] at hi
    obtain ⟨x, hx, hi⟩ := hi
    simp only [AV.okG, List.all_eq_true] at hv
    exact zq1 (hv x hx) hi
  | dat τ x => cases hi
  | clip τ x => cases hi
  | dead => cases hi
  | bp id p => exact zq1 (v := .bp id p) hv hi
  | rp id i p => exact zq1 (v := .rp id i p) hv hi
  | ow id => exact zq1 (v := .ow id) hv hi
  | om id => exact zq1 (v := .om id) hv hi
  | ds id i p => exact zq1 (v := .ds id i p) hv hi
  | dp id i p j q => exact zq1 (v := .dp id i p j q) hv hi
def MM.sel (m : MM) (l : List Nat) : MM := ⟨fun j => (l[j]?).bind m, fun j => match l[j]? with | some i => m.d i | none => fun _ _ => none⟩
theorem MM.sel_f {m : MM} {l : List Nat} {j : Nat} {b : Nat × Nat} (h : (m.sel l) j = some b) : ∃ i, l[j]? = some i ∧ m i = some b := Option.bind_eq_some_iff.1 h
theorem MM.sel_d {m : MM} {l : List Nat} {i k : Nat} {p : List Nat} {b : Nat × Nat} (h : (m.sel l).d i k p = some b) : ∃ x, l[i]? = some x ∧ m.d x k p = some b := by
  simp only [MM.sel] at h
  cases hx : l[i]? with
  | none => rw [hx] at h; cases h
  | some x => rw [hx] at h; exact ⟨x, rfl, h⟩
theorem MM.sel_at {m : MM} {l : List Nat} {i x : Nat} (h : l[i]? = some x) : (m.sel l) i = m x ∧ (m.sel l).d i = m.d x := by
  simp only [MM.sel, h, Option.bind_some, and_self]
theorem z6y (l : List Nat) (hi : Inv P nt F0 w0 st a w) : Inv P nt F0 w0 (z1w l st) a w := by
  unfold z1w
  cases hc : (zOQ l && (st.fr.all (fun p => p.2.okG l) && l.all fun i => match atN st.h i with | some o => o.okG l | none => true)) with
  | false => exact hi
  | true =>
    simp only [Bool.and_eq_true] at hc
    obtain ⟨h1, h2, h3⟩ := hc
    obtain ⟨m, F, h⟩ := hi
    refine ⟨m.sel l, F, ?_⟩
    have hR : ∀ i, i ∈ l → ∀ o, atN st.h i = some o → atN (l.map fun i => ((atN st.h i).getD .gone).ren l) (idxOf l i) = some (o.rn (idxOf l)) ∧ (m.sel l) (idxOf l i) = m i ∧ (m.sel l).d (idxOf l i) = m.d i := by
      intro i hil o ho
      have := zUz hil
      refine ⟨?_, MM.sel_at this⟩
      rw [qE, List.getElem?_map, this, Option.map_some, ho, Option.getD_some, Obj.ren_rn]
    have hV : ∀ {v : AV} {u : Value}, v.okG l = true → zT P st.h m F v u → zT P (l.map fun i => ((atN st.h i).getD .gone).ren l) (m.sel l) F (v.ren l) u := by
      intro v u hv hr
      rw [AV.ren_rn]
      exact hr.rn fun i hi o ho => hR i (z5L (fun vs e => by subst e; exact hr.elim) hv hi) o ho
    refine ⟨h.nt, fun t v ht => ?_, fun j u hu => ?_, fun i j b n n' hi hj => ?_, fun j b n hj => ?_, fun i j p b n hp => ?_, fun i1 j1 p1 b n i2 j2 p2 n' q1 q2 => ?_, h.fok, h.gro, h.bel, h.dfr⟩
    · simp only [cond_true] at ht
      rw [z1x] at ht
      obtain ⟨x, hx, rfl⟩ := Option.map_eq_some_iff.1 ht
      have hmem : ∀ (fr : List (Nat × AV)), look fr t = some x → ∃ p ∈ fr, p.2 = x := by
        intro fr
        induction fr with
        | nil => intro h; simp [look] at h
        | cons p fr ih =>
          intro h
          obtain ⟨k, y⟩ := p
          simp only [look] at h
          cases hb : Nat.beq k t with
          | true => rw [hb] at h; simp only [cond_true, Option.some.injEq] at h; exact ⟨(k, y), by simp, h⟩
          | false => rw [hb] at h; obtain ⟨p, hp, e⟩ := ih h; exact ⟨p, by simp [hp], e⟩
      obtain ⟨p, hp, rfl⟩ := hmem _ hx
      have hok := List.all_eq_true.1 h2 p hp
      have hr := h.fr t p.2 hx
      simp only [cond_true]
      cases hpv : p.2 with
      | tup vs =>
        rw [hpv] at hok hr
        exact zh.pure (h := st.h) (m := m) hok hr
      | _ =>
        rw [hpv] at hok hr
        rw [zh.eq1 (by intro vs e; cases e)] at hr
        refine zh.of1 ?_
        exact hV hok hr
    · simp only [cond_true] at hu ⊢
      rw [qE, List.getElem?_map] at hu
      obtain ⟨i, hi, rfl⟩ := Option.map_eq_some_iff.1 hu
      have hok := List.all_eq_true.1 h3 i (List.mem_of_getElem? hi)
      cases ho : atN st.h i with
      | none => rw [Option.getD_none]; trivial
      | some o =>
        rw [ho] at hok
        rw [Option.getD_some, Obj.ren_rn]
        refine (h.obs i o ho).rn (fun v f e i' hi' o' ho' => hR i' ?_ o' ho') (MM.sel_at hi).1 (MM.sel_at hi).2
        subst e
        refine z5L (fun vs e => ?_) hok hi'
        subst e
        obtain ⟨_, _, _, _, _, _, _, h5, _⟩ := (h.obs i _ ho)
        exact h5.elim
    · obtain ⟨x, hx, hi⟩ := MM.sel_f hi
      obtain ⟨y, hy, hj⟩ := MM.sel_f hj
      have := h.inj _ _ _ _ _ hi hj
      subst this
      exact zIc h1 i j x hx hy
    · obtain ⟨x, hx, hj⟩ := MM.sel_f hj
      have := h.rng _ _ _ hj
      refine ⟨?_, this.2⟩
      simp only [cond_true, List.length_map]
      exact (List.getElem?_eq_some_iff.1 hx).1
    · obtain ⟨x, hx, hp⟩ := MM.sel_d hp
      obtain ⟨⟨o, g1, g2⟩, g3, g4, g5, g6⟩ := h.dok _ _ _ _ _ hp
      refine ⟨⟨o.rn (idxOf l), ?_, by rw [zOY]; exact g2⟩, g3, g4, g5, fun i' n' hi' => ?_⟩
      · simp only [cond_true]
        rw [qE, List.getElem?_map, hx, Option.map_some, g1, Option.getD_some, Obj.ren_rn]
      · obtain ⟨y, hy, hi'⟩ := MM.sel_f hi'
        exact g6 _ _ hi'
    · obtain ⟨x, hx, q1⟩ := MM.sel_d q1
      obtain ⟨y, hy, q2⟩ := MM.sel_d q2
      obtain ⟨rfl, e2, e3⟩ := h.din _ _ _ _ _ _ _ _ _ q1 q2
      exact ⟨zIc h1 i1 i2 x hx hy, e2, e3⟩
theorem z7O (hi : Inv P nt F0 w0 st a w) : Inv P nt F0 w0 (St.gc st) a w := z6y _ hi
theorem z1U (live : Nat) (hi : Inv P nt F0 w0 st a w) : Inv P nt F0 w0 ⟨z5Z live st.fr, st.h⟩ a w := by
  obtain ⟨m, F, h⟩ := hi
  exact ⟨m, F, h.frames fun t v ht => zH8 (fun t => Nat.testBit live t) st.fr t v ht⟩
end
end Go.Ev
end
section
namespace Go.Ev
open Go.RowKit
set_option linter.unusedSimpArgs false
set_option linter.unusedVariables false
def Ex.of : Ex → Exit
  | .normal => .normal
  | .exit id => .exit id
  | .ret => .ret
section
variable {P : Program} {nt : Nat} {F0 G : FH} {w0 w : World} {E : Env} {R : Type} {a : Act} {Q : Exit → Act → World → Prop}
theorem z1V {p : Nat → Prop} (h : ∃ n, p n) : ∃ n, p n ∧ ∀ m, p m → n ≤ m := by
  obtain ⟨n, hn⟩ := h
  induction n using Nat.strongRecOn with
  | _ n ih =>
    by_cases hm : ∃ m, m < n ∧ p m
    · obtain ⟨m, h1, h2⟩ := hm
      exact ih m h1 h2
    · refine ⟨n, hn, fun m h => ?_⟩
      rcases Nat.lt_or_ge m n with h1 | h1
      · exact absurd ⟨m, h1, h⟩ hm
      · exact h1
open Classical in
noncomputable def leastOf (X : Nat → Act → World → Prop) (a : Act) (w : World) : Nat := if h : ∃ n, X n a w then Classical.choose (z1V h) else 0
theorem z7P {c : Code} (X : Nat → Act → World → Prop) (round : ∀ n a w, X n a w → c.wp P (Exit.then (fun a' w' => ∃ m, m < n ∧ X m a' w') Q) a w) {n : Nat} (h : X n a w) : (Code.loop c).wp P Q a w := by
  have hspec : ∀ {a : Act} {w : World}, (∃ n, X n a w) → X (leastOf X a w) a w ∧ ∀ m, X m a w → leastOf X a w ≤ m := by
    intro a w h
    unfold leastOf
    rw [dif_pos h]
    exact Classical.choose_spec (z1V h)
  refine wp_loop (fun a w => ∃ n, X n a w) (leastOf X) ⟨n, h⟩ fun a w hI => ?_
  refine wp_mono (round _ a w (hspec hI).1) fun e a' w' hq => ?_
  cases e with
  | normal =>
    obtain ⟨m, h1, h2⟩ := hq
    exact ⟨⟨m, h2⟩, Nat.lt_of_le_of_lt ((hspec ⟨m, h2⟩).2 m h2) h1⟩
  | _ => exact hq
def Goes (P : Program) (nt : Nat) (F0 : FH) (w0 : World) (k : Ex → St → Option R) (r : R) (Q : Exit → Act → World → Prop) : Prop :=
  ∀ e st a w, Inv P nt F0 w0 st a w → k e st = some r → Q e.of a w
theorem z9n (hm : P.follows .mixedOrders = true) (hE : z4 P G E) (hG : G.le F0) (hnt : E.nt = nt) {K fin : Nat} {r : R} :
    ∀ (c : Code) {lx : Nat → Nat} {ln : Nat} {k : Ex → St → Option R} {st : St} {a : Act} {w : World} {Q : Exit → Act → World → Prop}, Goes P nt F0 w0 k r Q → Inv P nt F0 w0 st a w → evC E K fin c lx ln k st = some r → c.wp P Q a w := by
  intro c
  induction c with
  | skip => intro lx ln k st a w Q hQ hi he; exact wp_skip (hQ .normal _ _ _ hi he)
  | label l => intro lx ln k st a w Q hQ hi he; exact wp_label (hQ .normal _ _ _ hi he)
  | exit id => intro lx ln k st a w Q hQ hi he; exact wp_exit (hQ (.exit id) _ _ _ hi he)
  | ret => intro lx ln k st a w Q hQ hi he; exact wp_ret (hQ .ret _ _ _ hi he)
  | region id ops d =>
    intro lx ln k st a w Q hQ hi he
    simp only [evC] at he
    cases d with
    | true =>
      simp only [cond_true] at he
      obtain ⟨h1, h2⟩ := zd he
      exact z9m hm hE hG hnt h1 (fun st a w hi hk => hQ .normal _ _ _ hi hk) hi h2
    | false =>
      simp only [cond_false] at he
      refine wp_region ?_
      have := z7K (Q := Q) hE hG hnt (fun st a w hi hk => hQ .normal _ _ _ hi hk) ops.toList [] st a w rfl hi he
      rw [List.range_eq_range']
      exact this
  | seq x y ihx ihy =>
    intro lx ln k st a w Q hQ hi he
    simp only [evC] at he
    refine wp_seq (ihx ?_ hi he)
    intro e st a w hi hk
    cases e with
    | normal => exact ihy hQ hi hk
    | exit id => exact hQ (.exit id) _ _ _ hi hk
    | ret => exact hQ .ret _ _ _ hi hk
  | cond c x y ihx ihy =>
    intro lx ln k st a w Q hQ hi he
    simp only [evC] at he
    split at he
    · rename_i t hc
      obtain ⟨m, F, h⟩ := id hi
      have hb := (zG hE hG h hc).bool
      cases ht : (show Bool from t) with
      | true =>
        have ht' : t = true := ht
        subst ht'
        exact wp_cond_true hb (ihx hQ hi he)
      | false =>
        have ht' : t = false := ht
        subst ht'
        exact wp_cond_false hb (ihy hQ hi he)
    · cases he
  | block id b ih =>
    intro lx ln k st a w Q hQ hi he
    simp only [evC] at he
    refine wp_block (ih ?_ hi he)
    intro e st a w hi hk
    cases e with
    | normal => exact hQ .normal _ _ _ hi hk
    | exit id' =>
      simp only [Ex.of, Exit.inBlock]
      by_cases e : id' = id
      · subst e
        rw [if_pos rfl]
        simp only [beq_self, cond_true] at hk
        exact hQ .normal _ _ _ hi hk
      · rw [if_neg e]
        simp only [zgC e, cond_false] at hk
        exact hQ (.exit id') _ _ _ hi hk
    | ret => exact hQ .ret _ _ _ hi hk
  | loop b ih =>
    intro lx ln k st a w Q hQ hi he
    simp only [evC] at he
    refine z7P (fun n a w => ∃ st, Inv P nt F0 w0 st a w ∧ zQG (lv fin (.loop b) lx ln) (evC E K fin b lx (lv fin (.loop b) lx ln)) k n st = some r) ?_ ⟨_, z7O (z1U _ hi), he⟩
    rintro n a w ⟨st, hi, he⟩
    cases n with
    | zero => cases he
    | succ n =>
      simp only [zQG] at he
      refine ih ?_ hi he
      intro e st a w hi hk
      cases e with
      | normal => exact ⟨n, Nat.lt_succ_self n, _, z7O (z1U _ hi), hk⟩
      | exit id => exact hQ (.exit id) _ _ _ hi hk
      | ret => exact hQ .ret _ _ _ hi hk
  | scope b ih =>
    intro lx ln k st a w Q hQ hi he
    simp only [evC] at he
    refine wp_scope_straight (ih ?_ hi he)
    intro e st a w hi hk
    cases e with
    | normal => exact hQ .normal _ _ _ hi hk
    | exit id => exact hQ (.exit id) _ _ _ hi hk
    | ret => exact hQ .ret _ _ _ hi hk
  | _ => intro lx ln k st a w Q hQ hi he; simp [evC] at he
end
end Go.Ev
end
section
namespace Go.Ev
open Go.RowKit
set_option linter.unusedSimpArgs false
set_option linter.unusedVariables false
section
variable {P : Program} {nt : Nat} {F0 F G : FH} {w0 w : World} {st st' : St} {m : MM} {a : Act} {E : Env} {v : AV} {u : Value}
theorem z4e : ∀ {τ : Ty} {x : τ.I} {i t : Nat} {v : AV} {vs : List Value}, look (params τ x i) t = some v → yP P F τ x vs → i ≤ t ∧ ∃ σ y u, v = .dat σ y ∧ vs[t - i]? = some u ∧ ql P F σ y u := by
  intro τ
  induction τ with
  | pair a b _ ihb =>
    rintro x i t v vs h ⟨u, r, rfl, h1, h2, h3⟩
    simp only [params] at h
    by_cases e : i = t
    · subst e
      simp only [look, beq_self, cond_true, Option.some.injEq] at h
      exact ⟨Nat.le_refl _, a, x.1, u, h.symm, by simp, h1, h2⟩
    · simp only [look, zgC e, cond_false] at h
      obtain ⟨g1, σ, y, u', g2, g3, g4⟩ := ihb h h3
      refine ⟨by omega, σ, y, u', g2, ?_, g4⟩
      rw [show t - i = (t - (i + 1)) + 1 by omega, List.getElem?_cons_succ]
      exact g3
  | _ => intro x i t v vs h; simp [params, look] at h
theorem Rel.enter {τ : Ty} {x : τ.I} {vs : List Value} (hk : F0.ok w) (hr : yP P F0 τ x vs) (n : Nat) :
    Rel P n F0 w ⟨params τ x 0, []⟩ MM.emp F0 { tmps := vs.toArray ++ Array.replicate (n - vs.toArray.size) undef, defers := [] } w := by
  refine ⟨by simp; omega, fun t v ht => ?_, fun i o ho => (by simp [atN] at ho), fun _ _ _ _ _ h => (nomatch h), fun _ _ _ h => (nomatch h), fun _ _ _ _ _ h => (nomatch h), fun _ _ _ _ _ _ _ _ _ h => (nomatch h), hk, ⟨.refl F0, fun _ _ => rfl⟩, ⟨rfl, rfl, rfl, Nat.le_refl _, fun _ _ => rfl⟩, rfl⟩
  obtain ⟨_, σ, y, u, rfl, h2, h3⟩ := z4e ht hr
  rw [Nat.sub_zero] at h2
  have hlt := (List.getElem?_eq_some_iff.1 h2).1
  have : (vs.toArray ++ Array.replicate (n - vs.toArray.size) undef).getD t undef = u := by
    rw [Array.getD_eq_getD_getElem?, Array.getElem?_append_left (by simpa using hlt)]
    simp [h2]
  rw [this]
  exact h3
def zO0 (tmps : Array Value) : ResultVar → Sem Value
  | .tmp t => pure (tmps.getD t undef)
  | .cell a t => do loadVar t (← asAddr (tmps.getD a undef))
theorem z6z (fn : Func) (tmps : Array Value) : results fn tmps = (do let vs ← fn.results.mapM (zO0 tmps); pure (if h : vs.size = 1 then vs[0] else .tuple vs)) := rfl
theorem z7Q {rv : ResultVar} (hE : z4 P G E) (h : Rel P nt F0 w0 st m F a w) (hr : zGD E st rv = some v) :
    ∃ u, (zO0 a.tmps rv).run P w = .ok u w ∧ zh P st.h m F v u := by
  cases rv with
  | tmp t => exact ⟨_, rfl, h.fr t v hr⟩
  | cell d t =>
    simp only [zGD] at hr
    split at hr
    · rename_i id hl
      have hx := h.fr d _ hl
      have key : ∀ (y : AV) (f : Bool), atN st.h id = some (.bx y f) → zaU E t (.bp id []) st pk = some (v, st) →
          ∃ u, (zO0 a.tmps (.cell d t)).run P w = .ok u w ∧ zh P st.h m F v u := by
        intro y f ho he
        obtain ⟨u, h1, _, h2⟩ := zLL hE h hx he
        obtain ⟨b, n, off, _, hp, _⟩ := hx.bpAt ho
        refine ⟨u, ?_, h2⟩
        simp only [zO0]
        rw [hp] at h1 ⊢
        simpa [Instr.loadAt, Instr.sureAddr, asAddr] using h1
      split at hr
      · rename_i τ x f ho
        obtain ⟨h1, h2⟩ := zd hr
        cases h2
        refine key _ _ ho ?_
        simp only [zaU, ho, qs, h1, cond_true]
        unfold kAV
        split
        · have : ∀ b : Bool, kB b st pk = some (.dat .bool b, st) := fun b => by cases b <;> rfl
          rename_i b hq
          cases hq
          exact this b
        · rfl
      · rename_i b vs f ho
        obtain ⟨h1, h2⟩ := zd hr
        cases h2
        refine key _ _ ho ?_
        simp only [zaU, ho, h1, cond_true]
      · rename_i y f hnd hnf ho
        obtain ⟨h1, h2⟩ := zd hr
        cases h2
        refine key _ _ ho ?_
        simp only [zaU, ho]
        cases v <;> first | (simp only [h1, cond_true]; done) | exact absurd rfl (hnd _ _) | exact absurd rfl (hnf _ _) | (simp only [h1, cond_true]; rfl)
      · cases hr
    · cases hr
theorem z4f {f : Func} {vs : List AV} (hE : z4 P G E) (h : Rel P nt F0 w0 st m F a w) (hr : f.results.toList.map (zGD E st) = vs.map some) :
    ∃ us, (results f a.tmps).run P w = .ok (zLG us) w ∧ zqo P st.h m F vs us := by
  have key : ∀ (l : List ResultVar) (vs : List AV), l.map (zGD E st) = vs.map some → ∃ us : List Value, (l.mapM (zO0 a.tmps)).run P w = .ok us w ∧ zqo P st.h m F vs us := by
    intro l
    induction l with
    | nil =>
      intro vs h
      cases vs with
      | nil => exact ⟨[], by simp, rfl⟩
      | cons _ _ => simp at h
    | cons rv l ih =>
      intro vs hl
      cases vs with
      | nil => simp at hl
      | cons v vs =>
        simp only [List.map_cons, List.cons.injEq] at hl
        obtain ⟨us, h1, h2⟩ := ih vs hl.2
        obtain ⟨u, h3, h4⟩ := z7Q hE h hl.1
        refine ⟨u :: us, ?_, u, us, rfl, h4, h2⟩
        simp only [List.mapM_cons, Sem.run_bind]
        rw [h3]
        simp only [Result.andThen_ok, h1, Sem.run_pure]
  obtain ⟨us, h1, h2⟩ := key _ _ hr
  refine ⟨us, ?_, h2⟩
  rw [z6z, Array.mapM_eq_mapM_toList, ← bind_pure_comp]
  simp only [Sem.run_bind, h1, Result.andThen_ok, Sem.run_pure]
  match us with
  | [] => rfl
  | [u] => rfl
  | u :: v :: us => rfl
theorem zMZ {α : Type} : ∀ {l : List (Option α)}, l.all Option.isSome = true → l = (l.filterMap id).map some
  | [], _ => rfl
  | none :: l, h => by simp at h
  | some x :: l, h => by
    simp only [List.all_cons, Option.isSome_some, Bool.true_and] at h
    simp only [List.filterMap_cons, id, List.map_cons, ← zMZ h]
def zcZ (h0 h : List Obj) : Prop := h0.length = h.length ∧ ∀ i, atN h0 i = some .gone ∨ atN h0 i = atN h i
theorem zcZ.refl (h : List Obj) : zcZ h h := ⟨rfl, fun _ => .inr rfl⟩
theorem zcZ.at {h0 h : List Obj} (l : zcZ h0 h) {i : Nat} {o : Obj} (ho : atN h0 i = some o) (hg : o ≠ .gone) : atN h i = some o := by
  rcases l.2 i with e | e
  · rw [e] at ho; cases ho; exact absurd rfl hg
  · rw [← e]; exact ho
theorem zcZ.gone {h0 h : List Obj} (l : zcZ h0 h) {i : Nat} {o : Obj} (ho : atN h0 i = some o) : zcZ (zk h0 i .gone) h := by
  refine ⟨by simp only [vT, List.length_set]; exact l.1, fun j => ?_⟩
  by_cases e : i = j
  · subst e; exact .inl (zck ho)
  · rw [jy e]; exact l.2 j
theorem zcZ.set {h0 h : List Obj} (l : zcZ h0 h) {i : Nat} {o o' : Obj} (ho : atN h0 i = some o) (hg : o ≠ .gone) : zcZ (zk h0 i o') (zk h i o') := by
  refine ⟨by simp only [vT, List.length_set]; exact l.1, fun j => ?_⟩
  by_cases e : i = j
  · subst e; right; rw [zck ho, zck (l.at ho hg)]
  · rw [jy e, jy e]; exact l.2 j
def Kept (h0 h h0' h' : List Obj) : Prop := zcZ h0' h' ∧ ∀ i, atN h0 i = some .gone → atN h0' i = some .gone ∧ atN h' i = atN h i
theorem Kept.refl {h0 h : List Obj} (l : zcZ h0 h) : Kept h0 h h0 h := ⟨l, fun _ h => ⟨h, rfl⟩⟩
theorem Kept.trans {h0 h h1 h' h2 h'' : List Obj} (a : Kept h0 h h1 h') (b : Kept h1 h' h2 h'') : Kept h0 h h2 h'' :=
  ⟨b.1, fun i hi => ⟨(b.2 i (a.2 i hi).1).1, (b.2 i (a.2 i hi).1).2.trans (a.2 i hi).2⟩⟩
theorem Kept.set {h0 h : List Obj} (l : zcZ h0 h) {i : Nat} {o o' : Obj} (ho : atN h0 i = some o) (hg : o ≠ .gone) : Kept h0 h (zk h0 i o') (zk h i o') := by
  refine ⟨l.set ho hg, fun j hj => ?_⟩
  have e : i ≠ j := by rintro rfl; rw [ho] at hj; cases hj; exact hg rfl
  rw [jy e, jy e]; exact ⟨hj, rfl⟩
theorem zyz {q : Bool} {fr : List (Nat × AV)} {h0 h : List Obj} {τ : Ty} {x : τ.I} {st' : St} (l : zcZ h0 h) (hz : vI q ⟨fr, h0⟩ v = some ⟨τ, x, st'⟩) : ∃ h', vI q ⟨fr, h⟩ v = some ⟨τ, x, ⟨fr, h'⟩⟩ ∧ st'.fr = fr ∧ Kept h0 h st'.h h' := by
  cases v with
  | dat τ' y => simp only [vI, Option.some.injEq] at hz; cases hz; exact ⟨h, rfl, rfl, .refl l⟩
  | clip τ' y => simp only [vI, Option.some.injEq] at hz; cases hz; exact ⟨h, rfl, rfl, .refl l⟩
  | ow id =>
    simp only [vI] at hz ⊢
    split at hz
    · rename_i σ xs ho
      cases hz
      rw [l.at ho (by intro e; cases e)]
      exact ⟨h, rfl, rfl, .refl l⟩
    · rename_i σ xs ho
      cases q with
      | true => cases hz
      | false =>
        cases hz
        rw [l.at ho (by intro e; cases e)]
        exact ⟨_, rfl, rfl, .set l ho (by intro e; cases e)⟩
    · rename_i σ xs k ho
      cases q with
      | true => cases hz
      | false =>
        cases hz
        rw [l.at ho (by intro e; cases e)]
        exact ⟨_, rfl, rfl, .set l ho (by intro e; cases e)⟩
    · cases hz
  | bp id p =>
    cases p with
    | cons _ _ => simp [vI] at hz
    | nil =>
      simp only [vI] at hz ⊢
      split at hz
      · rename_i σ y ho
        cases hz
        rw [l.at ho (by intro e; cases e)]
        exact ⟨h, rfl, rfl, .refl l⟩
      · rename_i σ y ho
        cases q with
        | true => cases hz
        | false =>
          cases hz
          rw [l.at ho (by intro e; cases e)]
          exact ⟨_, rfl, rfl, .set l ho (by intro e; cases e)⟩
      · cases hz
  | _ => simp [vI] at hz
theorem z4g {q : Bool} {σ : Ty} {fr : List (Nat × AV)} {h0 h : List Obj} {x : σ.I} {st' : St} (l : zcZ h0 h) (hz : zdV q σ ⟨fr, h0⟩ v = some (x, st')) : ∃ h', zdV q σ ⟨fr, h⟩ v = some (x, ⟨fr, h'⟩) ∧ st'.fr = fr ∧ Kept h0 h st'.h h' := by
  unfold zdV at hz ⊢
  split at hz
  · rename_i τ y st1 hz1
    obtain ⟨h', e1, e2, e3⟩ := zyz l hz1
    rw [e1]
    split at hz
    · rename_i z hc
      cases hz
      exact ⟨h', by simp only [hc], e2, e3⟩
    · cases hz
  · cases hz
theorem z1W {q : Bool} {fr : List (Nat × AV)} : ∀ {τ : Ty} {vs : List AV} {h0 h : List Obj} {x : τ.I} {st' : St}, zcZ h0 h → yc q τ vs ⟨fr, h0⟩ = some (x, st') → ∃ h', yc q τ vs ⟨fr, h⟩ = some (x, ⟨fr, h'⟩) ∧ st'.fr = fr ∧ Kept h0 h st'.h h' := by
  intro τ
  induction τ with
  | unit => intro vs h0 h x st' l hz; cases vs <;> first | (cases hz; exact ⟨h, rfl, rfl, .refl l⟩) | cases hz
  | pair a b _ ihb =>
    intro vs h0 h x st' l hz
    cases vs with
    | nil => cases hz
    | cons v vs =>
      simp only [yc] at hz ⊢
      split at hz
      · rename_i y st1 hy
        split at hz
        · rename_i ys st2 hys
          cases hz
          obtain ⟨h', e1, e2, e3⟩ := z4g l hy
          obtain ⟨f1, h1⟩ := st1
          cases e2
          obtain ⟨h'', g1, g2, g3⟩ := ihb e3.1 hys
          rw [e1]
          exact ⟨h'', by simp only [g1], g2, e3.trans g3⟩
        · cases hz
      · cases hz
  | _ => intro vs h0 h x st' l hz; cases vs <;> cases hz
theorem z8H {q : Bool} {fr : List (Nat × AV)} {h0 h : List Obj} {τ : Ty} {x : τ.I} {st' : St} (l : zcZ h0 h) (hz : frz q ⟨fr, h0⟩ v = some ⟨τ, x, st'⟩) : ∃ h', frz q ⟨fr, h⟩ v = some ⟨τ, x, ⟨fr, h'⟩⟩ ∧ st'.fr = fr ∧ Kept h0 h st'.h h' := by
  cases v with
  | fld b vs =>
    simp only [frz] at hz ⊢
    split at hz
    · rename_i y st1 hy
      cases hz
      obtain ⟨h', e1, e2, e3⟩ := z1W l hy
      exact ⟨h', by simp only [e1], e2, e3⟩
    · cases hz
  | dat τ x => exact zyz (q := q) (v := .dat τ x) l hz
  | clip τ x => exact zyz (q := q) (v := .clip τ x) l hz
  | bp id p => exact zyz (q := q) (v := .bp id p) l hz
  | ow id => exact zyz (q := q) (v := .ow id) l hz
  | _ => cases hz
theorem z6A {q : Bool} {σ : Ty} {fr : List (Nat × AV)} {h0 h : List Obj} {x : σ.I} {st' : St} (l : zcZ h0 h) (hz : zqn q σ ⟨fr, h0⟩ v = some (x, st')) : ∃ h', zqn q σ ⟨fr, h⟩ v = some (x, ⟨fr, h'⟩) ∧ st'.fr = fr ∧ Kept h0 h st'.h h' := by
  unfold zqn at hz ⊢
  split at hz
  · rename_i τ y st1 hz1
    obtain ⟨h', e1, e2, e3⟩ := z8H l hz1
    rw [e1]
    split at hz
    · rename_i z hc
      cases hz
      exact ⟨h', by simp only [hc], e2, e3⟩
    · cases hz
  · cases hz
theorem zId {q : Bool} {fr : List (Nat × AV)} : ∀ {τ : Ty} {vs : List AV} {h0 h : List Obj} {x : τ.I} {st' : St}, zcZ h0 h → yt q τ vs ⟨fr, h0⟩ = some (x, st') → ∃ h', yt q τ vs ⟨fr, h⟩ = some (x, ⟨fr, h'⟩) ∧ st'.fr = fr ∧ Kept h0 h st'.h h' := by
  intro τ
  induction τ with
  | unit => intro vs h0 h x st' l hz; cases vs <;> first | (cases hz; exact ⟨h, rfl, rfl, .refl l⟩) | cases hz
  | pair a b _ ihb =>
    intro vs h0 h x st' l hz
    cases vs with
    | nil => cases hz
    | cons v vs =>
      simp only [yt] at hz ⊢
      split at hz
      · rename_i y st1 hy
        split at hz
        · rename_i ys st2 hys
          cases hz
          obtain ⟨h', e1, e2, e3⟩ := z6A l hy
          obtain ⟨f1, h1⟩ := st1
          cases e2
          obtain ⟨h'', g1, g2, g3⟩ := ihb e3.1 hys
          rw [e1]
          exact ⟨h'', by simp only [g1], g2, e3.trans g3⟩
        · cases hz
      · cases hz
  | _ => intro vs h0 h x st' l hz; cases vs <;> cases hz
end
section
variable {P : Program} {nt : Nat} {F0 F G : FH} {w0 w : World} {st st' : St} {m : MM} {a : Act} {E : Env} {v : AV} {u : Value}
def zIe (ids : Nat → Option Nat) (h : List Obj) : (b : Ty) → Nat → b.I → List AV → Prop
  | .pair (.sl σ) b, i, x, v :: vs => (∃ id, v = .ow id ∧ ids i = some id ∧ atN h id = some (mkO σ (bif σ.deep then some (List.length x.1) else none) x.1)) ∧ zIe ids h b (i + 1) x.2 vs
  | .pair a b, i, x, v :: vs => v = .dat a x.1 ∧ zIe ids h b (i + 1) x.2 vs
  | .unit, _, _, [] => True
  | _, _, _, _ => False
theorem zIe.ids {ids ids' : Nat → Option Nat} {h : List Obj} : ∀ {b : Ty} {i : Nat} {x : b.I} {vs : List AV}, (∀ f, i ≤ f → ids' f = ids f) → zIe ids h b i x vs → zIe ids' h b i x vs := by
  intro b
  induction b with
  | unit => intro i x vs _ ho; cases vs <;> exact ho
  | pair t b _ ihb =>
    intro i x vs hi ho
    cases vs with
    | nil => cases t <;> exact ho.elim
    | cons v vs =>
      cases t with
      | sl σ =>
        obtain ⟨⟨id, h1, h2, h3⟩, h4⟩ := ho
        exact ⟨⟨id, h1, by rw [hi i (Nat.le_refl _)]; exact h2, h3⟩, ihb (fun f hf => hi f (by omega)) h4⟩
      | _ => exact ⟨ho.1, ihb (fun f hf => hi f (by omega)) ho.2⟩
  | _ => intro i x vs _ ho; cases vs <;> exact ho.elim
theorem zIe.heap {ids : Nat → Option Nat} {h h' : List Obj} : ∀ {b : Ty} {i : Nat} {x : b.I} {vs : List AV}, (∀ f id, ids f = some id → atN h' id = atN h id) → zIe ids h b i x vs → zIe ids h' b i x vs := by
  intro b
  induction b with
  | unit => intro i x vs _ ho; cases vs <;> exact ho
  | pair t b _ ihb =>
    intro i x vs hi ho
    cases vs with
    | nil => cases t <;> exact ho.elim
    | cons v vs =>
      cases t with
      | sl σ =>
        obtain ⟨⟨id, h1, h2, h3⟩, h4⟩ := ho
        exact ⟨⟨id, h1, h2, by rw [hi _ _ h2]; exact h3⟩, ihb hi h4⟩
      | _ => exact ⟨ho.1, ihb hi ho.2⟩
  | _ => intro i x vs _ ho; cases vs <;> exact ho.elim
theorem z7R {h h0 h1 : List Obj} (hdr : ∀ i τ xs k, atN h i = some (.drow τ xs k) → τ.deep = true) {t : Ty} {x : t.I} (hz : zSg h0 t v = some (x, h1)) (l : zcZ h0 h) :
    (v = .dat t x ∧ t.dl = false ∧ h1 = h0) ∨ ∃ (σ : Ty) (xs : List σ.I) (id : Nat), (⟨t, x⟩ : (τ : Ty) × τ.I) = ⟨.sl σ, xs⟩ ∧ v = .ow id ∧ atN h id = some (mkO σ (bif σ.deep then some (List.length xs) else none) xs) ∧ atN h0 id ≠ some .gone ∧ (∃ o, atN h0 id = some o) ∧ h1 = zk h0 id .gone := by
  cases v with
  | dat τ y =>
    simp only [zSg] at hz
    obtain ⟨hdl, hz⟩ := zcX hz
    split at hz
    · rename_i z hc
      cases hz
      obtain ⟨rfl, rfl⟩ := z7 hc
      exact .inl ⟨rfl, hdl, rfl⟩
    · cases hz
  | ow id =>
    simp only [zSg] at hz
    right
    split at hz
    · rename_i τ xs ho
      obtain ⟨hd, hz⟩ := zcX hz
      split at hz
      · rename_i z hc
        cases hz
        obtain ⟨e, rfl⟩ := z7 hc
        subst e
        refine ⟨τ, xs, id, rfl, rfl, ?_, (by rw [ho]; intro e; cases e), ⟨_, ho⟩, rfl⟩
        rw [l.at ho (by intro e; cases e), hd]
        rfl
      · cases hz
    · rename_i τ xs n ho
      split at hz
      · rename_i z hc
        obtain ⟨hn, hz⟩ := zd hz
        cases hz
        obtain ⟨e, rfl⟩ := z7 hc
        subst e
        have hat := l.at ho (by intro e; cases e)
        refine ⟨τ, xs, id, rfl, rfl, ?_, (by rw [ho]; intro e; cases e), ⟨_, ho⟩, rfl⟩
        rw [hat, hdr _ _ _ _ hat, of_decide_eq_true hn]
        rfl
      · cases hz
    · cases hz
  | _ => cases hz
theorem zYW {h : List Obj} (hdr : ∀ i τ xs k, atN h i = some (.drow τ xs k) → τ.deep = true) : ∀ {b : Ty} {vs : List AV} {x : b.I} {h0 h1 : List Obj} (i : Nat), zWQ b vs h0 = some (x, h1) → zcZ h0 h →
    ∃ ids : Nat → Option Nat, zIe ids h b i x vs ∧ zcZ h1 h ∧ (∀ f id, ids f = some id → i ≤ f ∧ atN h0 id ≠ some .gone ∧ atN h1 id = some .gone ∧ ∃ σ k xs, atN h id = some (mkO σ k xs)) ∧ (∀ j, atN h0 j = some .gone → atN h1 j = some .gone) ∧
      ∀ f f' id, ids f = some id → ids f' = some id → f = f' := by
  intro b
  induction b with
  | unit =>
    intro vs x h0 h1 i hz l
    cases vs with
    | nil => cases hz; exact ⟨fun _ => none, trivial, l, fun f id e => (by cases e), fun _ h => h, fun f f' id e => (by cases e)⟩
    | cons _ _ => cases hz
  | pair t b _ ihb =>
    intro vs x h0 h1 i hz l
    cases vs with
    | nil => cases hz
    | cons v vs =>
      simp only [zWQ] at hz
      split at hz
      · rename_i y h2 hy
        split at hz
        · rename_i ys h3 hys
          cases hz
          rcases z7R hdr hy l with ⟨rfl, hdl, rfl⟩ | ⟨σ, xs, id, e, rfl, hat, hng, ⟨o, ho⟩, rfl⟩
          · obtain ⟨ids, g1, g2, g3, g4, g5⟩ := ihb (i + 1) hys l
            refine ⟨ids, ?_, g2, fun f id hf => ⟨by have := (g3 f id hf).1; omega, (g3 f id hf).2⟩, g4, g5⟩
            cases t with
            | sl σ => cases hdl
            | _ => exact ⟨rfl, g1⟩
          · cases e
            obtain ⟨ids, g1, g2, g3, g4, g5⟩ := ihb (i + 1) hys (l.gone ho)
            have hid : atN (zk h0 id .gone) id = some .gone := zck ho
            have hids : ∀ f, i + 1 ≤ f → (if f = i then some id else ids f) = ids f := fun f hf => by rw [if_neg (by omega)]
            refine ⟨fun f => if f = i then some id else ids f, ⟨⟨id, rfl, if_pos rfl, hat⟩, g1.ids hids⟩, g2, fun f id' hf => ?_, fun j hj => ?_, fun f f' id' hf hf' => ?_⟩
            · by_cases e : f = i
              · simp only [e, if_true, Option.some.injEq] at hf
                subst hf
                exact ⟨by omega, hng, g4 _ hid, σ, _, _, hat⟩
              · simp only [e, if_false] at hf
                obtain ⟨k1, k2, k3, k4⟩ := g3 f id' hf
                refine ⟨by omega, fun hg => k2 ?_, k3, k4⟩
                by_cases e2 : id = id'
                · rw [← e2]; exact hid
                · rw [jy e2]; exact hg
            · refine g4 j ?_
              by_cases e2 : id = j
              · rw [← e2]; exact hid
              · rw [jy e2]; exact hj
            · by_cases e : f = i <;> by_cases e' : f' = i
              · omega
              · simp only [e, if_true, Option.some.injEq] at hf
                simp only [e', if_false] at hf'
                subst hf
                exact absurd hid (g3 f' _ hf').2.1
              · simp only [e, if_false] at hf
                simp only [e', if_true, Option.some.injEq] at hf'
                subst hf'
                exact absurd hid (g3 f _ hf).2.1
              · simp only [e, if_false] at hf
                simp only [e', if_false] at hf'
                exact g5 f f' id' hf hf'
        · cases hz
      · cases hz
  | _ => intro vs x h0 h1 i hz l; cases vs <;> cases hz
def MM.ofI (m : MM) (ids : Nat → Option Nat) : Nat → Nat → List Nat → Option (Nat × Nat) := fun f => match ids f with | some id => m.d id | none => fun _ _ => none
theorem MM.ofI_some {m : MM} {ids : Nat → Option Nat} {f j : Nat} {p : List Nat} {b : Nat × Nat} (h : m.ofI ids f j p = some b) : ∃ id, ids f = some id ∧ m.d id j p = some b := by
  unfold MM.ofI at h
  cases hi : ids f with
  | none => rw [hi] at h; cases h
  | some id => rw [hi] at h; exact ⟨id, rfl, h⟩
theorem z5M (h : Rel P nt F0 w0 st m F a w) {ids : Nat → Option Nat} : ∀ {b : Ty} {i : Nat} {x : b.I} {vs : List AV} {cs : List Value}, zIe ids st.h b i x vs → qw P st.h m F b vs cs → zH9 P F w (fun f => (ids f).bind m) (m.ofI ids) b i x cs := by
  intro b
  induction b with
  | unit =>
    intro i x vs cs ho hv
    cases vs with
    | nil => exact hv
    | cons _ _ => exact hv.elim
  | pair t b _ ihb =>
    intro i x vs cs ho hv
    cases vs with
    | nil => exact hv.elim
    | cons v vs =>
      obtain ⟨c, d, rfl, h1, h2⟩ := hv
      cases t with
      | sl σ =>
        obtain ⟨⟨id, rfl, hi, hat⟩, h4⟩ := ho
        obtain ⟨σ', u, e1, rfl, hs, _⟩ := h1
        cases e1
        refine ⟨u, d, rfl, ⟨fun j p bk n hp => ?_, ?_⟩, ihb h4 h2⟩
        · obtain ⟨id', hi', hp⟩ := MM.ofI_some hp
          rw [hi] at hi'; cases hi'
          obtain ⟨⟨o, g1, g2⟩, _⟩ := h.dok _ _ _ _ _ hp
          rw [hat] at g1
          cases g1
          cases hd : σ.deep with
          | false => rw [hd] at g2; cases g2
          | true =>
            rw [hd] at g2
            simp only [cond_true, mkO, Obj.deepAt, decide_eq_true_eq] at g2
            exact ⟨rfl, g2⟩
        · have hq := qm.owAt hat (zKh _ _ _) hs
          show match (ids i).bind m with | some (b, n) => _ | none => _
          rw [hi, Option.bind_some]
          cases hmi : m id with
          | none =>
            rw [hmi] at hq
            exact ⟨z1J (h.obs _ _ hat) hmi, hq.2⟩
          | some bn =>
            obtain ⟨bk, n⟩ := bn
            rw [hmi] at hq
            obtain ⟨cap, g1, g2, g3⟩ := hq
            refine ⟨cap, g1, g2, g3, ?_⟩
            have := zLT (h.obs _ _ hat) hmi
            have hd : m.ofI ids i = m.d id := by unfold MM.ofI; rw [hi]
            rw [hd]
            exact this
      | _ =>
        obtain ⟨rfl, h4⟩ := ho
        exact ⟨c, d, rfl, h1.2, ihb h4 h2⟩
  | _ => intro i x vs cs ho; cases vs <;> exact ho.elim
theorem ownB_of (h : Rel P nt F0 w0 st m F a w) {ids : Nat → Option Nat} (hat : ∀ f id, ids f = some id → ∃ σ k xs, atN st.h id = some (mkO σ k xs)) (hinj : ∀ f f' id, ids f = some id → ids f' = some id → f = f') : z53 F w w0.heap.size (fun f => (ids f).bind m) (m.ofI ids) := by
  refine ⟨fun f b n hf => ?_, fun f j p b n hp => ?_, fun f f' b n n' hf hf' => ?_, fun f j p b n f' j' p' n' hp hp' => ?_, fun f b n f' j p n' hf hp => ?_⟩
  · obtain ⟨id, hi, hf⟩ := Option.bind_eq_some_iff.1 hf
    obtain ⟨σ, k, xs, ho⟩ := hat f id hi
    obtain ⟨el, cs, c, d, _, _, _, hF, _⟩ := zLT (h.obs _ _ ho) hf
    have := h.rng _ _ _ hf
    exact ⟨this.2.1, this.2.2, hF⟩
  · obtain ⟨id, hi, hp⟩ := MM.ofI_some hp
    have := h.dok _ _ _ _ _ hp
    exact ⟨this.2.1, this.2.2.1, this.2.2.2.1⟩
  · obtain ⟨id, hi, hf⟩ := Option.bind_eq_some_iff.1 hf
    obtain ⟨id', hi', hf'⟩ := Option.bind_eq_some_iff.1 hf'
    have := h.inj _ _ _ _ _ hf hf'
    subst this
    exact hinj _ _ _ hi hi'
  · obtain ⟨id, hi, hp⟩ := MM.ofI_some hp
    obtain ⟨id', hi', hp'⟩ := MM.ofI_some hp'
    obtain ⟨rfl, e2, e3⟩ := h.din _ _ _ _ _ _ _ _ _ hp hp'
    exact ⟨hinj _ _ _ hi hi', e2, e3⟩
  · obtain ⟨id, hi, hf⟩ := Option.bind_eq_some_iff.1 hf
    obtain ⟨id', hi', hp⟩ := MM.ofI_some hp
    exact (h.dok _ _ _ _ _ hp).2.2.2.2 _ _ hf
theorem z8I {ρ : Type} {h : List Obj} {σ : Ty} {v : AV} {k : σ.I → List Obj → Option ρ} : z50 h σ v k = (zSg h σ v).bind fun p => k p.1 p.2 := by
  unfold z50 zSg
  cases v with
  | dat τ x =>
    simp only
    cases τ.dl with
    | true => rfl
    | false => simp only [cond_false]; cases vi τ σ x <;> rfl
  | ow id =>
    simp only
    cases atN h id with
    | none => rfl
    | some o =>
      cases o with
      | row τ xs f =>
        cases f with
        | true => rfl
        | false =>
          simp only
          cases τ.deep with
          | true => rfl
          | false => simp only [cond_false]; cases vi (.sl τ) σ xs <;> rfl
      | drow τ xs n =>
        simp only
        cases vi (.sl τ) σ xs with
        | none => rfl
        | some x => simp only; cases decide (n = List.length xs) <;> rfl
      | _ => rfl
  | _ => rfl
theorem z1X {ρ : Type} : ∀ {σ : Ty} {vs : List AV} {h : List Obj} {k : σ.I → List Obj → Option ρ}, zT4 σ vs h k = (zWQ σ vs h).bind fun p => k p.1 p.2 := by
  intro σ
  induction σ with
  | unit => intro vs h k; cases vs <;> rfl
  | pair a b _ ihb =>
    intro vs h k
    cases vs with
    | nil => rfl
    | cons v vs =>
      simp only [zT4, zWQ, z8I, ihb]
      cases zSg h a v with
      | none => rfl
      | some p =>
        obtain ⟨x, h1⟩ := p
        simp only [Option.bind_some]
        cases zWQ b vs h1 <;> rfl
  | _ => intro vs h k; cases vs <;> rfl
theorem z7S {md : Nat} {r : Ty} {y : r.I} {vs : List AV} {us : List Value} (h : Rel P nt F0 w0 st m F a w) (hv : zqo P st.h m F vs us) (hz : z51 md r vs st = some y) :
    ∃ F', F0.grow F' w0.heap.size ∧ F'.ok w ∧ zy3 P F' w w0.heap.size md r y us := by
  unfold z51 at hz
  split at hz
  ·
    rename_i b c v vs
    split at hz
    · rename_i x h1 hx
      split at hz
      · rename_i p hp
        cases hz
        obtain ⟨u, r, rfl, hv1, hv2⟩ := hv
        obtain ⟨id, k, rfl, hat, rfl, hkr⟩ : ∃ id k, v = .ow id ∧ atN st.h id = some (mkO b k x) ∧ h1 = zk st.h id .gone ∧ (k = none ∨ k = some 0) := by
          unfold ownRow at hx
          split at hx
          · rename_i id
            split at hx
            · rename_i τ xs ho
              split at hx
              · rename_i z hc
                cases hx
                obtain ⟨e, rfl⟩ := z7 hc
                cases e
                exact ⟨id, none, rfl, ho, rfl, .inl rfl⟩
              · cases hx
            · rename_i τ xs n ho
              split at hx
              · rename_i z hc
                obtain ⟨hn, hx⟩ := zd hx
                cases hx
                obtain ⟨e, rfl⟩ := z7 hc
                cases e
                have hn : n = 0 := of_decide_eq_true hn
                subst hn
                exact ⟨id, some 0, rfl, ho, rfl, .inr rfl⟩
              · cases hx
            · cases hx
          · cases hx
        obtain ⟨st2fr, st2h⟩ := st
        have l : zcZ (zk st2h id .gone) st2h := (zcZ.refl st2h).gone hat
        obtain ⟨h', e1, e2, e3⟩ := zId l (show yt false c vs ⟨st2fr, zk st2h id .gone⟩ = some (p.1, p.2) from hp)
        obtain ⟨m', F', g1, g2, g3⟩ := zlq e1 h hv2
        have hat' : atN h' id = some (mkO b k x) := by rw [(e3.2 id (zck hat)).2]; exact hat
        have hq := qm.owAt hat' (zKh _ _ _) (show qm P h' m' F' (.ow id) u from hv1.ext g3)
        refine ⟨F', g1.gro, g1.fok, ?_⟩
        simp only [zy3]
        refine ⟨u, r, rfl, g2, ?_⟩
        cases hmi : m' id with
        | none =>
          rw [hmi] at hq
          exact .inr ⟨z1J (g1.obs _ _ hat') hmi, hq.2⟩
        | some bn =>
          obtain ⟨bk, n⟩ := bn
          rw [hmi] at hq
          obtain ⟨cap, k1, k2, k3⟩ := hq
          obtain ⟨el, cs, cc, d, f1, f2, f3, f4, f5⟩ := zLT (g1.obs _ _ hat') hmi
          refine .inl ⟨bk, cap, el, cs, cc, d, k3, k2, (g1.rng _ _ _ hmi).2.1, f1, f4, by rw [f2, k1], f3, ?_⟩
          rcases hkr with rfl | rfl
          · exact f5
          · exact qB.toL (fun j x c _ _ hx => by unfold DE at hx; rw [if_neg (by omega)] at hx; exact hx) (show qB (DE P F' w (m'.d id) b 0) 0 x cc from f5)
      · cases hz
    · cases hz
  ·
    rename_i b c c' vs us'
    obtain ⟨hbc, hz⟩ := zd hz
    simp only [decide_eq_true_eq] at hbc
    rw [z1X] at hz
    obtain ⟨⟨x, h1⟩, hx, hz⟩ := Option.bind_eq_some_iff.1 hz
    · split at hz
      · rename_i p hp
        cases hz
        obtain ⟨u, r, rfl, hv1, hv2⟩ := hv
        obtain ⟨cs, rfl, hfs⟩ := (show zT P st.h m F (.fld c' vs) u from hv1)
        subst hbc
        obtain ⟨ids, k1, k2, k3, k4, k5⟩ := zYW (fun i τ xs k ho => (h.drowk ho).2) 0 hx (zcZ.refl _)
        obtain ⟨st2fr, st2h⟩ := st
        obtain ⟨h', e1, e2, e3⟩ := zId k2 (show yt false c us' ⟨st2fr, h1⟩ = some (p.1, p.2) from hp)
        obtain ⟨m', F', g1, g2, g3⟩ := zlq e1 h hv2
        have hkeep : ∀ f id, ids f = some id → atN h' id = atN st2h id := fun f id hf => (e3.2 id (k3 f id hf).2.2.1).2
        refine ⟨F', g1.gro, g1.fok, ?_⟩
        simp only [zy3]
        refine ⟨.agg cs, r, cs, _, _, rfl, g2, rfl, z5M g1 (k1.heap hkeep) (hfs.ext g3), ownB_of g1 (fun f id hf => ?_) k5⟩
        obtain ⟨σ, k, xs, ho⟩ := (k3 f id hf).2.2.2
        exact ⟨σ, k, xs, by rw [hkeep f id hf]; exact ho⟩
      · cases hz
  ·
    rename_i b c v us'
    rw [z1X] at hz
    obtain ⟨⟨x, h1⟩, hx, hz⟩ := Option.bind_eq_some_iff.1 hz
    · split at hz
      · rename_i p hp
        cases hz
        obtain ⟨u, r, rfl, hv1, hv2⟩ := hv
        obtain ⟨ids, k1, k2, k3, k4, k5⟩ := zYW (fun i τ xs k ho => (h.drowk ho).2) 0 hx (zcZ.refl _)
        obtain ⟨⟨id, rfl, hi0, hat0⟩, _⟩ := (show (∃ id, v = .ow id ∧ ids 0 = some id ∧ atN st.h id = some (mkO b _ x.1)) ∧ _ from k1)
        have hT : zeR st.h id = some b := by rw [zQI hat0, zKh]; rfl
        have hfs : qw P st.h m F (.pair (.sl b) .unit) [.ow id] [u] := ⟨[u], [], rfl, zbq.ofRow hT (show qm P st.h m F (.ow id) u from hv1), rfl⟩
        obtain ⟨st2fr, st2h⟩ := st
        obtain ⟨h', e1, e2, e3⟩ := zId k2 (show yt false c us' ⟨st2fr, h1⟩ = some (p.1, p.2) from hp)
        obtain ⟨m', F', g1, g2, g3⟩ := zlq e1 h hv2
        have hkeep : ∀ f id, ids f = some id → atN h' id = atN st2h id := fun f id hf => (e3.2 id (k3 f id hf).2.2.1).2
        refine ⟨F', g1.gro, g1.fok, ?_⟩
        simp only [zy3]
        refine ⟨u, r, _, _, rfl, g2, z5M g1 (k1.heap hkeep) (hfs.ext g3), ownB_of g1 (fun f id hf => ?_) k5⟩
        obtain ⟨σ, k, xs, ho⟩ := (k3 f id hf).2.2.2
        exact ⟨σ, k, xs, by rw [hkeep f id hf]; exact ho⟩
      · cases hz
  ·
    split at hz
    · rename_i p hp
      cases hz
      obtain ⟨m', F', g1, g2, _⟩ := zlq (x := p.1) (st' := p.2) hp h hv
      exact ⟨F', g1.gro, g1.fok, g2⟩
    · cases hz
  · cases hz
theorem z7T (hm : P.follows .mixedOrders = true) (hE : z4 P G E) {fi : FuncId} {f : Func} (hf : P.funcs[fi]? = some f) {K md : Nat} {a r : Ty} {x : a.I} {y : r.I} (he : evF E K f md a r x = some y)
    {F0 : FH} {w : World} {vs : List Value} (hG : G.le F0) (hk : F0.ok w) (hr : yP P F0 a x vs) :
    Calls P fi vs.toArray w fun e w' => ∃ us F', e = .returned (zLG us) ∧ Below w.heap.size w w' ∧ F0.grow F' w.heap.size ∧ F'.ok w' ∧ zy3 P F' w' w.heap.size md r y us := by
  unfold evF at he
  cases hb : f.body with
  | none => rw [hb] at he; cases he
  | some c =>
    rw [hb] at he
    simp only at he
    have hE' : z4 P G { E with nt := f.ntmps } := ⟨hE.types, hE.funs, hE.glob, hE.ext⟩
    refine calls_of_wp hf hb ?_
    refine z9n (nt := f.ntmps) (F0 := F0) (w0 := w) hm hE' hG rfl c (r := y) ?_ ⟨_, F0, Rel.enter hk hr f.ntmps⟩ he
    rintro e st a' w' ⟨m, F, h⟩ hfin
    have hdone : (cond ((f.results.toList.map (zGD { E with nt := f.ntmps } st)).all Option.isSome) (z51 md r ((f.results.toList.map (zGD { E with nt := f.ntmps } st)).filterMap id) st) none) = some y →
        a'.defers = [] ∧ ∃ v, (results f a'.tmps).run P w' = .ok v w' ∧ ∃ us F', Ending.returned v = .returned (zLG us) ∧ Below w.heap.size w w' ∧ F0.grow F' w.heap.size ∧ F'.ok w' ∧ zy3 P F' w' w.heap.size md r y us := by
      intro hfin
      obtain ⟨h1, h2⟩ := zd hfin
      obtain ⟨us, h3, h4⟩ := z4f hE' h (zMZ h1)
      obtain ⟨F', g1, g2, g3⟩ := z7S h h4 h2
      exact ⟨h.dfr, _, h3, us, F', rfl, h.bel, g1, g2, g3⟩
    cases e with
    | normal => exact hdone hfin
    | ret => exact hdone hfin
    | exit id => cases hfin
end
end Go.Ev
end
section
namespace Go.Ev
open Go.RowKit Go.ChangeShapes
set_option linter.unusedSimpArgs false
set_option linter.unusedVariables false
def InR : (τ : Ty) → τ.I → Prop
  | .int k, n => (Lit.int k n).wf = true
  | .str, s => ByteArray.size s ≤ maxLen
  | .pair a b, x => InR a x.1 ∧ InR b x.2
  | .st a, x => InR a x
  | .arr n a, xs => List.length xs = n ∧ ∀ x ∈ (show List a.I from xs), InR a x
  | .sl a, xs => List.length xs ≤ maxLen ∧ ∀ x ∈ (show List a.I from xs), InR a x
  | _, _ => True
def Ty.data : Ty → Bool
  | .bool | .int _ | .str | .unit => true
  | .pair a b => a.data && b.data
  | .st a => a.data
  | .arr _ a => a.data
  | .sl a => a.data
  | _ => false
section
variable {P : Program} {H : Type} {enc : TypeId × Value → H} {w : World} {base : Nat} {sp : Nat → Bool} {held : Bool}
theorem z1Y {a : Addr} {j : Nat} {v : Value} (h : w.cell? (a.add j) = some v) (h0 : a.spot = none ∨ j = 0) : a.spot = none ∧ ∃ c el fz, w.heap[a.block]? = some (.cells c el fz) ∧ c[a.off + j]? = some v := by
  have hs : a.spot = none := by
    rcases h0 with h0 | rfl
    · exact h0
    · have : a.add 0 = a := by unfold Addr.add; rfl
      rw [this] at h
      unfold World.cell? at h
      split at h
      · cases hsp : a.spot with
        | none => rfl
        | some x => rw [hsp] at h; simp at h
      · cases h
  refine ⟨hs, ?_⟩
  rw [zLK hs] at h
  unfold World.cell? at h
  simp only at h
  split at h
  · rename_i c el fz hk
    exact ⟨c, el, fz, hk, by simpa using h⟩
  · cases h
theorem z1Z {a : Addr} {n : Nat} {cs : List Value} (h : w.cells? base a n = some cs) (hn : 0 < n) : ∃ c, FH.of w a.block = some c ∧ a.spot = none ∧ ∀ (j : Nat) (v : Value), cs[j]? = some v → c[a.off + j]? = some v := by
  obtain ⟨hb, hl, hc⟩ := World.cells?_some h
  have h0 := hc 0 hn
  rw [List.getElem?_eq_getElem (by omega)] at h0
  obtain ⟨hs, c, el, fz, hk, _⟩ := z1Y h0 (.inr rfl)
  refine ⟨c, by simp [FH.of, hk], hs, fun j v hv => ?_⟩
  have hj := (List.getElem?_eq_some_iff.1 hv).1
  have := hc j (by omega)
  rw [hv] at this
  obtain ⟨_, c', _, _, hk', h2⟩ := z1Y this (.inl hs)
  rw [hk] at hk'
  cases hk'
  exact h2
theorem z5N {ad : Addr} {n : Nat} (hn : 0 < n) {c : Array Value} (hs : ad.spot = none) (hc : FH.of w ad.block = some c) : ∀ (m i0 : Nat) (css : List (List Value)), ((List.range' i0 m).mapM fun i => w.cells? base (ad.add (i * n)) n) = some css →
    ∀ (j : Nat) (v : Value), css.flatten[j]? = some v → c[ad.off + i0 * n + j]? = some v
  | 0, i0, css, h, j, v, hj => by simp at h; subst h; simp at hj
  | m + 1, i0, css, h, j, v, hj => by
    rw [List.range'_succ, List.mapM_cons] at h
    simp only [Option.bind_eq_bind, Option.bind_eq_some_iff, Option.pure_def, Option.some.injEq] at h
    obtain ⟨cs, h1, css', h2, rfl⟩ := h
    have hl := (World.cells?_some h1).2.1
    obtain ⟨c', h3, _, h5⟩ := z1Z h1 hn
    rw [zLK hs] at h3 h5
    simp only at h3 h5
    rw [hc] at h3
    cases h3
    rw [List.flatten_cons] at hj
    by_cases hjn : j < n
    · rw [List.getElem?_append_left (by omega)] at hj
      exact h5 j v hj
    · rw [List.getElem?_append_right (by omega), hl] at hj
      have := z5N hn hs hc m (i0 + 1) css' h2 (j - n) v hj
      rw [show ad.off + i0 * n + j = ad.off + (i0 + 1) * n + (j - n) by rw [Nat.add_mul]; omega]
      exact this
theorem zSs {α : Type} {R : α → List Value → Prop} {f : Nat → Option (List Value)} {g : List Value → Option (DataW H × List MemPlace)} {I : α → Prop} (hg : ∀ cs y, g cs = some y → ∃ x, R x cs ∧ I x) :
    ∀ (l : List Nat) (ys : List (DataW H × List MemPlace)), (l.mapM fun i => (f i).bind g) = some ys → ∃ (xs : List α) (css : List (List Value)), xs.length = l.length ∧ l.mapM f = some css ∧ zE R xs css.flatten ∧ ∀ x ∈ xs, I x
  | [], ys, h => ⟨[], [], rfl, rfl, rfl, by simp⟩
  | i :: l, ys, h => by
    rw [List.mapM_cons] at h
    simp only [Option.bind_eq_bind, Option.bind_eq_some_iff, Option.pure_def, Option.some.injEq] at h
    obtain ⟨y, ⟨cs, hcs, hy⟩, ys', h2, rfl⟩ := h
    obtain ⟨x, hx, hI⟩ := hg cs y hy
    obtain ⟨xs, css, h3, h4, h5, h6⟩ := zSs hg l ys' h2
    refine ⟨x :: xs, cs :: css, by simp [h3], ?_, ⟨cs, css.flatten, rfl, hx, h5⟩, ?_⟩
    · rw [List.mapM_cons, hcs, h4]; rfl
    · intro z hz
      rcases List.mem_cons.1 hz with rfl | hz
      · exact hI
      · exact h6 z hz
theorem zKk {cs : List Value} {n : Nat} : ∀ (m i0 : Nat) (css : List (List Value)), (i0 + m) * n ≤ cs.length → ((List.range' i0 m).mapM fun i => some ((cs.drop (i * n)).take n)) = some css → css.flatten = (cs.drop (i0 * n)).take (m * n)
  | 0, i0, css, _, h => by simp at h; subst h; simp
  | m + 1, i0, css, hl, h => by
    rw [List.range'_succ, List.mapM_cons] at h
    simp only [Option.bind_eq_bind, Option.bind_some, Option.bind_eq_some_iff, Option.pure_def, Option.some.injEq] at h
    obtain ⟨css', h2, rfl⟩ := h
    have := zKk m (i0 + 1) css' (by rw [show i0 + 1 + m = i0 + (m + 1) by omega]; exact hl) h2
    rw [List.flatten_cons, this, Nat.add_mul i0 1 n, Nat.one_mul, ← List.drop_drop, show (m + 1) * n = n + m * n by rw [Nat.add_mul]; omega, List.take_add]
theorem z8J : ∀ (τ : Ty), τ.data = true →
    (∀ (fuel : Nat) (t : TypeId) (cs : List Value) (x : DataW H × List MemPlace), τ.np = true → qu P t τ → DataW.trod enc P w base sp held fuel t cs = some x → ∃ y, Rep P (FH.of w) τ y cs ∧ InR τ y) ∧
    (∀ (fuel : Nat) (fs : List Field) (off : Nat) (cs : List Value) (xs : List (DataW H × List MemPlace)), (tyB P τ).2 fs off = true → (fs.mapM fun f => DataW.trod enc P w base sp held fuel f.type ((cs.drop f.offset).take (P.cellsOf f.type))) = some xs → cs.length = off + nc τ → ∃ y, Rep P (FH.of w) τ y (cs.drop off) ∧ InR τ y) := by
  intro τ
  induction τ with
  | unit =>
    intro _
    refine ⟨fun fuel t cs x _ h => (by cases h), fun fuel fs off cs xs h _ hl => ⟨(), ?_, trivial⟩⟩
    show cs.drop off = []
    rw [List.drop_eq_nil_iff]
    simp only [nc] at hl
    omega
  | bool =>
    intro _
    refine ⟨fun fuel t cs x _ h hx => ?_, fun fuel fs off cs xs h => (by cases h)⟩
    have hu : P.underlying t = some .bool := by
      simp only [qu, tyB, Bool.and_eq_true] at h
      have := h.2
      split at this
      · assumption
      · cases this
    cases fuel with
    | zero => simp [DataW.trod] at hx
    | succ fuel =>
      unfold DataW.trod at hx
      rw [hu] at hx
      split at hx <;> first | (cases hx; done) | skip
      all_goals first | exact ⟨_, rfl, trivial⟩ | (rename_i hh; simp at hh)
  | int k =>
    intro _
    refine ⟨fun fuel t cs x _ h hx => ?_, fun fuel fs off cs xs h => (by cases h)⟩
    have hu : P.underlying t = some (.int k) := by
      simp only [qu, tyB, Bool.and_eq_true] at h
      have := h.2
      split at this
      · simp only [decide_eq_true_eq] at this; subst this; assumption
      · cases this
    cases fuel with
    | zero => simp [DataW.trod] at hx
    | succ fuel =>
      unfold DataW.trod at hx
      rw [hu] at hx
      split at hx <;> first | (cases hx; done) | skip
      · rename_i hh; cases hh
      · rename_i k1 k2 n hh
        cases hh
        split at hx
        · rename_i hc; obtain ⟨rfl, hw⟩ := hc; exact ⟨n, rfl, hw⟩
        · cases hx
      all_goals (rename_i hh; simp at hh)
  | str =>
    intro _
    refine ⟨fun fuel t cs x _ h hx => ?_, fun fuel fs off cs xs h => (by cases h)⟩
    have hu : P.underlying t = some .string := by
      simp only [qu, tyB, Bool.and_eq_true] at h
      have := h.2
      split at this
      · assumption
      · cases this
    cases fuel with
    | zero => simp [DataW.trod] at hx
    | succ fuel =>
      unfold DataW.trod at hx
      rw [hu] at hx
      split at hx <;> first | (cases hx; done) | skip
      all_goals first
        | (rename_i hh; simp at hh; done)
        | (rename_i s hh; split at hx; · rename_i hc; exact ⟨s, rfl, hc⟩
           · cases hx)
        | skip
  | pair a b iha ihb =>
    intro hd
    simp only [Ty.data, Bool.and_eq_true] at hd
    refine ⟨fun fuel t cs x _ h hx => ?_, fun fuel fs off cs xs h hx hl => ?_⟩
    · rename_i hnp; cases hnp
    · cases fs with
      | nil => cases h
      | cons f fs =>
        simp only [tyB, Bool.and_eq_true] at h
        obtain ⟨⟨⟨⟨h1, h2⟩, h3⟩, _⟩, h4⟩ := h
        obtain rfl := Nat.eq_of_beq_eq_true h1
        obtain ⟨i, hi, hsz⟩ := qu.size h2 (Ty.np_spec h3.2)
        rw [List.mapM_cons] at hx
        simp only [Option.bind_eq_bind, Option.bind_eq_some_iff, Option.pure_def, Option.some.injEq] at hx
        obtain ⟨x1, hx1, xs2, hx2, _⟩ := hx
        have hcells : P.cellsOf f.type = nc a := by unfold Program.cellsOf; rw [hi]; exact hsz
        rw [hcells] at hx1
        obtain ⟨y1, g1, g2⟩ := (iha hd.1).1 fuel f.type _ x1 h3.2 h2 hx1
        simp only [nc] at hl
        obtain ⟨y2, g3, g4⟩ := (ihb hd.2).2 fuel fs (f.offset + nc a) cs xs2 h4 hx2 (by omega)
        refine ⟨(y1, y2), ⟨_, _, ?_, g1, g3⟩, g2, g4⟩
        rw [← List.drop_drop, List.take_append_drop]
  | st a iha =>
    intro hd
    refine ⟨fun fuel t cs x _ h hx => ?_, fun fuel fs off cs xs h => (by cases h)⟩
    obtain ⟨fs, hu, hf, _⟩ := qu.st h
    obtain ⟨i, hi, hsz⟩ := qu.size h (by intro a b e; cases e)
    have hcells : P.cellsOf t = nc a := by unfold Program.cellsOf; rw [hi]; exact hsz
    cases fuel with
    | zero => simp [DataW.trod] at hx
    | succ fuel =>
      unfold DataW.trod at hx
      rw [hu] at hx
      simp only at hx
      split at hx
      · rename_i hl
        simp only [Option.map_eq_some_iff] at hx
        obtain ⟨xs, hx, _⟩ := hx
        obtain ⟨y, g1, g2⟩ := (iha hd).2 fuel fs.toList 0 cs xs hf hx (by omega)
        exact ⟨y, g1, g2⟩
      · cases hx
  | arr n a iha =>
    intro hd
    refine ⟨fun fuel t cs x _ h hx => ?_, fun fuel fs off cs xs h => (by cases h)⟩
    obtain ⟨e, hu, he, hpos, hnp, _⟩ := qu.arr h
    obtain ⟨i, hi, hsz⟩ := qu.size h (by intro a b e; cases e)
    obtain ⟨ie, hie, hsze⟩ := qu.size he (Ty.np_spec hnp)
    have hcells : P.cellsOf t = n * nc a := by unfold Program.cellsOf; rw [hi]; exact hsz
    have hcellse : P.cellsOf e = nc a := by unfold Program.cellsOf; rw [hie]; exact hsze
    cases fuel with
    | zero => simp [DataW.trod] at hx
    | succ fuel =>
      unfold DataW.trod at hx
      rw [hu] at hx
      simp only at hx
      split at hx
      · rename_i hl
        simp only [Option.map_eq_some_iff] at hx
        obtain ⟨xs, hx, _⟩ := hx
        rw [hcellse] at hx
        obtain ⟨ys, css, h1, h2, h3, h4⟩ := zSs (f := fun i => some ((cs.drop (i * nc a)).take (nc a))) (g := DataW.trod enc P w base sp held fuel e) (R := Rep P (FH.of w) a) (I := InR a) (fun cs y hy => (iha hd).1 fuel e cs y hnp he hy) (List.range n) xs hx
        rw [List.range_eq_range'] at h2
        have := zKk n 0 css (by rw [Nat.zero_add]; omega) h2
        rw [this] at h3
        simp only [Nat.zero_mul, List.drop_zero] at h3
        rw [List.take_of_length_le (by omega)] at h3
        refine ⟨ys, ⟨by simpa using h1, h3⟩, by simpa using h1, h4⟩
      · cases hx
  | sl a iha =>
    intro hd
    refine ⟨fun fuel t cs x _ h hx => ?_, fun fuel fs off cs xs h => (by cases h)⟩
    obtain ⟨e, hu, he, hpos, hnp⟩ := qu.sl h
    obtain ⟨ie, hie, hsze⟩ := qu.size he (Ty.np_spec hnp)
    have hcellse : P.cellsOf e = nc a := by unfold Program.cellsOf; rw [hie]; exact hsze
    cases fuel with
    | zero => simp [DataW.trod] at hx
    | succ fuel =>
      unfold DataW.trod at hx
      rw [hu] at hx
      split at hx <;> first | (cases hx; done) | skip
      all_goals first
        | (rename_i hh; cases hh; done)
        | exact ⟨[], ⟨_, 0, rfl, Nat.le_refl _, fun hne => absurd rfl hne⟩, Nat.zero_le _, fun x hx => by cases hx⟩
        | skip
      rename_i e' ad len cap heq
      simp only [Option.some.injEq, TypeDesc.slice.injEq] at heq
      subst heq
      simp only at hx
      split at hx
      · rename_i hc
        simp only [Option.bind_eq_some_iff] at hx
        obtain ⟨elems, hx, _⟩ := hx
        rw [hcellse] at hx
        obtain ⟨ys, css, h1, h2, h3, h4⟩ := zSs (f := fun i => w.cells? base (ad.add (i * nc a)) (nc a)) (g := DataW.trod enc P w base sp held fuel e) (R := Rep P (FH.of w) a) (I := InR a) (fun cs y hy => (iha hd).1 fuel e cs y hnp he hy) (List.range len) elems hx
        rw [List.length_range] at h1
        refine ⟨ys, ⟨some ad, cap, by rw [h1], by rw [h1]; exact hc.2.1, fun hne => ?_⟩, (show ys.length ≤ maxLen by omega), h4⟩
        have hlen : 0 < len := by
          rw [← h1]
          exact List.length_pos_iff.2 hne
        rw [List.range_eq_range'] at h2
        obtain ⟨m, rfl⟩ : ∃ m, len = m + 1 := ⟨len - 1, by omega⟩
        have h2' := h2
        rw [List.range'_succ, List.mapM_cons] at h2'
        simp only [Option.bind_eq_bind, Option.bind_eq_some_iff, Option.pure_def, Option.some.injEq] at h2'
        obtain ⟨cs0, g1, _⟩ := h2'
        rw [Nat.zero_mul, show ad.add 0 = ad from rfl] at g1
        obtain ⟨c, g2, g3, g4⟩ := z1Z g1 hpos
        refine ⟨ad, css.flatten, rfl, ⟨g3, c, g2, fun j v hv => ?_⟩, h3⟩
        have := z5N hpos g3 g2 (m + 1) 0 css h2 j v hv
        simpa using this
      · cases hx
  | ptr a => intro hd; cases hd
  | fn a b => intro hd; cases hd
def tyL (P : Program) : Ty → List TypeId → Bool
  | .unit, [] => true
  | .pair a b, t :: ts => (tyB P a).1 t && a.np && a.data && tyL P b ts
  | _, _ => false
theorem zRE : ∀ {τ : Ty} {ts : List TypeId} {vs : List Value} {ds : List (DataW H)} {ps : List MemPlace}, tyL P τ ts = true → DataW.TrodAll enc P w base sp held ts vs ds ps → (∀ (j : Nat) (t : TypeId) (v : Value), ts[j]? = some t → vs[j]? = some v → ∃ W r b, Value.okWide P W r b t v) →
    ∃ x, yP P (FH.of w) τ x vs ∧ InR τ x
  | .unit, [], [], [], ps, _, _, _ => ⟨(), rfl, trivial⟩
  | .pair a b, t :: ts, v :: vs, d :: ds, ps, h, hr, hf => by
    simp only [tyL, Bool.and_eq_true] at h
    obtain ⟨⟨⟨h1, h2⟩, h3⟩, h4⟩ := h
    obtain ⟨p, q, ⟨fuel, h5⟩, h6, _⟩ := hr
    obtain ⟨y, g1, g2⟩ := (z8J a h3).1 fuel t v.cells.toList (d, p) h2 h1 h5
    obtain ⟨x, g3, g4⟩ := zRE h4 h6 fun j t v ht hv => hf (j + 1) t v (by simpa using ht) (by simpa using hv)
    refine ⟨(y, x), ⟨v, vs, rfl, g1, ?_, g3⟩, g2, g4⟩
    obtain ⟨W, r, b0, hform⟩ := hf 0 t v rfl rfl
    obtain ⟨de, hu, hagg⟩ := qu.isAgg h1
    unfold Value.okWide at hform
    rw [hu] at hform
    rw [← hagg]
    have hno : ∀ cs, v = .agg cs → Cell.okWide P W r b0 t v → (match de with | .struct _ | .array _ _ => true | _ => false) = false → False := by
      rintro cs rfl hc hde
      unfold Cell.okWide at hc
      rw [hu] at hc
      cases de <;> simp [Cell.ok, hu] at hc hde
    cases de <;> simp only at hform hno ⊢
    case struct => obtain ⟨cs, rfl, _⟩ := hform; rfl
    case array => obtain ⟨cs, rfl, _⟩ := hform; rfl
    all_goals (cases v <;> first | rfl | exact (hno _ rfl hform trivial).elim)
  | .unit, [], [], _ :: _, _, _, h, _ => h.elim
  | .unit, [], _ :: _, _, _, _, h, _ => (by cases h)
  | .unit, _ :: _, _, _, _, h, _, _ => (by cases h)
  | .pair _ _, [], _, _, _, h, _, _ => (by cases h)
  | .pair _ _, _ :: _, [], _, _, _, h, _ => (by cases h)
  | .pair _ _, _ :: _, _ :: _, [], _, _, h, _ => (by cases h)
  | .bool, _, _, _, _, h, _, _ => (by cases h)
  | .int _, _, _, _, _, h, _, _ => (by cases h)
  | .str, _, _, _, _, h, _, _ => (by cases h)
  | .st _, _, _, _, _, h, _, _ => (by cases h)
  | .arr _ _, _, _, _, _, h, _, _ => (by cases h)
  | .sl _, _, _, _, _, h, _, _ => (by cases h)
  | .ptr _, _, _, _, _, h, _, _ => (by cases h)
  | .fn _ _, _, _, _, _, h, _, _ => (by cases h)
theorem zM0 {W W' : World} (hl : laidOutB P = true) (hb : Below W.heap.size W W') : ∀ {ts : List TypeId} {vs : List Value} {ds : List (DataW H)} {ps : List MemPlace},
    (∀ t ∈ ts, P.readableRec t = true ∧ t < P.types.size) → DataW.TrodAll enc P W 0 (fun _ => true) true ts vs ds ps → (∀ x ∈ ps, x.block < W.heap.size) → ∀ s : Nat → Bool, (∀ p ∈ ps, s p.block = true) → DataW.TrodAll enc P W' 0 s true ts vs ds ps
  | [], [], [], ps, _, h, _, s, _ => h
  | t :: ts, v :: vs, d :: ds, ps, ht, ⟨p, q, h1, h2, e⟩, hlt, s, hs => by
    subst e
    have h0 := ht t (by simp)
    refine ⟨p, q, ?_, zM0 hl hb (fun t' h' => ht t' (by simp [h'])) h2 (fun x hx => hlt x (by simp [hx])) s (fun x hx => hs x (by simp [hx])), rfl⟩
    exact WideElems.Trod_stays hl h0.1 h0.2 h1 (fun x hx => hb.same (hlt x (by simp [hx]))) (fun x hx => hs x (by simp [hx]))
  | [], [], _ :: _, _, _, h, _, _, _ => h.elim
  | [], _ :: _, _, _, _, h, _, _, _ => h.elim
  | _ :: _, [], _, _, _, h, _, _, _ => h.elim
  | _ :: _, _ :: _, [], _, _, h, _, _, _ => h.elim
end
section
variable {P : Program} {H : Type} {enc : TypeId × Value → H}
theorem z10 {fi : FuncId} {f : Func} {a : Ty} {tb : TypeId} {spec : ChangeSpec} {W : World} {base : Nat} {args : Array Value} {ds gs : List (DataW H)} {before : List MemPlace}
    (hl : laidOutB P = true) (hts : ∀ t ∈ f.params.toList, P.readableRec t = true ∧ t < P.types.size) (hty : tyL P a f.params.toList = true) (hres : f.resultTypes = #[tb]) (hbool : P.underlying tb = some .bool) (hvars : spec.vars = [])
    (hfn : ∀ ds : List (DataW H), ds.length = f.params.size → spec.fn H ds = { results := [.lit (.bool true)], args := ds })
    (hval : ∀ (j : Nat) t v, f.params[j]? = some t → args[j]? = some v → Value.okWide P W .any base t v)
    (hW : DataW.Whole enc P f.params.toList spec.vars false W args.toList ds gs before)
    (hcall : ∀ x, InR a x → yP P (FH.of W) a x args.toList → Calls P fi args W fun e W' => e = .returned (.bool true) ∧ Below W.heap.size W W') :
    Calls P fi args W fun e W' => ∃ v, e = .returned v ∧ spec.post enc P f false true false false W args v W' := by
  have hW' := hW
  obtain ⟨p, q, hA, hV, rfl, hfz, hnd⟩ := hW
  rw [hvars] at hV
  obtain ⟨rfl, rfl⟩ := trodVars_none hV
  have hlt : ∀ x ∈ p, x.block < W.heap.size := fun x hx => by simpa using hW'.lt x (by simp [hx])
  obtain ⟨x, hx, hin⟩ := zRE (w := W) hty hA fun j t v ht hv => ⟨W, .any, base, hval j t v (by rw [← Array.getElem?_toList]; exact ht) (by rw [← Array.getElem?_toList]; exact hv)⟩
  have hlen : ∀ {ts : List TypeId} {vs : List Value} {ds : List (DataW H)} {ps : List MemPlace}, DataW.TrodAll enc P W 0 (fun _ => true) true ts vs ds ps → ds.length = ts.length := by
    intro ts
    induction ts with
    | nil => intro vs ds ps h; cases vs <;> cases ds <;> first | rfl | exact h.elim
    | cons t ts ih => intro vs ds ps h; cases vs <;> cases ds <;> first | exact h.elim | (obtain ⟨_, _, _, h2, _⟩ := h; simp [ih h2])
  have hfn' := hfn ds (by rw [hlen hA]; simp)
  refine (hcall x hin hx).mono fun e W' ⟨he, hb⟩ => ?_
  subst he
  simp only [List.append_nil] at *
  refine ⟨_, rfl, ds, [], p, [], p, [], hW', ?_, ?_, ?_, hb.frame _, fun h => (by cases h)⟩
  · rw [List.append_nil, hfn', hres]
    exact trodAll_cons_mk (shut_bool hbool _) trodAll_mk0
  · rw [List.append_nil, hfn']
    exact zM0 hl hb hts hA hlt _ (fun x hx => by simpa using hlt x hx)
  · rw [List.append_nil, hfn', hvars]
    rfl
end
end Go.Ev
end
section
namespace Go.Ev
open Go.RowKit
set_option linter.unusedSimpArgs false
set_option linter.unusedVariables false
section
variable {P : Program} {G : FH} {E : Env}
theorem zLI.mk (hm : P.follows .mixedOrders = true) (hE : z4 P G E) {fi : FuncId} {f : Func} (hf : P.funcs[fi]? = some f) (hn : (f.name == "runtime.NumGoroutine") = false) (hb : f.body.isNone = false)
    {F : Fun} (h : ∀ x y, F.spec x = some y → ∃ K, evF E K f F.md F.a F.r x = some y) : zLI P G fi F := by
  refine ⟨⟨f, hf, hn, hb⟩, fun x y hy F0 w vs hG hk hr => ?_⟩
  obtain ⟨K, he⟩ := h x y hy
  exact z7T hm hE hf he hG hk hr
theorem z4.nil {types : TT} {nt : Nat} {dp : Bool} (ht : types.all (fun k τ => (tyB P τ).1 k) = true) {glob : List (Nat × AV)} (hg : ∀ g v, look glob g = some v → ∃ τ x cs, v = .dat (.ptr τ) (some x) ∧ At G ⟨g, 0, none⟩ cs ∧ Rep P G τ x cs) {ext : List (Nat × Bool)} (hx : ∀ f add, look ext f = some add → z59 P f add) : z4 P G ⟨types, [], glob, nt, dp, ext⟩ :=
  ⟨fun t τ h => TT.all_look ht h, fun f F h => by simp [look] at h, hg, hx⟩
theorem z4.deep (hE : z4 P G E) (d : Bool) : z4 P G { E with deep := d } := ⟨hE.types, hE.funs, hE.glob, hE.ext⟩
theorem z4.cons (hE : z4 P G E) {fi : FuncId} {F : Fun} (h : zLI P G fi F) : z4 P G { E with funs := (fi, F) :: E.funs } := by
  refine ⟨hE.types, fun f F' h' => ?_, hE.glob, hE.ext⟩
  simp only [look] at h'
  cases hb : Nat.beq fi f with
  | true =>
    rw [hb] at h'
    simp only [cond_true, Option.some.injEq] at h'
    subst h'
    rw [← Nat.eq_of_beq_eq_true hb]
    exact h
  | false => rw [hb] at h'; exact hE.funs f F' h'
end
end Go.Ev
end
section
namespace Go.Ev
set_option linter.unusedSimpArgs false
set_option linter.unusedVariables false
theorem z11 {n : Nat} (h : n ≤ Go.maxLen) : IntKind.wrap .i64 (n : Int) = (n : Int) := by
  unfold Go.maxLen at h
  exact IntWalk.i64_in _ (by omega)
def zar {α : Type} (p : α → Bool) : List α → Int → Int
  | [], _ => -1
  | x :: xs, i => cond (p x) i (zar p xs (i + 1))
theorem zSt {α : Type} {p : α → Bool} : ∀ (xs : List α) (i : Int), 0 ≤ i → decide (zar p xs i ≥ 0) = xs.any p
  | [], _, _ => rfl
  | x :: xs, i, h => by
    have ih := zSt (p := p) xs (i + 1) (by omega)
    simp only [zar, List.any_cons]
    by_cases hp : p x = true
    · simp [hp, h]
    · simp only [Bool.not_eq_true] at hp
      simp only [hp, cond_false, Bool.false_or]
      exact ih
end Go.Ev
end
section
namespace Go.Ev
set_option linter.unusedVariables false
theorem z6B {i len : Nat} (h : i < len) (hl : len ≤ Go.maxLen) : IntKind.wrap .i64 ((i : Int) + 1) = (i : Int) + 1 := by
  rw [show (i : Int) + 1 = ((i + 1 : Nat) : Int) by omega]
  exact z11 (by omega)
theorem zjU {α : Type} {l : List α} {i : Nat} (d : α) (h : i < l.length) : l.drop i = l.getD i d :: l.drop (i + 1) := by
  rw [List.drop_eq_getElem_cons h]
  simp [List.getD, h]
theorem z8K {σ ρ : Type} {L : Nat → Int → σ → Option ρ} {len : Nat} (hl : len ≤ Go.maxLen) (F : Nat → σ → Option ρ) (I : Nat → σ → Prop)
    (hstep : ∀ n i s, i < len → I i s → (∀ s', I (i + 1) s' → L n ((i : Int) + 1) s' = F (i + 1) s') → L (n + 1) (i : Int) s = F i s)
    (hend : ∀ n s, I len s → L (n + 1) (len : Int) s = F len s) :
    ∀ (k i n : Nat) (s : σ), i + k = len → k < n → I i s → L n (i : Int) s = F i s := by
  intro k
  induction k with
  | zero =>
    intro i n s hi hn hI
    obtain ⟨m, rfl⟩ : ∃ m, n = m + 1 := ⟨n - 1, by omega⟩
    obtain rfl : i = len := by omega
    exact hend m s hI
  | succ k ih =>
    intro i n s hi hn hI
    obtain ⟨m, rfl⟩ : ∃ m, n = m + 1 := ⟨n - 1, by omega⟩
    refine hstep m i s (by omega) hI fun s' hI' => ?_
    have := ih (i + 1) m s' (by omega) (by omega) hI'
    rw [show (i : Int) + 1 = ((i + 1 : Nat) : Int) by omega]
    exact this
theorem z7U {σ ρ : Type} {L : Nat → Int → σ → Option ρ} {len : Nat} (hl : len ≤ Go.maxLen) (F : Nat → σ → Option ρ) (I : Nat → σ → Prop)
    (hstep : ∀ n i s, i < len → I i s → (∀ s', I (i + 1) s' → L n ((i : Int) + 1) s' = F (i + 1) s') → L (n + 1) (i : Int) s = F i s)
    (hend : ∀ n s, I len s → L (n + 1) (len : Int) s = F len s) (n : Nat) (hn : len < n) (s : σ) (h0 : I 0 s) : L n 0 s = F 0 s :=
  z8K hl F I hstep hend len 0 n s (by omega) hn h0
end Go.Ev
end
section
namespace Go.Ev
set_option linter.unusedVariables false
abbrev Fnc (A R : Ty) : Type := A.I → Option R.I
def iter {σ ρ : Type} (B : (σ → Option ρ) → σ → Option ρ) : Nat → σ → Option ρ
  | 0, _ => none
  | n + 1, s => B (iter B n) s
noncomputable def evV {σ : Type} (E : Env) (K : Nat) (f : Func) (md : Nat) (R : Ty) (p ns : List Nat) (S : σ → St) (n : Nat) : σ → Option R.I := fun s => evL E K f md R p ns n (S s)
theorem z12 {E : Env} {K : Nat} {f : Func} {md : Nat} {R : Ty} {p ns : List Nat} {st : St} : evL E K f md R p ns 0 st = none := by
  unfold evL
  split
  · split <;> rfl
  · rfl
theorem zp {σ : Type} {E : Env} {K : Nat} {f : Func} {md : Nat} {R : Ty} {p ns : List Nat} {S : σ → St} {B : (σ → Option R.I) → σ → Option R.I}
    (h : ∀ n s, evV E K f md R p ns S (n + 1) s = B (evV E K f md R p ns S n) s) : ∀ n, evV E K f md R p ns S n = iter B n
  | 0 => by funext s; exact z12
  | n + 1 => by funext s; rw [h, zp h n]; rfl
theorem vj {σ τ : Type} {E : Env} {K : Nat} {f : Func} {md : Nat} {R : Ty} {p ns : List Nat} {S : σ → St} {B : (τ → Option R.I) → (σ → Option R.I) → σ → Option R.I} {V1 : Nat → τ → Option R.I} {W1 : (σ → Option R.I) → τ → Option R.I}
    (h1 : ∀ n, V1 n = W1 (evV E K f md R p ns S n)) (h : ∀ n s, evV E K f md R p ns S (n + 1) s = B (V1 n) (evV E K f md R p ns S n) s) : ∀ n, evV E K f md R p ns S n = iter (fun k => B (W1 k) k) n :=
  zp fun n s => by rw [← h1]; exact h n s
theorem z7V {σ τ υ : Type} {E : Env} {K : Nat} {f : Func} {md : Nat} {R : Ty} {p ns : List Nat} {S : σ → St} {B : (τ → Option R.I) → (υ → Option R.I) → (σ → Option R.I) → σ → Option R.I} {V1 : Nat → τ → Option R.I} {W1 : (σ → Option R.I) → τ → Option R.I} {V2 : Nat → υ → Option R.I} {W2 : (σ → Option R.I) → υ → Option R.I}
    (h1 : ∀ n, V1 n = W1 (evV E K f md R p ns S n)) (h2 : ∀ n, V2 n = W2 (evV E K f md R p ns S n)) (h : ∀ n s, evV E K f md R p ns S (n + 1) s = B (V1 n) (V2 n) (evV E K f md R p ns S n) s) : ∀ n, evV E K f md R p ns S n = iter (fun k => B (W1 k) (W2 k) k) n :=
  zp fun n s => by rw [← h1, ← h2]; exact h n s
def zUA {σ τ ρ : Type} (B0 : (τ → Option ρ) → σ → Option ρ) (B1 : (τ → Option ρ) → τ → Option ρ) : Nat → σ → Option ρ
  | 0, _ => none
  | n + 1, s => B0 (iter B1 n) s
theorem z7W {σ τ : Type} {E : Env} {K : Nat} {f : Func} {md : Nat} {R : Ty} {p ns : List Nat} {S0 : σ → St} {S1 : τ → St} {B0 : (τ → Option R.I) → σ → Option R.I} {B1 : (τ → Option R.I) → τ → Option R.I}
    (h1 : ∀ n, evV E K f md R p ns S1 n = iter B1 n) (h : ∀ n s, evV E K f md R p ns S0 (n + 1) s = B0 (evV E K f md R p ns S1 n) s) : ∀ n, evV E K f md R p ns S0 n = zUA B0 B1 n
  | 0 => by funext s; exact z12
  | n + 1 => by funext s; rw [h, h1]; rfl
theorem tr1 {α X Y : Type} {T : α → X → Y} {V W : α} (h : V = W) {F : X → Y} (hx : ∀ x, F x = T V x) : F = T W := by subst h; funext x; exact hx x
def En (E : Env) (d : Bool) (l : List Fun) : Env := ⟨E.types, l.map fun F => (F.id, F), E.glob, 0, d, E.ext⟩
def Sd (P : Program) (E : Env) (F : Fun) : Prop := ∀ G, z4 P G E → zLI P G F.id F
def Sds (P : Program) (E : Env) : List Fun → Prop
  | [] => True
  | F :: l => Sd P E F ∧ Sds P E l
def z8L (f : Func) : Bool := !(f.name == "runtime.NumGoroutine") && !f.body.isNone
theorem Sds.env {P : Program} {E : Env} {l : List Fun} {d : Bool} {G : FH} (h : Sds P E l) (hE : z4 P G E) : z4 P G (En E d l) := by
  refine ⟨hE.types, ?_, hE.glob, hE.ext⟩
  intro f F hf
  have key : ∀ l : List Fun, Sds P E l → look (l.map fun F => (F.id, F)) f = some F → zLI P G f F := by
    intro l
    induction l with
    | nil => intro _ h; cases h
    | cons F' l ih =>
      intro hs hl
      simp only [List.map_cons, look] at hl
      cases hb : Nat.beq F'.id f with
      | true =>
        rw [hb] at hl
        cases hl
        rw [← Nat.eq_of_beq_eq_true hb]
        exact hs.1 G hE
      | false => rw [hb] at hl; exact ih hs.2 hl
  exact key l h hf
theorem Sd.mk {P : Program} {E : Env} {l : List Fun} {d : Bool} {F : Fun} {f : Func} {K : Nat} (hm : P.follows .mixedOrders = true) (hl : Sds P E l) (hf : P.funcs[F.id]? = some f) (ho : z8L f = true)
    (h : evF (En E d l) K f F.md F.a F.r = F.spec) : Sd P E F := by
  intro G hE
  unfold z8L at ho
  simp only [Bool.and_eq_true, Bool.not_eq_true'] at ho
  exact zLI.mk hm (hl.env hE) hf ho.1 ho.2 fun x y hy => ⟨K, by rw [h]; exact hy⟩
def inR {ρ : Type} (i n : Int) (x : Option ρ) : Option ρ := cond (decide (0 ≤ i)) (cond (decide (i < n)) x none) none
theorem z7X {ρ : Type} {i n : Int} {x : Option ρ} (h0 : 0 ≤ i) (h1 : i < n) : inR i n x = x := by unfold inR; rw [decide_eq_true h0, decide_eq_true h1]; rfl
abbrev ix {α : Type} (d : α) (l : List α) (i : Int) : α := List.getD l (Int.toNat i) d
def K0 : Nat := Go.maxLen + 2
theorem z1p {n : Nat} (h : n ≤ Go.maxLen) : n < K0 := by unfold K0; omega
abbrev tI : Ty := .int .i64
abbrev tU : Ty := .int .u64
abbrev wI (n : Int) : Int := IntKind.wrap .i64 n
abbrev wU (n : Int) : Int := IntKind.wrap .u64 n
end Go.Ev
end
section
namespace Go.Ev
set_option linter.unusedVariables false
set_option linter.unusedSimpArgs false
theorem zsN {σ α ρ : Type} {B : (σ → Option ρ) → σ → Option ρ} {len : Nat} (hl : len ≤ Go.maxLen) (st : Int → α → σ) (F : Nat → α → Option ρ) (I : Nat → α → Prop)
    (hstep : ∀ k (i : Nat) s, i < len → I i s → (∀ s', I (i + 1) s' → k (st (wI (i + 1)) s') = F (i + 1) s') → B k (st i s) = F i s)
    (hend : ∀ k s, I len s → B k (st len s) = F len s) (s : α) (h0 : I 0 s) : iter B K0 (st 0 s) = F 0 s := by
  refine z7U (L := fun n i s => iter B n (st i s)) hl F I (fun n i s hi hI h => ?_) (fun n s hI => hend _ s hI) K0 (z1p hl) s h0
  refine hstep _ i s hi hI fun s' hI' => ?_
  rw [wI, z6B hi hl]
  exact h s' hI'
theorem qQ {α : Type} {l : List α} {i : Nat} {d : α} (h : i < l.length) : l.getD i d ∈ l := by
  rw [List.getD_eq_getElem?_getD, List.getElem?_eq_getElem h]
  exact List.getElem_mem h
theorem zM (p : Bool) : some (p, ()) = bif p then some (true, ()) else some (false, ()) := by cases p <;> rfl
theorem y9 {σ α ρ : Type} {B : (σ → Option ρ) → σ → Option ρ} {l : List α} (d : α) {p : α → Bool} {fin bad : Option ρ} (st : Int → σ) (hl : l.length ≤ Go.maxLen)
    (hin : ∀ k (i : Nat) x, i < l.length → l.getD i d = x → x ∈ l → B k (st i) = bif p x then k (st (wI (i + 1))) else bad) (hout : ∀ k, B k (st l.length) = fin) : iter B K0 (st 0) = bif l.all p then fin else bad := by
  have := zsN (α := Unit) (B := B) hl (fun i _ => st i) (fun i _ => bif (l.drop i).all p then fin else bad) (fun _ _ => True) (fun k i s hi _ h => ?_) (fun k s _ => ?_) () trivial
  · simpa using this
  · rw [hin k i _ hi rfl (qQ hi), h () trivial, zjU d hi, List.all_cons]
    cases p (l.getD i d) <;> rfl
  · rw [hout, List.drop_of_length_le (Nat.le_refl _)]; rfl
theorem zYX {σ ρ : Type} {B : (σ → Option ρ) → σ → Option ρ} {n : Nat} (hn : n ≤ Go.maxLen) {p : Nat → Bool} {fin bad : Option ρ} (st : Int → σ)
    (hin : ∀ k (i : Nat), i < n → B k (st i) = bif p i then k (st (wI (i + 1))) else bad) (hout : ∀ k, B k (st n) = fin) : iter B K0 (st 0) = bif (List.range n).all p then fin else bad := by
  have hx : ∀ i, i < n → (List.range n).getD i 0 = i := fun i hi => by simp [List.getD, hi]
  refine y9 (l := List.range n) 0 st (by simpa using hn) (fun k i x hi hx' _ => ?_) (by simpa using hout)
  simp only [List.length_range] at hi
  rw [hx i hi] at hx'
  subst hx'
  exact hin k i hi
theorem zGO {σ α β ρ : Type} {B : (σ → Option ρ) → σ → Option ρ} {l : List β} (d : β) (st : Int → α → σ) (G : List β → α → Option ρ) (hl : l.length ≤ Go.maxLen)
    (hin : ∀ k (i : Nat) x rest s, i < l.length → l.getD i d = x → x ∈ l → l.drop (i + 1) = rest → (∀ s', k (st (wI (i + 1)) s') = G rest s') → B k (st i s) = G (x :: rest) s) (hout : ∀ k s, B k (st l.length s) = G [] s) (s : α) : iter B K0 (st 0 s) = G l s := by
  have := zsN (B := B) hl st (fun i s => G (l.drop i) s) (fun _ _ => True) (fun k i s hi _ h => ?_) (fun k s _ => ?_) s trivial
  · simpa using this
  · rw [zjU d hi]
    exact hin k i _ _ s hi rfl (qQ hi) rfl fun s' => h s' trivial
  · rw [hout, List.drop_of_length_le (Nat.le_refl _)]
def qg (p : Nat → Bool) (i : Nat) : Nat → Bool
  | 0 => true
  | n + 1 => p i && qg p (i + 1) n
theorem vJ {p : Nat → Bool} : ∀ {n i : Nat}, qg p i n = true ↔ ∀ j, i ≤ j → j < i + n → p j = true
  | 0, i => by simp only [qg, true_iff]; intro j h1 h2; omega
  | n + 1, i => by
    simp only [qg, Bool.and_eq_true, vJ (n := n)]
    constructor
    · rintro ⟨h1, h2⟩ j h3 h4
      by_cases e : j = i
      · subst e; exact h1
      · exact h2 j (by omega) (by omega)
    · intro h
      exact ⟨h i (Nat.le_refl i) (by omega), fun j h1 h2 => h j (by omega) (by omega)⟩
theorem qx {σ ρ : Type} {B : (σ → Option ρ) → σ → Option ρ} {i0 n : Nat} (hn : n ≤ Go.maxLen) (h0 : i0 ≤ n) {p : Nat → Bool} {fin bad : Option ρ} (st : Int → σ)
    (hin : ∀ k (i : Nat), i0 ≤ i → i < n → B k (st i) = bif p i then k (st (wI (i + 1))) else bad) (hout : ∀ k, B k (st n) = fin) : iter B K0 (st i0) = bif qg p i0 (n - i0) then fin else bad := by
  have key : ∀ (m i fuel : Nat), i0 ≤ i → i + m = n → m < fuel → iter B fuel (st i) = bif qg p i m then fin else bad := by
    intro m
    induction m with
    | zero =>
      intro i fuel _ h1 h2
      obtain ⟨f, rfl⟩ : ∃ f, fuel = f + 1 := ⟨fuel - 1, by omega⟩
      obtain rfl : i = n := by omega
      exact hout _
    | succ m ih =>
      intro i fuel h1 h2 h3
      obtain ⟨f, rfl⟩ : ∃ f, fuel = f + 1 := ⟨fuel - 1, by omega⟩
      show B (iter B f) (st i) = _
      rw [hin _ i h1 (by omega), wI, z6B (len := n) (by omega) hn, show ((i : Int) + 1) = ((i + 1 : Nat) : Int) by omega, ih (i + 1) f (by omega) (by omega) (by omega)]
      simp only [qg]
      cases p i <;> rfl
  exact key (n - i0) i0 K0 (Nat.le_refl _) (by omega) (by have := z1p hn; omega)
theorem zwc {i : Nat} (h : 1 ≤ i) (hi : i ≤ Go.maxLen) : wI ((i : Int) - 1) = ((i - 1 : Nat) : Int) := by
  rw [show ((i : Int) - 1) = ((i - 1 : Nat) : Int) by omega]
  exact z11 (by omega)
section
variable {τ : Ty} {l : List τ.I} {g : τ.I × Unit → Option (Bool × Unit)} {p : τ.I → Bool}
theorem zx {ρ : Type} {i n : Nat} {x : Option ρ} (h : i < n) : inR (i : Int) (n : Int) x = x := z7X (by omega) (by omega)
theorem ltT {i n : Nat} (h : i < n) : decide ((i : Int) < (n : Int)) = true := decide_eq_true (by omega)
theorem ltF (n : Nat) : decide ((n : Int) < (n : Int)) = false := decide_eq_false (by omega)
theorem qh {α : Type} {d : α} {l : List α} {i : Nat} : ix d l (i : Int) = l.getD i d := by rw [ix, Int.toNat_natCast]
theorem vb {B : ((List τ.I × Option (τ.I × Unit → Option (Bool × Unit)) × Int × Int) → Option (Int × Unit)) → (List τ.I × Option (τ.I × Unit → Option (Bool × Unit)) × Int × Int) → Option (Int × Unit)}
    (hB : ∀ k l g n i, B k (l, g, n, i) = bif decide (i < n) then inR i (List.length l : Int) (Option.bind g fun q0 => Option.bind (q0 (ix (zb τ) l i, ())) fun q1 => bif q1.1 then some (i, ()) else k (l, g, n, wI (i + 1))) else some (-1, ()))
    (hl : l.length ≤ Go.maxLen) (hp : ∀ x ∈ l, g (x, ()) = some (p x, ())) : iter B K0 (l, some g, (l.length : Int), 0) = some (zar p l 0, ()) := by
  have := zsN (α := Unit) (B := B) hl (fun i _ => (l, some g, (l.length : Int), i)) (fun i _ => some (zar p (l.drop i) i, ())) (fun _ _ => True) (fun k i s hi _ h => ?_) (fun k s _ => ?_) () trivial
  · simpa using this
  · rw [hB, ltT hi, zx hi, qh, Option.bind_some, hp _ (qQ hi), Option.bind_some, h () trivial, zjU (zb τ) hi]
    simp only [zar, cond_true]
    cases p (l.getD i (zb τ)) <;> rfl
  · rw [hB, ltF, List.drop_of_length_le (Nat.le_refl _)]; rfl
theorem js {f : Fnc (.pair (.sl τ) (.pair (.fn (.pair τ .unit) (.pair .bool .unit)) .unit)) (.pair (.int .i64) .unit)} (hf : f (l, some g, ()) = some (zar p l 0, ())) :
    (Option.bind (f (l, some g, ())) fun q0 => bif decide ((q0.1 : Int) ≥ 0) then some (true, ()) else some (false, ())) = some (l.any p, ()) := by
  rw [hf, Option.bind_some, zSt (p := p) l 0 (Int.le_refl 0)]
  cases l.any p <;> rfl
theorem zag {α : Type} {l : List α} {p : α → Bool} : (!(l.any fun x => !p x)) = l.all p := by
  rw [List.not_any_eq_all_not]
  congr 1
  funext x
  simp
theorem zs8 (a b : Nat) : ((a : Int) != (b : Int)) = !decide (a = b) := by
  by_cases h : a = b
  · subst h; simp
  · have : (a : Int) ≠ (b : Int) := by omega
    simp [h, this]
theorem zYY {x : Option (List τ.I × Unit)} (h : l.length ≤ lim) (hx : x = bif decide (List.length (List.replicate 0 (zb τ)) + List.length l ≤ lim) then some (List.replicate 0 (zb τ) ++ l, ()) else none) :
    (bif List.isEmpty l then both (some ([], ())) x else x) = some (l, ()) := by
  have e : x = some (l, ()) := by rw [hx, decide_eq_true (by simpa using h)]; rfl
  rw [e]
  cases l with
  | nil => exact z7I _
  | cons y l => rfl
end
end Go.Ev
end
section
namespace Go.Proofs.YtaokpakfhdeiiaaGreatDoor
open Go.Ev
set_option linter.unusedVariables false
abbrev z5 : Ty := .st (.pair (.int .i64) (.pair (.int .i64) .unit))
abbrev jE : Type := (Int × (Int × Unit))
abbrev z9V : jE := zb z5
abbrev tMe : Ty := .st (.pair (.int .i64) (.pair (.int .i64) (.pair (.int .i64) .unit)))
abbrev pMe : Type := (Int × (Int × (Int × Unit)))
abbrev jz : Ty := .st (.pair .bool (.pair .str .unit))
abbrev jK : Type := (Bool × (ByteArray × Unit))
abbrev zqq : jK := zb jz
abbrev qt : Ty := .st (.pair .bool (.pair z5 (.pair z5 (.pair (.int .i64) .unit))))
abbrev qd : Type := (Bool × (jE × (jE × (Int × Unit))))
abbrev qG : qd := zb qt
abbrev zW : Ty := .st (.pair .bool (.pair .str (.pair (.int .i64) (.pair (.int .i64) (.pair z5 .unit)))))
abbrev qb : Type := (Bool × (ByteArray × (Int × (Int × (jE × Unit)))))
abbrev zJ : qb := zb zW
abbrev qA : Ty := .st (.pair .bool (.pair (.int .i64) (.pair (.int .i64) (.pair (.int .i64) (.pair .str .unit)))))
abbrev qy : Type := (Bool × (Int × (Int × (Int × (ByteArray × Unit)))))
abbrev zfG : qy := zb qA
abbrev ziy : Ty := .st (.pair (.int .i64) (.pair (.int .u64) (.pair (.int .i64) .unit)))
abbrev zmq : Type := (Int × (Int × (Int × Unit)))
abbrev zB : Ty := .st (.pair .bool (.pair (.int .i64) (.pair (.int .i64) (.pair ziy (.pair ziy .unit)))))
abbrev zn : Type := (Bool × (Int × (Int × (zmq × (zmq × Unit)))))
abbrev qe : zn := zb zB
abbrev zw : Ty := .st (.pair .bool (.pair (.int .i64) (.pair (.int .i64) (.pair (.int .i64) (.pair (.int .i64) (.pair (.int .i64) (.pair (.int .u64) (.pair (.int .u64) (.pair (.int .u64) (.pair (.int .i64) .unit))))))))))
abbrev zj : Type := (Bool × (Int × (Int × (Int × (Int × (Int × (Int × (Int × (Int × (Int × Unit))))))))))
abbrev zP : zj := zb zw
abbrev zC : Ty := .st (.pair (.int .u64) (.pair (.int .i64) (.pair (.int .i64) (.pair (.int .i64) (.pair (.int .i64) (.pair (.int .i64) (.pair (.int .i64) (.pair (.int .u64) (.pair (.int .u64) (.pair (.int .i64) .unit))))))))))
abbrev zH : Type := (Int × (Int × (Int × (Int × (Int × (Int × (Int × (Int × (Int × (Int × Unit))))))))))
abbrev zcc : zH := zb zC
abbrev zgH : Ty := .st (.pair (.int .i64) (.pair (.int .i64) (.pair (.int .i64) (.pair (.int .i64) (.pair (.int .i64) (.pair (.int .u64) .unit))))))
abbrev zc0 : Type := (Int × (Int × (Int × (Int × (Int × (Int × Unit))))))
abbrev jl : zc0 := zb zgH
abbrev zr : Ty := .st (.pair (.int .i64) (.pair (.int .u64) .unit))
abbrev zu : Type := (Int × (Int × Unit))
abbrev yj : zu := zb zr
abbrev y5 : Ty := .st (.pair (.int .i64) (.pair (.int .i64) .unit))
abbrev qi : Type := (Int × (Int × Unit))
abbrev jA : qi := zb y5
abbrev jL : Ty := .st (.pair .str (.pair .str (.pair (.int .i64) (.pair .bool .unit))))
abbrev qW : Type := (ByteArray × (ByteArray × (Int × (Bool × Unit))))
abbrev jQ : qW := zb jL
abbrev zbu : Ty := .st (.pair (.sl zB) (.pair (.fn (.pair zB .unit) (.pair .bool .unit)) .unit))
abbrev zaF : Type := ((List zn) × ((Option ((zn × Unit) → Option (Bool × Unit))) × Unit))
abbrev zcL : Ty := .st (.pair (.sl zw) (.pair (.fn (.pair zw .unit) (.pair .bool .unit)) .unit))
abbrev zbv : Type := ((List zj) × ((Option ((zj × Unit) → Option (Bool × Unit))) × Unit))
abbrev zQP : Ty := .st (.pair (.int .i64) (.pair (.int .i64) (.pair z5 .unit)))
abbrev zKl : Type := (Int × (Int × (jE × Unit)))
abbrev zBI : Ty := .st (.pair (.int .u8) (.pair (.int .u8) .unit))
abbrev zD : Ty := .st (.pair (.sl zr) (.pair (.sl (.int .i64)) (.pair (.sl jL) (.pair (.sl y5) (.pair (.sl zgH) (.pair (.int .i64) (.pair (.int .i64) (.pair (.int .i64) (.pair (.int .i64) .unit)))))))))
abbrev ze : Type := ((List zu) × ((List Int) × ((List qW) × ((List qi) × ((List zc0) × (Int × (Int × (Int × (Int × Unit)))))))))
abbrev zo : Ty := .st (.pair (.sl jz) (.pair (.sl qt) (.pair (.sl zW) (.pair (.sl qA) (.pair (.sl zB) (.pair (.sl (.arr 4 (.int .u64))) (.pair (.sl z5) (.pair (.arr 4 (.int .u64)) (.pair (.arr 4 (.int .u64)) .unit)))))))))
abbrev zm : Type := ((List jK) × ((List qd) × ((List qb) × ((List qy) × ((List zn) × ((List (List Int)) × ((List jE) × ((List Int) × ((List Int) × Unit)))))))))
abbrev za : zm := zb zo
abbrev zX : Ty := .st (.pair (.int .u64) (.pair (.sl zo) (.pair (.sl (.sl (.int .i64))) (.pair (.sl zw) (.pair (.sl zC) (.pair (.sl (.int .i64)) .unit))))))
abbrev zf : Type := (Int × ((List zm) × ((List (List Int)) × ((List zj) × ((List zH) × ((List Int) × Unit))))))
abbrev qX : Ty := .st (.pair zD (.pair zX .unit))
abbrev qM : Type := (ze × (zf × Unit))
def types : TT := (.node (.node (.node (.node (.node (.node (.node (.node (.node .nil 1 (.fn .unit .unit) .nil) 2 (.int .i64) .nil) 3 (.int .i64) (.node .nil 4 .bool .nil)) 5 (.int .u8) (.node (.node .nil 6 (.int .u8) .nil) 7 (.st (.pair (.int .i64) (.pair (.int .i64) (.pair .bool (.pair (.int .u8) .unit))))) (.node .nil 8 (.st (.pair (.int .i64) (.pair (.int .i64) (.pair .bool (.pair (.int .u8) .unit))))) .nil))) 9 .str (.node (.node (.node .nil 10 .str .nil) 11 .str (.node .nil 12 (.int .u64) .nil)) 21 (.int .i32) (.node (.node .nil 22 (.sl zr) .nil) 23 (.sl (.int .i64)) (.node .nil 24 (.sl jL) .nil)))) 25 (.sl y5) (.node (.node (.node (.node (.node .nil 26 (.sl zgH) .nil) 27 (.st (.pair (.sl zr) (.pair (.sl (.int .i64)) (.pair (.sl jL) (.pair (.sl y5) (.pair (.sl zgH) (.pair (.int .i64) (.pair (.int .i64) (.pair (.int .i64) (.pair (.int .i64) .unit)))))))))) .nil) 28 zD (.node .nil 29 (.int .u64) .nil)) 30 (.sl zo) (.node (.node .nil 31 (.sl (.sl (.int .i64))) .nil) 32 (.sl zw) (.node .nil 33 (.sl zC) .nil))) 34 (.st (.pair (.int .u64) (.pair (.sl zo) (.pair (.sl (.sl (.int .i64))) (.pair (.sl zw) (.pair (.sl zC) (.pair (.sl (.int .i64)) .unit))))))) (.node (.node (.node .nil 35 zX .nil) 36 (.st (.pair (.int .i64) (.pair (.int .i64) .unit))) (.node .nil 37 z5 .nil)) 38 (.int .i64) (.node (.node .nil 40 (.fn (.pair zD .unit) (.pair zX (.pair (.int .i64) .unit))) .nil) 41 (.fn (.pair zD .unit) (.pair .bool .unit)) (.node .nil 42 (.fn (.pair zX (.pair zX .unit)) (.pair .bool .unit)) .nil))))) 43 (.fn (.pair zD .unit) (.pair zX .unit)) (.node (.node (.node (.node (.node (.node .nil 44 (.fn (.pair zD (.pair zX .unit)) (.pair .bool .unit)) .nil) 46 (.fn (.pair zX (.pair (.int .i64) .unit)) (.pair (.int .u64) (.pair (.int .i64) .unit))) .nil) 47 (.fn (.pair zD (.pair zX (.pair z5 .unit))) (.pair .bool .unit)) (.node .nil 48 (.fn (.pair zX (.pair z5 .unit)) (.pair .bool .unit)) .nil)) 49 (.st (.pair (.int .i64) (.pair (.int .i64) (.pair (.int .i64) .unit)))) (.node (.node .nil 50 tMe .nil) 52 (.fn (.pair zD (.pair zX (.pair (.int .i64) .unit))) (.pair tMe (.pair (.int .i64) .unit))) (.node .nil 53 (.fn .unit (.pair .bool .unit)) .nil))) 54 (.fn (.pair zD (.pair zX (.pair z5 (.pair (.int .i64) (.pair (.int .i64) .unit))))) (.pair .bool .unit)) (.node (.node (.node .nil 55 (.fn (.pair zX .unit) (.pair zX .unit)) .nil) 56 (.sl jz) (.node .nil 57 (.sl qt) .nil)) 58 (.sl zW) (.node (.node .nil 59 (.sl qA) .nil) 60 (.sl zB) (.node .nil 61 (.sl (.arr 4 (.int .u64))) .nil)))) 62 (.sl z5) (.node (.node (.node (.node .nil 63 (.arr 4 (.int .u64)) .nil) 64 (.st (.pair (.sl jz) (.pair (.sl qt) (.pair (.sl zW) (.pair (.sl qA) (.pair (.sl zB) (.pair (.sl (.arr 4 (.int .u64))) (.pair (.sl z5) (.pair (.arr 4 (.int .u64)) (.pair (.arr 4 (.int .u64)) .unit)))))))))) (.node .nil 65 zo .nil)) 66 (.st (.pair .bool (.pair .str .unit))) (.node (.node .nil 67 jz .nil) 68 (.st (.pair .bool (.pair z5 (.pair z5 (.pair (.int .i64) .unit))))) (.node .nil 69 qt .nil))) 70 (.st (.pair .bool (.pair .str (.pair (.int .i64) (.pair (.int .i64) (.pair z5 .unit)))))) (.node (.node (.node .nil 71 zW .nil) 72 (.st (.pair .bool (.pair (.int .i64) (.pair (.int .i64) (.pair (.int .i64) (.pair .str .unit)))))) (.node .nil 73 qA .nil)) 74 (.st (.pair (.int .i64) (.pair (.int .u64) (.pair (.int .i64) .unit)))) (.node (.node .nil 75 ziy .nil) 76 (.st (.pair .bool (.pair (.int .i64) (.pair (.int .i64) (.pair ziy (.pair ziy .unit)))))) (.node .nil 77 zB .nil)))))) 78 (.st (.pair .bool (.pair (.int .i64) (.pair (.int .i64) (.pair (.int .i64) (.pair (.int .i64) (.pair (.int .i64) (.pair (.int .u64) (.pair (.int .u64) (.pair (.int .u64) (.pair (.int .i64) .unit))))))))))) (.node (.node (.node (.node (.node (.node (.node .nil 79 zw .nil) 80 (.st (.pair (.int .u64) (.pair (.int .i64) (.pair (.int .i64) (.pair (.int .i64) (.pair (.int .i64) (.pair (.int .i64) (.pair (.int .i64) (.pair (.int .u64) (.pair (.int .u64) (.pair (.int .i64) .unit))))))))))) .nil) 81 zC (.node .nil 82 (.fn (.pair zD (.pair z5 .unit)) (.pair .bool .unit)) .nil)) 83 (.fn (.pair zD (.pair zX (.pair tMe .unit))) (.pair .bool .unit)) (.node (.node .nil 84 (.fn (.pair zD (.pair tMe .unit)) (.pair .bool .unit)) .nil) 85 (.fn (.pair zD (.pair (.int .i64) (.pair (.int .i64) .unit))) (.pair .bool .unit)) (.node .nil 86 (.fn (.pair zD .unit) (.pair (.sl (.sl (.int .i64))) .unit)) .nil))) 87 (.st (.pair (.int .i64) (.pair (.int .i64) (.pair (.int .i64) (.pair (.int .i64) (.pair (.int .i64) (.pair (.int .u64) .unit))))))) (.node (.node (.node .nil 88 zgH .nil) 89 (.fn (.pair zD (.pair zgH .unit)) (.pair zo .unit)) (.node .nil 90 (.fn (.pair (.sl zr) .unit) (.pair .bool .unit)) .nil)) 91 (.fn (.pair (.sl jL) .unit) (.pair .bool .unit)) (.node (.node .nil 92 (.fn (.pair (.sl y5) (.pair (.sl zr) (.pair (.int .i64) .unit))) (.pair .bool .unit)) .nil) 93 (.fn (.pair (.sl zgH) .unit) (.pair .bool .unit)) (.node .nil 94 (.fn (.pair (.sl (.sl (.int .i64))) (.pair (.sl (.sl (.int .i64))) .unit)) (.pair .bool .unit)) .nil)))) 95 (.fn (.pair (.sl zw) (.pair (.sl zw) .unit)) (.pair .bool .unit)) (.node (.node (.node (.node .nil 96 (.fn (.pair (.sl zC) (.pair (.sl zC) .unit)) (.pair .bool .unit)) .nil) 97 (.fn (.pair zo (.pair zo .unit)) (.pair .bool .unit)) (.node .nil 98 (.fn (.pair zD (.pair zX (.pair (.int .i64) .unit))) (.pair .bool .unit)) .nil)) 99 (.fn (.pair (.int .i64) .unit) (.pair .bool .unit)) (.node (.node .nil 100 (.fn (.pair (.sl zw) (.pair (.int .i64) .unit)) (.pair (.int .u64) (.pair (.int .i64) .unit))) .nil) 101 (.sl (.int .u64)) (.node .nil 102 (.fn (.pair (.sl zB) (.pair (.int .i64) .unit)) (.pair (.int .u64) (.pair (.int .i64) .unit))) .nil))) 103 (.fn (.pair (.sl (.int .u64)) .unit) (.pair (.int .u64) (.pair (.int .i64) .unit))) (.node (.node (.node .nil 104 (.fn (.pair (.int .u64) (.pair (.int .u64) .unit)) (.pair (.int .u64) (.pair (.int .i64) .unit))) .nil) 105 (.fn (.pair zX (.pair (.int .i64) (.pair (.fn (.pair zo .unit) (.pair (.arr 4 (.int .u64)) .unit)) .unit))) (.pair (.int .u64) (.pair (.int .i64) .unit))) (.node .nil 106 (.fn (.pair zo .unit) (.pair (.arr 4 (.int .u64)) .unit)) .nil)) 107 (.st (.pair zD (.pair zX .unit))) (.node (.node .nil 108 qX .nil) 109 (.sl (.fn .unit (.pair .bool .unit))) (.node .nil 110 (.fn (.pair zD (.pair (.sl (.sl (.int .i64))) (.pair (.int .i64) (.pair (.int .i64) .unit)))) (.pair .bool .unit)) .nil))))) 111 (.fn .unit (.pair zD .unit)) (.node (.node (.node (.node (.node (.node .nil 112 (.fn (.pair (.sl zw) .unit) (.pair (.sl zw) .unit)) .nil) 113 (.fn (.pair (.sl zC) .unit) (.pair (.sl zC) .unit)) .nil) 114 (.fn (.pair (.sl (.int .i64)) .unit) (.pair (.sl (.int .i64)) .unit)) (.node .nil 115 (.fn (.pair (.sl (.sl (.int .i64))) .unit) (.pair (.sl (.sl (.int .i64))) .unit)) .nil)) 116 (.fn (.pair (.sl zo) .unit) (.pair (.sl zo) .unit)) (.node (.node .nil 117 (.fn (.pair (.sl jz) .unit) (.pair (.sl jz) .unit)) .nil) 118 (.fn (.pair (.sl qt) .unit) (.pair (.sl qt) .unit)) (.node .nil 119 (.fn (.pair (.sl zW) .unit) (.pair (.sl zW) .unit)) .nil))) 120 (.fn (.pair (.sl qA) .unit) (.pair (.sl qA) .unit)) (.node (.node (.node .nil 121 (.fn (.pair (.sl zB) .unit) (.pair (.sl zB) .unit)) .nil) 122 (.fn (.pair (.sl (.arr 4 (.int .u64))) .unit) (.pair (.sl (.arr 4 (.int .u64))) .unit)) (.node .nil 123 (.fn (.pair (.sl z5) .unit) (.pair (.sl z5) .unit)) .nil)) 124 (.fn (.pair (.sl zo) (.pair (.sl zo) (.pair (.fn (.pair zo (.pair zo .unit)) (.pair .bool .unit)) .unit))) (.pair .bool .unit)) (.node (.node .nil 125 (.fn (.pair (.sl (.sl (.int .i64))) (.pair (.sl (.sl (.int .i64))) (.pair (.fn (.pair (.sl (.int .i64)) (.pair (.sl (.int .i64)) .unit)) (.pair .bool .unit)) .unit))) (.pair .bool .unit)) .nil) 126 (.fn (.pair (.sl (.int .i64)) (.pair (.sl (.int .i64)) .unit)) (.pair .bool .unit)) (.node .nil 127 (.sl (.fn (.pair zD .unit) (.pair .bool .unit))) .nil)))) 128 (.fn (.pair zD (.pair (.int .i64) .unit)) (.pair .bool .unit)) (.node (.node (.node (.node .nil 129 (.fn (.pair zr (.pair zr .unit)) (.pair .bool .unit)) .nil) 130 (.st (.pair (.int .i64) (.pair (.int .u64) .unit))) (.node .nil 131 zr .nil)) 132 (.st (.pair (.int .i64) (.pair (.int .i64) .unit))) (.node (.node .nil 133 y5 .nil) 134 (.fn (.pair zr .unit) (.pair .bool .unit)) (.node .nil 135 (.fn (.pair zr (.pair zr .unit)) (.pair (.int .i64) .unit)) .nil))) 136 (.fn (.pair .str .unit) (.pair .bool .unit)) (.node (.node (.node .nil 137 (.st (.pair .str (.pair .str (.pair (.int .i64) (.pair .bool .unit))))) .nil) 138 jL (.node .nil 139 (.fn (.pair (.sl zr) (.pair zr .unit)) (.pair (.int .i64) .unit)) .nil)) 140 (.fn (.pair (.int .i64) .unit) (.pair zr .unit)) (.node (.node .nil 141 (.fn (.pair zr (.pair (.int .i64) .unit)) (.pair .bool .unit)) .nil) 142 (.fn (.pair (.sl y5) (.pair (.int .i64) .unit)) (.pair .bool .unit)) (.node .nil 143 (.fn (.pair (.sl jz) (.pair (.sl jz) .unit)) (.pair .bool .unit)) .nil))))))) 144 (.fn (.pair (.sl qt) (.pair (.sl qt) .unit)) (.pair .bool .unit)) (.node (.node (.node (.node (.node (.node (.node (.node .nil 145 (.fn (.pair (.sl zW) (.pair (.sl zW) .unit)) (.pair .bool .unit)) .nil) 146 (.fn (.pair (.sl qA) (.pair (.sl qA) .unit)) (.pair .bool .unit)) .nil) 147 (.fn (.pair (.sl zB) (.pair (.sl zB) .unit)) (.pair .bool .unit)) (.node .nil 148 (.fn (.pair zD (.pair (.sl (.sl (.int .i64))) .unit)) (.pair .bool .unit)) .nil)) 149 (.fn (.pair (.sl zw) .unit) (.pair .bool .unit)) (.node (.node .nil 150 (.fn (.pair (.sl zC) .unit) (.pair .bool .unit)) .nil) 151 (.fn (.pair (.sl jz) .unit) (.pair .bool .unit)) (.node .nil 152 (.fn (.pair (.sl qt) .unit) (.pair .bool .unit)) .nil))) 153 (.fn (.pair (.sl zW) .unit) (.pair .bool .unit)) (.node (.node (.node .nil 154 (.fn (.pair (.sl qA) .unit) (.pair .bool .unit)) .nil) 155 (.fn (.pair (.sl zB) .unit) (.pair .bool .unit)) (.node .nil 156 (.fn (.pair zD (.pair zX (.pair z5 (.pair (.int .i64) .unit)))) (.pair .bool .unit)) .nil)) 157 (.fn (.pair zD (.pair zX (.pair (.int .i64) (.pair (.int .i64) .unit)))) (.pair .bool .unit)) (.node (.node .nil 158 (.fn (.pair zD (.pair zo (.pair (.int .i64) .unit))) (.pair .bool .unit)) .nil) 159 (.fn (.pair (.sl zw) .unit) (.pair (.sl (.int .i64)) .unit)) (.node .nil 160 (.fn (.pair zw .unit) (.pair (.int .i64) .unit)) .nil)))) 161 (.ptr zbu) (.node (.node (.node (.node .nil 162 (.fn (.pair (.sl zB) .unit) (.pair (.ptr zbu) .unit)) .nil) 163 (.fn .unit (.pair (.sl (.int .i64)) .unit)) (.node .nil 164 (.fn (.pair zw (.pair (.int .i64) .unit)) (.pair (.int .u64) .unit)) .nil)) 166 (.fn (.pair (.int .u64) (.pair (.int .u64) (.pair (.int .u64) .unit))) (.pair (.int .u64) (.pair (.int .u64) .unit))) (.node (.node .nil 167 (.fn (.pair (.sl zo) (.pair (.fn (.pair zo .unit) (.pair .bool .unit)) .unit)) (.pair .bool .unit)) .nil) 168 (.fn (.pair zo .unit) (.pair .bool .unit)) (.node .nil 169 (.fn (.pair (.sl zw) (.pair (.fn (.pair zw .unit) (.pair .bool .unit)) .unit)) (.pair .bool .unit)) .nil))) 170 (.fn (.pair zw .unit) (.pair .bool .unit)) (.node (.node (.node .nil 171 (.fn (.pair (.sl zC) (.pair (.fn (.pair zC .unit) (.pair .bool .unit)) .unit)) (.pair .bool .unit)) .nil) 172 (.fn (.pair zC .unit) (.pair .bool .unit)) (.node .nil 173 (.fn (.pair (.sl (.int .i64)) (.pair (.fn (.pair (.int .i64) .unit) (.pair .bool .unit)) .unit)) (.pair .bool .unit)) .nil)) 174 (.fn (.pair z5 .unit) (.pair .bool .unit)) (.node (.node .nil 175 (.fn (.pair (.int .i64) .unit) (.pair (.fn (.pair z5 .unit) (.pair .bool .unit)) .unit)) .nil) 176 (.fn (.pair (.sl qt) (.pair (.fn (.pair qt .unit) (.pair .bool .unit)) .unit)) (.pair .bool .unit)) (.node .nil 177 (.fn (.pair qt .unit) (.pair .bool .unit)) .nil))))) 178 (.fn (.pair (.sl zW) (.pair (.fn (.pair zW .unit) (.pair .bool .unit)) .unit)) (.pair .bool .unit)) (.node (.node (.node (.node (.node (.node .nil 179 (.fn (.pair zW .unit) (.pair .bool .unit)) .nil) 180 (.fn (.pair (.sl z5) (.pair (.fn (.pair z5 .unit) (.pair .bool .unit)) .unit)) (.pair .bool .unit)) .nil) 181 (.fn (.pair (.sl qA) (.pair (.fn (.pair qA .unit) (.pair .bool .unit)) .unit)) (.pair .bool .unit)) (.node .nil 182 (.fn (.pair (.int .i64) (.pair (.int .i64) .unit)) (.pair .bool .unit)) .nil)) 183 (.fn (.pair qA .unit) (.pair .bool .unit)) (.node (.node .nil 184 (.fn (.pair (.sl zB) (.pair (.fn (.pair zB .unit) (.pair .bool .unit)) .unit)) (.pair .bool .unit)) .nil) 185 (.fn (.pair zB .unit) (.pair .bool .unit)) (.node .nil 186 (.fn (.pair (.sl zB) (.pair (.fn (.pair zB .unit) (.pair .bool .unit)) .unit)) (.pair (.ptr zbu) .unit)) .nil))) 187 (.fn (.pair zD (.pair (.int .i64) .unit)) (.pair (.sl (.int .i64)) .unit)) (.node (.node (.node .nil 188 (.fn (.pair (.sl (.arr 4 (.int .u64))) (.pair (.sl (.arr 4 (.int .u64))) .unit)) (.pair .bool .unit)) .nil) 189 (.fn (.pair (.sl z5) (.pair (.sl z5) .unit)) (.pair .bool .unit)) (.node .nil 190 (.fn (.pair (.int .i64) (.pair (.int .i64) (.pair (.int .i64) .unit))) (.pair .bool .unit)) .nil)) 191 (.fn (.pair (.sl zr) (.pair (.fn (.pair zr .unit) (.pair .bool .unit)) .unit)) (.pair .bool .unit)) (.node (.node .nil 192 (.fn (.pair jL .unit) (.pair .bool .unit)) .nil) 193 (.fn (.pair (.sl jL) (.pair (.fn (.pair jL .unit) (.pair .bool .unit)) .unit)) (.pair .bool .unit)) (.node .nil 194 (.fn (.pair (.sl .str) .unit) (.pair .bool .unit)) .nil)))) 195 (.sl .str) (.node (.node (.node (.node .nil 196 (.fn (.pair zD .unit) (.pair (.sl .str) .unit)) .nil) 198 (.fn (.pair (.int .i64) .unit) (.pair zr (.pair (.int .i64) .unit))) (.node .nil 199 (.fn (.pair (.sl zr) (.pair zr .unit)) (.pair .bool .unit)) .nil)) 200 (.fn (.pair zgH .unit) (.pair (.sl (.int .i64)) .unit)) (.node (.node .nil 201 (.int .u64) .nil) 202 (.fn (.pair (.sl zw) (.pair (.int .i64) (.pair (.int .i64) .unit))) (.pair .bool .unit)) (.node .nil 203 (.fn (.pair zC (.pair zC .unit)) (.pair .bool .unit)) .nil))) 204 (.ptr zcL) (.node (.node (.node .nil 205 (.fn (.pair (.sl zw) .unit) (.pair (.ptr zcL) .unit)) .nil) 206 (.st (.pair (.sl zB) (.pair (.fn (.pair zB .unit) (.pair .bool .unit)) .unit))) (.node .nil 207 zbu .nil)) 208 (.fn (.pair (.sl jz) (.pair (.fn (.pair jz .unit) (.pair .bool .unit)) .unit)) (.pair .bool .unit)) (.node (.node .nil 209 (.fn (.pair jz .unit) (.pair .bool .unit)) .nil) 210 (.fn (.pair (.sl qt) (.pair z5 (.pair (.int .i64) .unit))) (.pair (.int .i64) .unit)) (.node .nil 211 (.pair (.int .i64) (.int .i64)) .nil)))))) 212 (.fn (.pair zC (.pair zC .unit)) (.pair (.int .i64) .unit)) (.node (.node (.node (.node (.node (.node (.node .nil 213 (.fn (.pair (.sl (.int .i64)) (.pair (.fn (.pair (.int .i64) .unit) (.pair .bool .unit)) .unit)) (.pair (.int .i64) .unit)) .nil) 214 (.fn (.pair (.sl (.int .i64)) (.pair (.int .i64) .unit)) (.pair .bool .unit)) .nil) 215 (.fn (.pair zr .unit) (.pair (.sl (.int .i64)) .unit)) (.node .nil 216 (.fn (.pair (.sl zr) (.pair (.fn (.pair zr .unit) (.pair .bool .unit)) .unit)) (.pair (.int .i64) .unit)) .nil)) 217 (.fn (.pair (.sl (.int .i64)) .unit) (.pair (.int .i64) .unit)) (.node (.node .nil 218 (.fn (.pair (.int .i64) (.pair (.int .i64) .unit)) (.pair (.int .i64) .unit)) .nil) 219 (.fn (.pair (.int .u64) (.pair (.int .u64) .unit)) (.pair (.int .i64) .unit)) (.node .nil 220 (.fn (.pair (.int .u8) .unit) (.pair .bool .unit)) .nil))) 221 (.fn (.pair .str (.pair (.fn (.pair (.int .u8) .unit) (.pair .bool .unit)) .unit)) (.pair .bool .unit)) (.node (.node (.node .nil 222 (.fn (.pair (.sl jL) (.pair (.fn (.pair jL .unit) (.pair .bool .unit)) .unit)) (.pair (.int .i64) .unit)) .nil) 223 (.pair .str (.int .i64)) (.node .nil 224 (.fn (.pair (.int .i64) (.pair (.int .u64) (.pair (.int .u64) .unit))) (.pair (.int .u64) (.pair (.int .i64) .unit))) .nil)) 225 (.fn (.pair ziy .unit) (.pair .bool .unit)) (.node (.node .nil 226 (.fn (.pair (.sl zw) (.pair (.fn (.pair zw .unit) (.pair .bool .unit)) .unit)) (.pair (.ptr zcL) .unit)) .nil) 227 (.st (.pair (.sl zw) (.pair (.fn (.pair zw .unit) (.pair .bool .unit)) .unit))) (.node .nil 228 zcL .nil)))) 229 (.fn (.pair (.sl zo) (.pair (.fn (.pair zo .unit) (.pair .bool .unit)) .unit)) (.pair (.int .i64) .unit)) (.node (.node (.node (.node .nil 230 (.fn (.pair (.sl jz) (.pair (.fn (.pair jz .unit) (.pair .bool .unit)) .unit)) (.pair (.int .i64) .unit)) .nil) 231 (.fn (.pair (.sl qt) (.pair (.fn (.pair qt .unit) (.pair .bool .unit)) .unit)) (.pair (.int .i64) .unit)) (.node .nil 232 (.fn (.pair (.sl zW) (.pair (.fn (.pair zW .unit) (.pair .bool .unit)) .unit)) (.pair (.int .i64) .unit)) .nil)) 233 (.st (.pair (.int .i64) (.pair (.int .i64) (.pair z5 .unit)))) (.node (.node .nil 234 zQP .nil) 235 (.fn (.pair zW .unit) (.pair zQP .unit)) (.node .nil 236 (.fn (.pair (.sl qA) (.pair (.fn (.pair qA .unit) (.pair .bool .unit)) .unit)) (.pair (.int .i64) .unit)) .nil))) 237 (.fn (.pair (.sl zB) (.pair (.fn (.pair zB .unit) (.pair .bool .unit)) .unit)) (.pair (.int .i64) .unit)) (.node (.node (.node .nil 238 (.fn (.pair (.sl zw) (.pair (.fn (.pair zw .unit) (.pair .bool .unit)) .unit)) (.pair (.int .i64) .unit)) .nil) 239 (.fn (.pair (.sl zC) (.pair (.fn (.pair zC .unit) (.pair .bool .unit)) .unit)) (.pair (.int .i64) .unit)) (.node .nil 240 (.fn (.pair (.sl z5) (.pair (.fn (.pair z5 .unit) (.pair .bool .unit)) .unit)) (.pair (.int .i64) .unit)) .nil)) 241 (.fn (.pair (.sl (.int .i64)) (.pair (.int .i64) .unit)) (.pair (.int .i64) .unit)) (.node (.node .nil 242 (.fn (.pair (.fn (.pair (.int .i64) .unit) (.pair .bool .unit)) .unit) .unit) .nil) 243 (.fn (.pair (.fn (.pair (.int .i64) .unit) (.pair .bool .unit)) .unit) .unit) (.node .nil 244 (.fn (.pair zr .unit) (.pair (.fn (.pair (.fn (.pair (.int .i64) .unit) (.pair .bool .unit)) .unit) .unit) .unit)) .nil))))) 245 (.fn (.pair (.int .u64) .unit) (.pair .bool .unit)) (.node (.node (.node (.node (.node (.node .nil 246 (.fn (.pair (.sl (.int .u8)) (.pair (.fn (.pair (.int .u8) .unit) (.pair .bool .unit)) .unit)) (.pair .bool .unit)) .nil) 247 (.sl (.int .u8)) .nil) 248 (.fn (.pair .str (.pair .str .unit)) (.pair .str .unit)) (.node .nil 249 (.fn (.pair (.int .u64) .unit) (.pair (.int .i64) .unit)) .nil)) 250 (.fn (.pair (.sl (.int .u8)) (.pair (.fn (.pair (.int .u8) .unit) (.pair .bool .unit)) .unit)) (.pair (.int .i64) .unit)) (.node (.node .nil 251 (.fn (.pair .str (.pair (.int .u8) .unit)) (.pair .str .unit)) .nil) 252 (.arr 256 .bool) (.node .nil 253 (.arr 256 .bool) .nil))) 255 (.fn (.pair .str .unit) (.pair (.arr 256 .bool) (.pair .bool .unit))) (.node (.node (.node .nil 256 (.fn (.pair .str (.pair (.ptr (.arr 256 .bool)) .unit)) (.pair .str .unit)) .nil) 257 (.ptr (.arr 256 .bool)) (.node .nil 258 (.fn (.pair (.int .u64) (.pair (.int .u64) .unit)) (.pair (.int .u64) (.pair (.int .u64) .unit))) .nil)) 259 (.arr 64 (.int .u8)) (.node (.node .nil 261 (.fn (.pair .str .unit) (.pair (.int .i32) (.pair (.int .i64) .unit))) .nil) 262 (.fn (.pair .str (.pair (.int .i32) .unit)) (.pair .bool .unit)) (.node .nil 263 (.fn (.pair .str (.pair (.int .i32) .unit)) (.pair (.int .i64) .unit)) .nil)))) 264 (.arr 256 (.int .u8)) (.node (.node (.node (.node .nil 265 (.st (.pair (.int .u8) (.pair (.int .u8) .unit))) .nil) 266 zBI (.node .nil 267 (.arr 16 zBI) .nil)) 268 (.fn (.pair .str (.pair (.int .u8) .unit)) (.pair (.int .i64) .unit)) (.node (.node .nil 269 (.fn (.pair (.int .i32) .unit) (.pair .bool .unit)) .nil) 270 (.fn (.pair (.int .i64) .unit) (.pair (.int .i64) .unit)) (.node .nil 271 (.fn (.pair .str (.pair .str .unit)) (.pair (.int .i64) .unit)) .nil))) 272 (.fn .unit (.pair .str .unit)) (.node (.node (.node .nil 278 (.fn .unit (.pair (.int .i64) .unit)) .nil) 279 (.int .u32) (.node .nil 280 (.int .u8) .nil)) 281 (.int .u8) (.node (.node .nil 283 (.ptr (.int .u8)) .nil) 284 (.int .i32) (.node .nil 285 (.int .i32) .nil))))))))
def glob : List (Nat × AV) := [(0, .dat (.ptr (.arr 64 (.int .u8))) (some [0, 1, 56, 2, 57, 49, 28, 3, 61, 58, 42, 50, 38, 29, 17, 4, 62, 47, 59, 36, 45, 43, 51, 22, 53, 39, 33, 30, 24, 18, 12, 5, 63, 55, 48, 27, 60, 41, 37, 16, 46, 35, 44, 21, 52, 32, 23, 11, 54, 26, 40, 15, 34, 20, 31, 10, 25, 14, 19, 9, 13, 8, 7, 6]))]
abbrev zmr : Ty := (.pair zD (.pair zX (.pair tMe .unit)))
abbrev zs9 : Ty := (.pair .bool .unit)
abbrev zUB : Type := (ze × (zf × (pMe × Unit))) → Option (Bool × Unit)
abbrev zSu (g : Fnc zmr zs9) : Fun := ⟨6, zmr, zs9, 0, g⟩
abbrev zIf : Ty := (.pair zD .unit)
abbrev zlt : Ty := (.pair zX (.pair (.int .i64) .unit))
abbrev zRF : Type := (ze × Unit) → Option (zf × (Int × Unit))
abbrev zCM (g : Fnc zIf zlt) : Fun := ⟨8, zIf, zlt, 3, g⟩
abbrev zy5 : Ty := (.pair zD .unit)
abbrev zqr : Ty := (.pair .bool .unit)
abbrev zy6 : Type := (ze × Unit) → Option (Bool × Unit)
abbrev ziL (g : Fnc zy5 zqr) : Fun := ⟨9, zy5, zqr, 0, g⟩
abbrev zy7 : Ty := (.pair zD (.pair zX .unit))
abbrev zaG : Ty := (.pair .bool .unit)
abbrev zM1 : Type := (ze × (zf × Unit)) → Option (Bool × Unit)
abbrev zwd (g : Fnc zy7 zaG) : Fun := ⟨12, zy7, zaG, 0, g⟩
abbrev zCN : Ty := (.pair zX (.pair (.int .i64) .unit))
abbrev zeS : Ty := (.pair (.int .u64) (.pair (.int .i64) .unit))
abbrev zCO : Type := (zf × (Int × Unit)) → Option (Int × (Int × Unit))
abbrev zkV (g : Fnc zCN zeS) : Fun := ⟨13, zCN, zeS, 0, g⟩
abbrev zCP : Ty := (.pair zX (.pair (.int .i64) .unit))
abbrev zeT : Ty := (.pair (.int .u64) (.pair (.int .i64) .unit))
abbrev zO1 : Type := (zf × (Int × Unit)) → Option (Int × (Int × Unit))
abbrev zy8 (g : Fnc zCP zeT) : Fun := ⟨14, zCP, zeT, 0, g⟩
abbrev zCQ : Ty := (.pair zX (.pair (.int .i64) .unit))
abbrev zCR : Ty := (.pair (.int .u64) (.pair (.int .i64) .unit))
abbrev zCS : Type := (zf × (Int × Unit)) → Option (Int × (Int × Unit))
abbrev zkW (g : Fnc zCQ zCR) : Fun := ⟨15, zCQ, zCR, 0, g⟩
abbrev zCT : Ty := (.pair zX (.pair (.int .i64) .unit))
abbrev ziM : Ty := (.pair (.int .u64) (.pair (.int .i64) .unit))
abbrev zO2 : Type := (zf × (Int × Unit)) → Option (Int × (Int × Unit))
abbrev zy9 (g : Fnc zCT ziM) : Fun := ⟨16, zCT, ziM, 0, g⟩
abbrev zza : Ty := (.pair zD (.pair zX .unit))
abbrev zqs : Ty := (.pair .bool .unit)
abbrev zkX : Type := (ze × (zf × Unit)) → Option (Bool × Unit)
abbrev yQ (g : Fnc zza zqs) : Fun := ⟨17, zza, zqs, 0, g⟩
abbrev zwe : Ty := (.pair zD (.pair zX (.pair z5 .unit)))
abbrev zwf : Ty := (.pair .bool .unit)
abbrev zKm : Type := (ze × (zf × (jE × Unit))) → Option (Bool × Unit)
abbrev zta (g : Fnc zwe zwf) : Fun := ⟨18, zwe, zwf, 0, g⟩
abbrev zzb : Ty := (.pair zX (.pair z5 .unit))
abbrev zzc : Ty := (.pair .bool .unit)
abbrev zzd : Type := (zf × (jE × Unit)) → Option (Bool × Unit)
abbrev ziN (g : Fnc zzb zzc) : Fun := ⟨19, zzb, zzc, 0, g⟩
abbrev zLX : Ty := (.pair zD (.pair zX (.pair (.int .i64) .unit)))
abbrev zLY : Ty := (.pair tMe (.pair (.int .i64) .unit))
abbrev zUC : Type := (ze × (zf × (Int × Unit))) → Option (pMe × (Int × Unit))
abbrev zIg (g : Fnc zLX zLY) : Fun := ⟨20, zLX, zLY, 0, g⟩
abbrev zze : Ty := .unit
abbrev zzf : Ty := (.pair .bool .unit)
abbrev zM2 : Type := Unit → Option (Bool × Unit)
abbrev zwg (g : Fnc zze zzf) : Fun := ⟨21, zze, zzf, 0, g⟩
abbrev zzg : Ty := (.pair zX .unit)
abbrev zge : Ty := (.pair zX .unit)
abbrev zzh : Type := (zf × Unit) → Option (zf × Unit)
abbrev zwh (g : Fnc zzg zge) : Fun := ⟨23, zzg, zge, 3, g⟩
abbrev zCU : Ty := (.pair zX (.pair zX .unit))
abbrev zCV : Ty := (.pair .bool .unit)
abbrev zO3 : Type := (zf × (zf × Unit)) → Option (Bool × Unit)
abbrev zzi (g : Fnc zCU zCV) : Fun := ⟨24, zCU, zCV, 0, g⟩
abbrev zzj : Ty := (.pair zD .unit)
abbrev zqt : Ty := (.pair .bool .unit)
abbrev zgf : Type := (ze × Unit) → Option (Bool × Unit)
abbrev vK (g : Fnc zzj zqt) : Fun := ⟨25, zzj, zqt, 0, g⟩
abbrev zCW : Ty := (.pair zD (.pair zX (.pair tMe .unit)))
abbrev zCX : Ty := (.pair .bool .unit)
abbrev zO4 : Type := (ze × (zf × (pMe × Unit))) → Option (Bool × Unit)
abbrev zzk (g : Fnc zCW zCX) : Fun := ⟨26, zCW, zCX, 0, g⟩
abbrev zCY : Ty := (.pair zD (.pair tMe .unit))
abbrev zCZ : Ty := (.pair .bool .unit)
abbrev zO5 : Type := (ze × (pMe × Unit)) → Option (Bool × Unit)
abbrev zzl (g : Fnc zCY zCZ) : Fun := ⟨27, zCY, zCZ, 0, g⟩
abbrev zLZ : Ty := (.pair zD .unit)
abbrev zCh : Ty := (.pair (.sl (.sl (.int .i64))) .unit)
abbrev zUD : Type := (ze × Unit) → Option ((List (List Int)) × Unit)
abbrev zIh (g : Fnc zLZ zCh) : Fun := ⟨29, zLZ, zCh, 4, g⟩
abbrev zzm : Ty := (.pair zD (.pair zgH .unit))
abbrev zzn : Ty := (.pair zo .unit)
abbrev zM3 : Type := (ze × (zc0 × Unit)) → Option (zm × Unit)
abbrev zwi (g : Fnc zzm zzn) : Fun := ⟨30, zzm, zzn, 3, g⟩
abbrev zwj : Ty := (.pair (.sl zr) .unit)
abbrev zn5 : Ty := (.pair .bool .unit)
abbrev zKn : Type := ((List zu) × Unit) → Option (Bool × Unit)
abbrev ztb (g : Fnc zwj zn5) : Fun := ⟨31, zwj, zn5, 0, g⟩
abbrev zq2 : Ty := (.pair (.sl jL) .unit)
abbrev zaO : Ty := (.pair .bool .unit)
abbrev zC0 : Type := ((List qW) × Unit) → Option (Bool × Unit)
abbrev zoV (g : Fnc zq2 zaO) : Fun := ⟨32, zq2, zaO, 0, g⟩
abbrev zwk : Ty := (.pair (.sl y5) (.pair (.sl zr) (.pair (.int .i64) .unit)))
abbrev yR : Ty := (.pair .bool .unit)
abbrev zKo : Type := ((List qi) × ((List zu) × (Int × Unit))) → Option (Bool × Unit)
abbrev ztc (g : Fnc zwk yR) : Fun := ⟨33, zwk, yR, 0, g⟩
abbrev zwl : Ty := (.pair (.sl zgH) .unit)
abbrev zn6 : Ty := (.pair .bool .unit)
abbrev zKp : Type := ((List zc0) × Unit) → Option (Bool × Unit)
abbrev ztd (g : Fnc zwl zn6) : Fun := ⟨34, zwl, zn6, 0, g⟩
abbrev zzo : Ty := (.pair zD (.pair zX .unit))
abbrev zqu : Ty := (.pair .bool .unit)
abbrev zM4 : Type := (ze × (zf × Unit)) → Option (Bool × Unit)
abbrev zwm (g : Fnc zzo zqu) : Fun := ⟨40, zzo, zqu, 0, g⟩
abbrev zwn : Ty := (.pair zD (.pair zX .unit))
abbrev zaW : Ty := (.pair .bool .unit)
abbrev zKq : Type := (ze × (zf × Unit)) → Option (Bool × Unit)
abbrev zte (g : Fnc zwn zaW) : Fun := ⟨41, zwn, zaW, 0, g⟩
abbrev zzp : Ty := (.pair zD (.pair zX (.pair (.int .i64) .unit)))
abbrev vE : Ty := (.pair .bool .unit)
abbrev zM5 : Type := (ze × (zf × (Int × Unit))) → Option (Bool × Unit)
abbrev zwo (g : Fnc zzp vE) : Fun := ⟨42, zzp, vE, 0, g⟩
abbrev zC1 : Ty := (.pair (.int .i64) .unit)
abbrev zC2 : Ty := (.pair .bool .unit)
abbrev zc1 : Type := (Int × Unit) → Option (Bool × Unit)
abbrev jF (g : Fnc zC1 zC2) : Fun := ⟨43, zC1, zC2, 0, g⟩
abbrev zIi : Ty := (.pair (.sl zw) (.pair (.int .i64) .unit))
abbrev zyi : Ty := (.pair (.int .u64) (.pair (.int .i64) .unit))
abbrev zRG : Type := ((List zj) × (Int × Unit)) → Option (Int × (Int × Unit))
abbrev zC3 (g : Fnc zIi zyi) : Fun := ⟨44, zIi, zyi, 0, g⟩
abbrev zC4 : Ty := (.pair (.sl zB) (.pair (.int .i64) .unit))
abbrev ztf : Ty := (.pair (.int .u64) (.pair (.int .i64) .unit))
abbrev zO6 : Type := ((List zn) × (Int × Unit)) → Option (Int × (Int × Unit))
abbrev zzq (g : Fnc zC4 ztf) : Fun := ⟨45, zC4, ztf, 0, g⟩
abbrev zL0 : Ty := (.pair (.sl (.int .u64)) .unit)
abbrev zCi : Ty := (.pair (.int .u64) (.pair (.int .i64) .unit))
abbrev ztg : Type := ((List Int) × Unit) → Option (Int × (Int × Unit))
abbrev zcM (g : Fnc zL0 zCi) : Fun := ⟨46, zL0, zCi, 0, g⟩
abbrev zC5 : Ty := (.pair (.sl zw) (.pair (.int .i64) .unit))
abbrev zth : Ty := (.pair (.int .u64) (.pair (.int .i64) .unit))
abbrev zO7 : Type := ((List zj) × (Int × Unit)) → Option (Int × (Int × Unit))
abbrev zzr (g : Fnc zC5 zth) : Fun := ⟨47, zC5, zth, 0, g⟩
abbrev zC6 : Ty := (.pair (.sl zB) (.pair (.int .i64) .unit))
abbrev zti : Ty := (.pair (.int .u64) (.pair (.int .i64) .unit))
abbrev zO8 : Type := ((List zn) × (Int × Unit)) → Option (Int × (Int × Unit))
abbrev zzs (g : Fnc zC6 zti) : Fun := ⟨48, zC6, zti, 0, g⟩
abbrev zC7 : Ty := (.pair (.int .u64) (.pair (.int .u64) .unit))
abbrev zC8 : Ty := (.pair (.int .u64) (.pair (.int .i64) .unit))
abbrev zmY : Type := (Int × (Int × Unit)) → Option (Int × (Int × Unit))
abbrev zaH (g : Fnc zC7 zC8) : Fun := ⟨49, zC7, zC8, 0, g⟩
abbrev zwp : Ty := (.pair zX (.pair (.int .i64) (.pair (.fn (.pair zo .unit) (.pair (.arr 4 (.int .u64)) .unit)) .unit)))
abbrev zn7 : Ty := (.pair (.int .u64) (.pair (.int .i64) .unit))
abbrev zKr : Type := (zf × (Int × ((Option ((zm × Unit) → Option ((List Int) × Unit))) × Unit))) → Option (Int × (Int × Unit))
abbrev ztj (g : Fnc zwp zn7) : Fun := ⟨50, zwp, zn7, 0, g⟩
abbrev zwq : Ty := (.pair zo .unit)
abbrev zwr : Ty := (.pair (.arr 4 (.int .u64)) .unit)
abbrev zKs : Type := (zm × Unit) → Option ((List Int) × Unit)
abbrev ztk (g : Fnc zwq zwr) : Fun := ⟨51, zwq, zwr, 0, g⟩
abbrev zws : Ty := (.pair zo .unit)
abbrev zwt : Ty := (.pair (.arr 4 (.int .u64)) .unit)
abbrev zKt : Type := (zm × Unit) → Option ((List Int) × Unit)
abbrev ztl (g : Fnc zws zwt) : Fun := ⟨52, zws, zwt, 0, g⟩
abbrev zC9 : Ty := (.pair (.int .u64) (.pair (.int .u64) .unit))
abbrev zDa : Ty := (.pair (.int .u64) (.pair (.int .i64) .unit))
abbrev zO9 : Type := (Int × (Int × Unit)) → Option (Int × (Int × Unit))
abbrev zzt (g : Fnc zC9 zDa) : Fun := ⟨53, zC9, zDa, 0, g⟩
abbrev zzu : Ty := (.pair (.int .u64) (.pair (.int .u64) .unit))
abbrev zzv : Ty := (.pair (.int .u64) (.pair (.int .i64) .unit))
abbrev zM6 : Type := (Int × (Int × Unit)) → Option (Int × (Int × Unit))
abbrev zwu (g : Fnc zzu zzv) : Fun := ⟨54, zzu, zzv, 0, g⟩
abbrev zzw : Ty := (.pair qX .unit)
abbrev zqv : Ty := (.pair .bool .unit)
abbrev zM7 : Type := (qM × Unit) → Option (Bool × Unit)
abbrev zwv (g : Fnc zzw zqv) : Fun := ⟨55, zzw, zqv, 0, g⟩
abbrev zzx : Ty := (.pair qX .unit)
abbrev zzy : Ty := (.pair .bool .unit)
abbrev zM8 : Type := (qM × Unit) → Option (Bool × Unit)
abbrev zww (g : Fnc zzx zzy) : Fun := ⟨56, zzx, zzy, 0, g⟩
abbrev zwx : Ty := (.pair qX .unit)
abbrev zwy : Ty := (.pair .bool .unit)
abbrev zKu : Type := (qM × Unit) → Option (Bool × Unit)
abbrev ztm (g : Fnc zwx zwy) : Fun := ⟨57, zwx, zwy, 0, g⟩
abbrev zzz : Ty := (.pair qX .unit)
abbrev zqw : Ty := (.pair .bool .unit)
abbrev zM9 : Type := (qM × Unit) → Option (Bool × Unit)
abbrev zwz (g : Fnc zzz zqw) : Fun := ⟨58, zzz, zqw, 0, g⟩
abbrev zwA : Ty := (.pair qX .unit)
abbrev ziO : Ty := (.pair .bool .unit)
abbrev zKv : Type := (qM × Unit) → Option (Bool × Unit)
abbrev ztn (g : Fnc zwA ziO) : Fun := ⟨59, zwA, ziO, 0, g⟩
abbrev zzA : Ty := (.pair qX .unit)
abbrev vc : Ty := (.pair .bool .unit)
abbrev zNa : Type := (qM × Unit) → Option (Bool × Unit)
abbrev zwB (g : Fnc zzA vc) : Fun := ⟨60, zzA, vc, 0, g⟩
abbrev zzB : Ty := (.pair qX .unit)
abbrev zdI : Ty := (.pair .bool .unit)
abbrev zNb : Type := (qM × Unit) → Option (Bool × Unit)
abbrev zwC (g : Fnc zzB zdI) : Fun := ⟨61, zzB, zdI, 0, g⟩
abbrev zzC : Ty := (.pair zX (.pair z5 .unit))
abbrev zzD : Ty := (.pair .bool .unit)
abbrev zqx : Type := (zf × (jE × Unit)) → Option (Bool × Unit)
abbrev zcl (g : Fnc zzC zzD) : Fun := ⟨62, zzC, zzD, 0, g⟩
abbrev zwD : Ty := (.pair zD (.pair (.sl (.sl (.int .i64))) (.pair (.int .i64) (.pair (.int .i64) .unit))))
abbrev zwE : Ty := (.pair .bool .unit)
abbrev zKw : Type := (ze × ((List (List Int)) × (Int × (Int × Unit)))) → Option (Bool × Unit)
abbrev zto (g : Fnc zwD zwE) : Fun := ⟨63, zwD, zwE, 0, g⟩
abbrev zzE : Ty := .unit
abbrev zzF : Ty := (.pair zD .unit)
abbrev zNc : Type := Unit → Option (ze × Unit)
abbrev zwF (g : Fnc zzE zzF) : Fun := ⟨64, zzE, zzF, 0, g⟩
abbrev zq3 : Ty := (.pair (.sl zw) .unit)
abbrev zq4 : Ty := (.pair (.sl zw) .unit)
abbrev zq5 : Type := ((List zj) × Unit) → Option ((List zj) × Unit)
abbrev zdW (g : Fnc zq3 zq4) : Fun := ⟨66, zq3, zq4, 1, g⟩
abbrev zq6 : Ty := (.pair (.sl zC) .unit)
abbrev zq7 : Ty := (.pair (.sl zC) .unit)
abbrev zDb : Type := ((List zH) × Unit) → Option ((List zH) × Unit)
abbrev zoW (g : Fnc zq6 zq7) : Fun := ⟨67, zq6, zq7, 1, g⟩
abbrev zwG : Ty := (.pair (.sl (.int .i64)) .unit)
abbrev zwH : Ty := (.pair (.sl (.int .i64)) .unit)
abbrev zKx : Type := ((List Int) × Unit) → Option ((List Int) × Unit)
abbrev ztp (g : Fnc zwG zwH) : Fun := ⟨68, zwG, zwH, 1, g⟩
abbrev ztq : Ty := (.pair (.sl (.sl (.int .i64))) .unit)
abbrev ztr : Ty := (.pair (.sl (.sl (.int .i64))) .unit)
abbrev zGP : Type := ((List (List Int)) × Unit) → Option ((List (List Int)) × Unit)
abbrev zq8 (g : Fnc ztq ztr) : Fun := ⟨69, ztq, ztr, 1, g⟩
abbrev zq9 : Ty := (.pair (.sl zo) .unit)
abbrev zra : Ty := (.pair (.sl zo) .unit)
abbrev zDc : Type := ((List zm) × Unit) → Option ((List zm) × Unit)
abbrev zoX (g : Fnc zq9 zra) : Fun := ⟨70, zq9, zra, 1, g⟩
abbrev zts : Ty := (.pair (.sl jz) .unit)
abbrev ztt : Ty := (.pair (.sl jz) .unit)
abbrev zGQ : Type := ((List jK) × Unit) → Option ((List jK) × Unit)
abbrev zrb (g : Fnc zts ztt) : Fun := ⟨71, zts, ztt, 1, g⟩
abbrev ztu : Ty := (.pair (.sl qt) .unit)
abbrev ztv : Ty := (.pair (.sl qt) .unit)
abbrev zGR : Type := ((List qd) × Unit) → Option ((List qd) × Unit)
abbrev zrc (g : Fnc ztu ztv) : Fun := ⟨72, ztu, ztv, 1, g⟩
abbrev ztw : Ty := (.pair (.sl zW) .unit)
abbrev ztx : Ty := (.pair (.sl zW) .unit)
abbrev zGS : Type := ((List qb) × Unit) → Option ((List qb) × Unit)
abbrev zrd (g : Fnc ztw ztx) : Fun := ⟨73, ztw, ztx, 1, g⟩
abbrev zty : Ty := (.pair (.sl qA) .unit)
abbrev ztz : Ty := (.pair (.sl qA) .unit)
abbrev zGT : Type := ((List qy) × Unit) → Option ((List qy) × Unit)
abbrev zre (g : Fnc zty ztz) : Fun := ⟨74, zty, ztz, 1, g⟩
abbrev zrf : Ty := (.pair (.sl zB) .unit)
abbrev zrg : Ty := (.pair (.sl zB) .unit)
abbrev zrh : Type := ((List zn) × Unit) → Option ((List zn) × Unit)
abbrev zdX (g : Fnc zrf zrg) : Fun := ⟨75, zrf, zrg, 1, g⟩
abbrev zzG : Ty := (.pair (.sl (.arr 4 (.int .u64))) .unit)
abbrev zzH : Ty := (.pair (.sl (.arr 4 (.int .u64))) .unit)
abbrev zNd : Type := ((List (List Int)) × Unit) → Option ((List (List Int)) × Unit)
abbrev zwI (g : Fnc zzG zzH) : Fun := ⟨76, zzG, zzH, 1, g⟩
abbrev zwJ : Ty := (.pair (.sl z5) .unit)
abbrev zwK : Ty := (.pair (.sl z5) .unit)
abbrev zKy : Type := ((List jE) × Unit) → Option ((List jE) × Unit)
abbrev ztA (g : Fnc zwJ zwK) : Fun := ⟨77, zwJ, zwK, 1, g⟩
abbrev zj0 : Ty := (.pair (.sl zo) (.pair (.sl zo) (.pair (.fn (.pair zo (.pair zo .unit)) (.pair .bool .unit)) .unit)))
abbrev zef : Ty := (.pair .bool .unit)
abbrev ztB : Type := ((List zm) × ((List zm) × ((Option ((zm × (zm × Unit)) → Option (Bool × Unit))) × Unit))) → Option (Bool × Unit)
abbrev ziP (g : Fnc zj0 zef) : Fun := ⟨78, zj0, zef, 0, g⟩
abbrev zoY : Ty := (.pair zo (.pair zo .unit))
abbrev zoZ : Ty := (.pair .bool .unit)
abbrev zBJ : Type := (zm × (zm × Unit)) → Option (Bool × Unit)
abbrev zmZ (g : Fnc zoY zoZ) : Fun := ⟨79, zoY, zoZ, 0, g⟩
abbrev zlK : Ty := (.pair (.sl (.sl (.int .i64))) (.pair (.sl (.sl (.int .i64))) (.pair (.fn (.pair (.sl (.int .i64)) (.pair (.sl (.int .i64)) .unit)) (.pair .bool .unit)) .unit)))
abbrev zfH : Ty := (.pair .bool .unit)
abbrev zvI : Type := ((List (List Int)) × ((List (List Int)) × ((Option (((List Int) × ((List Int) × Unit)) → Option (Bool × Unit))) × Unit))) → Option (Bool × Unit)
abbrev zj1 (g : Fnc zlK zfH) : Fun := ⟨80, zlK, zfH, 0, g⟩
abbrev zwL : Ty := (.pair (.sl (.int .i64)) (.pair (.sl (.int .i64)) .unit))
abbrev zn8 : Ty := (.pair .bool .unit)
abbrev zKz : Type := ((List Int) × ((List Int) × Unit)) → Option (Bool × Unit)
abbrev ztC (g : Fnc zwL zn8) : Fun := ⟨81, zwL, zn8, 0, g⟩
abbrev zri : Ty := (.pair (.sl zw) (.pair (.sl zw) .unit))
abbrev zj2 : Ty := (.pair .bool .unit)
abbrev zDd : Type := ((List zj) × ((List zj) × Unit)) → Option (Bool × Unit)
abbrev zo0 (g : Fnc zri zj2) : Fun := ⟨82, zri, zj2, 0, g⟩
abbrev zrj : Ty := (.pair (.sl zC) (.pair (.sl zC) .unit))
abbrev zj3 : Ty := (.pair .bool .unit)
abbrev zDe : Type := ((List zH) × ((List zH) × Unit)) → Option (Bool × Unit)
abbrev zo1 (g : Fnc zrj zj3) : Fun := ⟨83, zrj, zj3, 0, g⟩
abbrev zwM : Ty := (.pair zD .unit)
abbrev zn9 : Ty := (.pair .bool .unit)
abbrev zKA : Type := (ze × Unit) → Option (Bool × Unit)
abbrev ztD (g : Fnc zwM zn9) : Fun := ⟨84, zwM, zn9, 0, g⟩
abbrev zzI : Ty := (.pair zD .unit)
abbrev zzJ : Ty := (.pair .bool .unit)
abbrev zNe : Type := (ze × Unit) → Option (Bool × Unit)
abbrev zwN (g : Fnc zzI zzJ) : Fun := ⟨85, zzI, zzJ, 0, g⟩
abbrev zrk : Ty := (.pair zD .unit)
abbrev zrl : Ty := (.pair .bool .unit)
abbrev zDf : Type := (ze × Unit) → Option (Bool × Unit)
abbrev zo2 (g : Fnc zrk zrl) : Fun := ⟨86, zrk, zrl, 0, g⟩
abbrev zwO : Ty := (.pair zD .unit)
abbrev zoa : Ty := (.pair .bool .unit)
abbrev zKB : Type := (ze × Unit) → Option (Bool × Unit)
abbrev ztE (g : Fnc zwO zoa) : Fun := ⟨87, zwO, zoa, 0, g⟩
abbrev zwP : Ty := (.pair zD .unit)
abbrev zob : Ty := (.pair .bool .unit)
abbrev zKC : Type := (ze × Unit) → Option (Bool × Unit)
abbrev ztF (g : Fnc zwP zob) : Fun := ⟨88, zwP, zob, 0, g⟩
abbrev zDg : Ty := (.pair zD .unit)
abbrev zDh : Ty := (.pair .bool .unit)
abbrev zPa : Type := (ze × Unit) → Option (Bool × Unit)
abbrev zzK (g : Fnc zDg zDh) : Fun := ⟨89, zDg, zDh, 0, g⟩
abbrev zIj : Ty := (.pair zD (.pair (.int .i64) .unit))
abbrev zIk : Ty := (.pair .bool .unit)
abbrev zlu : Type := (ze × (Int × Unit)) → Option (Bool × Unit)
abbrev yx (g : Fnc zIj zIk) : Fun := ⟨90, zIj, zIk, 0, g⟩
abbrev ztG : Ty := (.pair zD (.pair (.int .i64) .unit))
abbrev ztH : Ty := (.pair .bool .unit)
abbrev zGU : Type := (ze × (Int × Unit)) → Option (Bool × Unit)
abbrev zrm (g : Fnc ztG ztH) : Fun := ⟨91, ztG, ztH, 0, g⟩
abbrev zIl : Ty := (.pair zr (.pair zr .unit))
abbrev zIm : Ty := (.pair .bool .unit)
abbrev zRH : Type := (zu × (zu × Unit)) → Option (Bool × Unit)
abbrev zDi (g : Fnc zIl zIm) : Fun := ⟨92, zIl, zIm, 0, g⟩
abbrev zzL : Ty := (.pair zr .unit)
abbrev zzM : Ty := (.pair .bool .unit)
abbrev zNf : Type := (zu × Unit) → Option (Bool × Unit)
abbrev zwQ (g : Fnc zzL zzM) : Fun := ⟨93, zzL, zzM, 0, g⟩
abbrev zIn : Ty := (.pair zr (.pair zr .unit))
abbrev zIo : Ty := (.pair (.int .i64) .unit)
abbrev zRI : Type := (zu × (zu × Unit)) → Option (Int × Unit)
abbrev zDj (g : Fnc zIn zIo) : Fun := ⟨94, zIn, zIo, 0, g⟩
abbrev zzN : Ty := (.pair .str .unit)
abbrev zqy : Ty := (.pair .bool .unit)
abbrev zqz : Type := (ByteArray × Unit) → Option (Bool × Unit)
abbrev zcm (g : Fnc zzN zqy) : Fun := ⟨95, zzN, zqy, 0, g⟩
abbrev zzO : Ty := (.pair (.sl zr) (.pair zr .unit))
abbrev zqA : Ty := (.pair (.int .i64) .unit)
abbrev zNg : Type := ((List zu) × (zu × Unit)) → Option (Int × Unit)
abbrev zwR (g : Fnc zzO zqA) : Fun := ⟨96, zzO, zqA, 0, g⟩
abbrev zDk : Ty := (.pair (.int .i64) .unit)
abbrev zDl : Ty := (.pair zr .unit)
abbrev zPb : Type := (Int × Unit) → Option (zu × Unit)
abbrev zzP (g : Fnc zDk zDl) : Fun := ⟨97, zDk, zDl, 0, g⟩
abbrev zIp : Ty := (.pair zr (.pair (.int .i64) .unit))
abbrev zIq : Ty := (.pair .bool .unit)
abbrev zIr : Type := (zu × (Int × Unit)) → Option (Bool × Unit)
abbrev zm0 (g : Fnc zIp zIq) : Fun := ⟨98, zIp, zIq, 0, g⟩
abbrev zIs : Ty := (.pair (.sl y5) (.pair (.int .i64) .unit))
abbrev zyj : Ty := (.pair .bool .unit)
abbrev zRJ : Type := ((List qi) × (Int × Unit)) → Option (Bool × Unit)
abbrev zDm (g : Fnc zIs zyj) : Fun := ⟨99, zIs, zyj, 0, g⟩
abbrev zzQ : Ty := (.pair (.int .i64) .unit)
abbrev zzR : Ty := (.pair .bool .unit)
abbrev zNh : Type := (Int × Unit) → Option (Bool × Unit)
abbrev zwS (g : Fnc zzQ zzR) : Fun := ⟨100, zzQ, zzR, 0, g⟩
abbrev zzS : Ty := (.pair zD (.pair (.sl (.sl (.int .i64))) .unit))
abbrev zdJ : Ty := (.pair .bool .unit)
abbrev zNi : Type := (ze × ((List (List Int)) × Unit)) → Option (Bool × Unit)
abbrev zwT (g : Fnc zzS zdJ) : Fun := ⟨106, zzS, zdJ, 0, g⟩
abbrev zzT : Ty := (.pair (.sl zw) .unit)
abbrev zqB : Ty := (.pair .bool .unit)
abbrev zNj : Type := ((List zj) × Unit) → Option (Bool × Unit)
abbrev zwU (g : Fnc zzT zqB) : Fun := ⟨107, zzT, zqB, 0, g⟩
abbrev zzU : Ty := (.pair (.sl zC) .unit)
abbrev zqC : Ty := (.pair .bool .unit)
abbrev zNk : Type := ((List zH) × Unit) → Option (Bool × Unit)
abbrev zwV (g : Fnc zzU zqC) : Fun := ⟨108, zzU, zqC, 0, g⟩
abbrev zzV : Ty := (.pair (.sl jz) .unit)
abbrev zqD : Ty := (.pair .bool .unit)
abbrev zNl : Type := ((List jK) × Unit) → Option (Bool × Unit)
abbrev zwW (g : Fnc zzV zqD) : Fun := ⟨109, zzV, zqD, 0, g⟩
abbrev zzW : Ty := (.pair (.sl qt) .unit)
abbrev zdK : Ty := (.pair .bool .unit)
abbrev zNm : Type := ((List qd) × Unit) → Option (Bool × Unit)
abbrev zwX (g : Fnc zzW zdK) : Fun := ⟨110, zzW, zdK, 0, g⟩
abbrev zzX : Ty := (.pair (.sl zW) .unit)
abbrev zqE : Ty := (.pair .bool .unit)
abbrev zNn : Type := ((List qb) × Unit) → Option (Bool × Unit)
abbrev zwY (g : Fnc zzX zqE) : Fun := ⟨111, zzX, zqE, 0, g⟩
abbrev zzY : Ty := (.pair (.sl qA) .unit)
abbrev zqF : Ty := (.pair .bool .unit)
abbrev zNo : Type := ((List qy) × Unit) → Option (Bool × Unit)
abbrev zwZ (g : Fnc zzY zqF) : Fun := ⟨112, zzY, zqF, 0, g⟩
abbrev zzZ : Ty := (.pair (.sl zB) .unit)
abbrev zqG : Ty := (.pair .bool .unit)
abbrev zNp : Type := ((List zn) × Unit) → Option (Bool × Unit)
abbrev zw0 (g : Fnc zzZ zqG) : Fun := ⟨113, zzZ, zqG, 0, g⟩
abbrev zz0 : Ty := (.pair zD (.pair zX (.pair z5 (.pair (.int .i64) .unit))))
abbrev zz1 : Ty := (.pair .bool .unit)
abbrev zz2 : Type := (ze × (zf × (jE × (Int × Unit)))) → Option (Bool × Unit)
abbrev ziQ (g : Fnc zz0 zz1) : Fun := ⟨114, zz0, zz1, 0, g⟩
abbrev zDn : Ty := (.pair zD (.pair zX (.pair (.int .i64) (.pair (.int .i64) .unit))))
abbrev zDo : Ty := (.pair .bool .unit)
abbrev zPc : Type := (ze × (zf × (Int × (Int × Unit)))) → Option (Bool × Unit)
abbrev zz3 (g : Fnc zDn zDo) : Fun := ⟨115, zDn, zDo, 0, g⟩
abbrev zDp : Ty := (.pair zD (.pair zo (.pair (.int .i64) .unit)))
abbrev zDq : Ty := (.pair .bool .unit)
abbrev zPd : Type := (ze × (zm × (Int × Unit))) → Option (Bool × Unit)
abbrev zz4 (g : Fnc zDp zDq) : Fun := ⟨116, zDp, zDq, 0, g⟩
abbrev zIt : Ty := (.pair zD (.pair (.int .i64) (.pair (.int .i64) .unit)))
abbrev zIu : Ty := (.pair .bool .unit)
abbrev zIv : Type := (ze × (Int × (Int × Unit))) → Option (Bool × Unit)
abbrev zm1 (g : Fnc zIt zIu) : Fun := ⟨117, zIt, zIu, 0, g⟩
abbrev zDr : Ty := (.pair (.sl zw) .unit)
abbrev zDs : Ty := (.pair (.sl (.int .i64)) .unit)
abbrev zPe : Type := ((List zj) × Unit) → Option ((List Int) × Unit)
abbrev zz5 (g : Fnc zDr zDs) : Fun := ⟨118, zDr, zDs, 0, g⟩
abbrev zz6 : Ty := (.pair zw .unit)
abbrev zz7 : Ty := (.pair (.int .i64) .unit)
abbrev zNq : Type := (zj × Unit) → Option (Int × Unit)
abbrev zw1 (g : Fnc zz6 zz7) : Fun := ⟨119, zz6, zz7, 0, g⟩
abbrev zIw : Ty := (.pair (.sl zB) .unit)
abbrev zIx : Ty := (.pair (.ptr zbu) .unit)
abbrev zRK : Type := ((List zn) × Unit) → Option ((Option zaF) × Unit)
abbrev zDt (g : Fnc zIw zIx) : Fun := ⟨120, zIw, zIx, 0, g⟩
abbrev zo3 : Ty := (.pair (.ptr zbu) .unit)
abbrev ziz : Ty := (.pair (.sl (.int .i64)) .unit)
abbrev zo4 : Type := ((Option zaF) × Unit) → Option ((List Int) × Unit)
abbrev zc2 (g : Fnc zo3 ziz) : Fun := ⟨121, zo3, ziz, 0, g⟩
abbrev zIy : Ty := (.pair (.int .u64) (.pair (.int .u64) .unit))
abbrev zIz : Ty := (.pair (.int .u64) (.pair (.int .i64) .unit))
abbrev zRL : Type := (Int × (Int × Unit)) → Option (Int × (Int × Unit))
abbrev zDu (g : Fnc zIy zIz) : Fun := ⟨122, zIy, zIz, 0, g⟩
abbrev zz8 : Ty := (.pair zw (.pair (.int .i64) .unit))
abbrev zz9 : Ty := (.pair (.int .u64) .unit)
abbrev zNr : Type := (zj × (Int × Unit)) → Option (Int × Unit)
abbrev zw2 (g : Fnc zz8 zz9) : Fun := ⟨123, zz8, zz9, 0, g⟩
abbrev zo5 : Ty := (.pair (.sl zo) (.pair (.fn (.pair zo .unit) (.pair .bool .unit)) .unit))
abbrev zo6 : Ty := (.pair .bool .unit)
abbrev zBK : Type := ((List zm) × ((Option ((zm × Unit) → Option (Bool × Unit))) × Unit)) → Option (Bool × Unit)
abbrev zm2 (g : Fnc zo5 zo6) : Fun := ⟨125, zo5, zo6, 0, g⟩
abbrev ztI : Ty := (.pair zo .unit)
abbrev ztJ : Ty := (.pair .bool .unit)
abbrev zGV : Type := (zm × Unit) → Option (Bool × Unit)
abbrev zrn (g : Fnc ztI ztJ) : Fun := ⟨126, ztI, ztJ, 0, g⟩
abbrev zDv : Ty := (.pair (.sl jz) .unit)
abbrev zDw : Ty := (.pair .bool .unit)
abbrev zPf : Type := ((List jK) × Unit) → Option (Bool × Unit)
abbrev zAa (g : Fnc zDv zDw) : Fun := ⟨127, zDv, zDw, 0, g⟩
abbrev zDx : Ty := (.pair (.sl qt) .unit)
abbrev ztK : Ty := (.pair .bool .unit)
abbrev zPg : Type := ((List qd) × Unit) → Option (Bool × Unit)
abbrev zAb (g : Fnc zDx ztK) : Fun := ⟨128, zDx, ztK, 0, g⟩
abbrev zAc : Ty := (.pair (.sl zW) .unit)
abbrev zAd : Ty := (.pair .bool .unit)
abbrev zNs : Type := ((List qb) × Unit) → Option (Bool × Unit)
abbrev zw3 (g : Fnc zAc zAd) : Fun := ⟨129, zAc, zAd, 0, g⟩
abbrev zDy : Ty := (.pair (.sl qA) .unit)
abbrev zDz : Ty := (.pair .bool .unit)
abbrev zPh : Type := ((List qy) × Unit) → Option (Bool × Unit)
abbrev zAe (g : Fnc zDy zDz) : Fun := ⟨130, zDy, zDz, 0, g⟩
abbrev zAf : Ty := (.pair (.sl zB) .unit)
abbrev zAg : Ty := (.pair .bool .unit)
abbrev zNt : Type := ((List zn) × Unit) → Option (Bool × Unit)
abbrev zw4 (g : Fnc zAf zAg) : Fun := ⟨131, zAf, zAg, 0, g⟩
abbrev zDA : Ty := (.pair zD (.pair (.sl (.sl (.int .i64))) .unit))
abbrev ztL : Ty := (.pair .bool .unit)
abbrev zDB : Type := (ze × ((List (List Int)) × Unit)) → Option (Bool × Unit)
abbrev zkY (g : Fnc zDA ztL) : Fun := ⟨132, zDA, ztL, 0, g⟩
abbrev zDC : Ty := (.pair (.sl zw) .unit)
abbrev ztM : Ty := (.pair .bool .unit)
abbrev zPi : Type := ((List zj) × Unit) → Option (Bool × Unit)
abbrev zAh (g : Fnc zDC ztM) : Fun := ⟨133, zDC, ztM, 0, g⟩
abbrev zAi : Ty := (.pair (.sl zC) .unit)
abbrev zqH : Ty := (.pair .bool .unit)
abbrev zNu : Type := ((List zH) × Unit) → Option (Bool × Unit)
abbrev zw5 (g : Fnc zAi zqH) : Fun := ⟨134, zAi, zqH, 0, g⟩
abbrev zo7 : Ty := (.pair (.sl zw) (.pair (.fn (.pair zw .unit) (.pair .bool .unit)) .unit))
abbrev zo8 : Ty := (.pair .bool .unit)
abbrev zBL : Type := ((List zj) × ((Option ((zj × Unit) → Option (Bool × Unit))) × Unit)) → Option (Bool × Unit)
abbrev zm3 (g : Fnc zo7 zo8) : Fun := ⟨135, zo7, zo8, 0, g⟩
abbrev zro : Ty := (.pair zw (.pair (.ptr qX) .unit))
abbrev zrp : Ty := (.pair .bool .unit)
abbrev zDD : Type := (zj × ((Option qM) × Unit)) → Option (Bool × Unit)
abbrev zo9 (g : Fnc zro zrp) : Fun := ⟨136, zro, zrp, 0, g⟩
abbrev zAj : Ty := (.pair qX (.pair (.int .i64) .unit))
abbrev zAk : Ty := (.pair .bool .unit)
abbrev zAl : Type := (qM × (Int × Unit)) → Option (Bool × Unit)
abbrev ziR (g : Fnc zAj zAk) : Fun := ⟨137, zAj, zAk, 0, g⟩
abbrev ztN : Ty := (.pair qX (.pair (.int .i64) .unit))
abbrev ztO : Ty := (.pair .bool .unit)
abbrev zbw : Type := (qM × (Int × Unit)) → Option (Bool × Unit)
abbrev jt (g : Fnc ztN ztO) : Fun := ⟨138, ztN, ztO, 0, g⟩
abbrev zpa : Ty := (.pair (.sl zC) (.pair (.fn (.pair zC .unit) (.pair .bool .unit)) .unit))
abbrev zpb : Ty := (.pair .bool .unit)
abbrev zBM : Type := ((List zH) × ((Option ((zH × Unit) → Option (Bool × Unit))) × Unit)) → Option (Bool × Unit)
abbrev zm4 (g : Fnc zpa zpb) : Fun := ⟨139, zpa, zpb, 0, g⟩
abbrev zrq : Ty := (.pair zC (.pair (.ptr qX) .unit))
abbrev zrr : Ty := (.pair .bool .unit)
abbrev zDE : Type := (zH × ((Option qM) × Unit)) → Option (Bool × Unit)
abbrev zpc (g : Fnc zrq zrr) : Fun := ⟨140, zrq, zrr, 0, g⟩
abbrev ztP : Ty := (.pair (.sl (.int .i64)) (.pair (.fn (.pair (.int .i64) .unit) (.pair .bool .unit)) .unit))
abbrev ztQ : Ty := (.pair .bool .unit)
abbrev zGW : Type := ((List Int) × ((Option ((Int × Unit) → Option (Bool × Unit))) × Unit)) → Option (Bool × Unit)
abbrev zrs (g : Fnc ztP ztQ) : Fun := ⟨141, ztP, ztQ, 0, g⟩
abbrev zrt : Ty := (.pair (.int .i64) (.pair (.ptr qX) .unit))
abbrev zru : Ty := (.pair .bool .unit)
abbrev zDF : Type := (Int × ((Option qM) × Unit)) → Option (Bool × Unit)
abbrev zpd (g : Fnc zrt zru) : Fun := ⟨142, zrt, zru, 0, g⟩
abbrev zAm : Ty := (.pair qX (.pair (.int .i64) .unit))
abbrev zAn : Ty := (.pair (.fn (.pair z5 .unit) (.pair .bool .unit)) .unit)
abbrev zNv : Type := (qM × (Int × Unit)) → Option ((Option ((jE × Unit) → Option (Bool × Unit))) × Unit)
abbrev zw6 (g : Fnc zAm zAn) : Fun := ⟨143, zAm, zAn, 0, g⟩
abbrev zrv : Ty := (.pair (.sl qt) (.pair (.fn (.pair qt .unit) (.pair .bool .unit)) .unit))
abbrev zrw : Ty := (.pair .bool .unit)
abbrev zDG : Type := ((List qd) × ((Option ((qd × Unit) → Option (Bool × Unit))) × Unit)) → Option (Bool × Unit)
abbrev zpe (g : Fnc zrv zrw) : Fun := ⟨144, zrv, zrw, 0, g⟩
abbrev ztR : Ty := (.pair qt (.pair (.ptr (.fn (.pair z5 .unit) (.pair .bool .unit))) .unit))
abbrev ztS : Ty := (.pair .bool .unit)
abbrev zGX : Type := (qd × ((Option (Option ((jE × Unit) → Option (Bool × Unit)))) × Unit)) → Option (Bool × Unit)
abbrev zrx (g : Fnc ztR ztS) : Fun := ⟨145, ztR, ztS, 0, g⟩
abbrev zry : Ty := (.pair (.sl zW) (.pair (.fn (.pair zW .unit) (.pair .bool .unit)) .unit))
abbrev zrz : Ty := (.pair .bool .unit)
abbrev zrA : Type := ((List qb) × ((Option ((qb × Unit) → Option (Bool × Unit))) × Unit)) → Option (Bool × Unit)
abbrev zdY (g : Fnc zry zrz) : Fun := ⟨146, zry, zrz, 0, g⟩
abbrev ztT : Ty := (.pair zW (.pair (.ptr (.fn (.pair z5 .unit) (.pair .bool .unit))) .unit))
abbrev ztU : Ty := (.pair .bool .unit)
abbrev zGY : Type := (qb × ((Option (Option ((jE × Unit) → Option (Bool × Unit)))) × Unit)) → Option (Bool × Unit)
abbrev zrB (g : Fnc ztT ztU) : Fun := ⟨147, ztT, ztU, 0, g⟩
abbrev ztV : Ty := (.pair (.sl z5) (.pair (.fn (.pair z5 .unit) (.pair .bool .unit)) .unit))
abbrev ztW : Ty := (.pair .bool .unit)
abbrev zGZ : Type := ((List jE) × ((Option ((jE × Unit) → Option (Bool × Unit))) × Unit)) → Option (Bool × Unit)
abbrev zrC (g : Fnc ztV ztW) : Fun := ⟨148, ztV, ztW, 0, g⟩
abbrev zrD : Ty := (.pair zW (.pair (.ptr qX) .unit))
abbrev zrE : Ty := (.pair .bool .unit)
abbrev zDH : Type := (qb × ((Option qM) × Unit)) → Option (Bool × Unit)
abbrev zpf (g : Fnc zrD zrE) : Fun := ⟨149, zrD, zrE, 0, g⟩
abbrev zrF : Ty := (.pair (.sl qA) (.pair (.fn (.pair qA .unit) (.pair .bool .unit)) .unit))
abbrev zrG : Ty := (.pair .bool .unit)
abbrev zDI : Type := ((List qy) × ((Option ((qy × Unit) → Option (Bool × Unit))) × Unit)) → Option (Bool × Unit)
abbrev zpg (g : Fnc zrF zrG) : Fun := ⟨150, zrF, zrG, 0, g⟩
abbrev zrH : Ty := (.pair qA (.pair (.ptr qX) (.pair (.ptr (.int .i64)) .unit)))
abbrev zrI : Ty := (.pair .bool .unit)
abbrev zDJ : Type := (qy × ((Option qM) × ((Option Int) × Unit))) → Option (Bool × Unit)
abbrev zph (g : Fnc zrH zrI) : Fun := ⟨151, zrH, zrI, 0, g⟩
abbrev zIA : Ty := (.pair qX (.pair (.int .i64) (.pair (.int .i64) .unit)))
abbrev zIB : Ty := (.pair .bool .unit)
abbrev zIC : Type := (qM × (Int × (Int × Unit))) → Option (Bool × Unit)
abbrev zm5 (g : Fnc zIA zIB) : Fun := ⟨152, zIA, zIB, 0, g⟩
abbrev zpi : Ty := (.pair (.sl zB) (.pair (.fn (.pair zB .unit) (.pair .bool .unit)) .unit))
abbrev zpj : Ty := (.pair .bool .unit)
abbrev zBN : Type := ((List zn) × ((Option ((zn × Unit) → Option (Bool × Unit))) × Unit)) → Option (Bool × Unit)
abbrev zm6 (g : Fnc zpi zpj) : Fun := ⟨153, zpi, zpj, 0, g⟩
abbrev zrJ : Ty := (.pair zB (.pair (.ptr qX) .unit))
abbrev zrK : Ty := (.pair .bool .unit)
abbrev zDK : Type := (zn × ((Option qM) × Unit)) → Option (Bool × Unit)
abbrev zpk (g : Fnc zrJ zrK) : Fun := ⟨154, zrJ, zrK, 0, g⟩
abbrev zrL : Ty := (.pair (.sl zB) (.pair (.fn (.pair zB .unit) (.pair .bool .unit)) .unit))
abbrev zrM : Ty := (.pair (.ptr zbu) .unit)
abbrev zrN : Type := ((List zn) × ((Option ((zn × Unit) → Option (Bool × Unit))) × Unit)) → Option ((Option zaF) × Unit)
abbrev zdZ (g : Fnc zrL zrM) : Fun := ⟨155, zrL, zrM, 0, g⟩
abbrev ztX : Ty := (.pair zB .unit)
abbrev ztY : Ty := (.pair .bool .unit)
abbrev zG0 : Type := (zn × Unit) → Option (Bool × Unit)
abbrev zrO (g : Fnc ztX ztY) : Fun := ⟨156, ztX, ztY, 0, g⟩
abbrev ztZ : Ty := (.pair (.ptr zbu) (.pair (.int .i64) .unit))
abbrev zt0 : Ty := (.pair .bool .unit)
abbrev zt1 : Type := ((Option zaF) × (Int × Unit)) → Option (Bool × Unit)
abbrev zeU (g : Fnc ztZ zt0) : Fun := ⟨157, ztZ, zt0, 0, g⟩
abbrev zPj : Ty := (.pair (.int .i64) (.pair (.int .i64) .unit))
abbrev zPk : Ty := (.pair .bool .unit)
abbrev zYZ : Type := (Int × (Int × Unit)) → Option (Bool × Unit)
abbrev zL1 (g : Fnc zPj zPk) : Fun := ⟨158, zPj, zPk, 0, g⟩
abbrev zrP : Ty := (.pair (.int .i64) (.pair (.ptr (.sl (.sl (.int .i64)))) (.pair (.ptr (.int .i64)) .unit)))
abbrev zrQ : Ty := (.pair .bool .unit)
abbrev zDL : Type := (Int × ((Option (List (List Int))) × ((Option Int) × Unit))) → Option (Bool × Unit)
abbrev zpl (g : Fnc zrP zrQ) : Fun := ⟨159, zrP, zrQ, 0, g⟩
abbrev ziS : Ty := (.pair (.sl (.int .i64)) (.pair (.fn (.pair (.int .i64) .unit) (.pair .bool .unit)) .unit))
abbrev ziT : Ty := (.pair .bool .unit)
abbrev yr : Type := ((List Int) × ((Option ((Int × Unit) → Option (Bool × Unit))) × Unit)) → Option (Bool × Unit)
abbrev qF (g : Fnc ziS ziT) : Fun := ⟨160, ziS, ziT, 0, g⟩
abbrev zw7 : Ty := (.pair zD (.pair (.int .i64) .unit))
abbrev zoc : Ty := (.pair (.sl (.int .i64)) .unit)
abbrev zKD : Type := (ze × (Int × Unit)) → Option ((List Int) × Unit)
abbrev zt2 (g : Fnc zw7 zoc) : Fun := ⟨161, zw7, zoc, 0, g⟩
abbrev zt3 : Ty := (.pair (.sl jz) (.pair (.sl jz) .unit))
abbrev zms : Ty := (.pair .bool .unit)
abbrev zG1 : Type := ((List jK) × ((List jK) × Unit)) → Option (Bool × Unit)
abbrev zrR (g : Fnc zt3 zms) : Fun := ⟨162, zt3, zms, 0, g⟩
abbrev zt4 : Ty := (.pair (.sl qt) (.pair (.sl qt) .unit))
abbrev zmt : Ty := (.pair .bool .unit)
abbrev zG2 : Type := ((List qd) × ((List qd) × Unit)) → Option (Bool × Unit)
abbrev zrS (g : Fnc zt4 zmt) : Fun := ⟨163, zt4, zmt, 0, g⟩
abbrev zt5 : Ty := (.pair (.sl zW) (.pair (.sl zW) .unit))
abbrev zmu : Ty := (.pair .bool .unit)
abbrev zG3 : Type := ((List qb) × ((List qb) × Unit)) → Option (Bool × Unit)
abbrev zrT (g : Fnc zt5 zmu) : Fun := ⟨164, zt5, zmu, 0, g⟩
abbrev zt6 : Ty := (.pair (.sl qA) (.pair (.sl qA) .unit))
abbrev zmv : Ty := (.pair .bool .unit)
abbrev zG4 : Type := ((List qy) × ((List qy) × Unit)) → Option (Bool × Unit)
abbrev zrU (g : Fnc zt6 zmv) : Fun := ⟨165, zt6, zmv, 0, g⟩
abbrev zrV : Ty := (.pair (.sl zB) (.pair (.sl zB) .unit))
abbrev zj4 : Ty := (.pair .bool .unit)
abbrev zDM : Type := ((List zn) × ((List zn) × Unit)) → Option (Bool × Unit)
abbrev zpm (g : Fnc zrV zj4) : Fun := ⟨166, zrV, zj4, 0, g⟩
abbrev zAo : Ty := (.pair (.sl (.arr 4 (.int .u64))) (.pair (.sl (.arr 4 (.int .u64))) .unit))
abbrev zqI : Ty := (.pair .bool .unit)
abbrev zNw : Type := ((List (List Int)) × ((List (List Int)) × Unit)) → Option (Bool × Unit)
abbrev zw8 (g : Fnc zAo zqI) : Fun := ⟨167, zAo, zqI, 0, g⟩
abbrev zw9 : Ty := (.pair (.sl z5) (.pair (.sl z5) .unit))
abbrev zod : Ty := (.pair .bool .unit)
abbrev zKE : Type := ((List jE) × ((List jE) × Unit)) → Option (Bool × Unit)
abbrev zt7 (g : Fnc zw9 zod) : Fun := ⟨168, zw9, zod, 0, g⟩
abbrev zrW : Ty := (.pair zr .unit)
abbrev zrX : Ty := (.pair .bool .unit)
abbrev zDN : Type := (zu × Unit) → Option (Bool × Unit)
abbrev zpn (g : Fnc zrW zrX) : Fun := ⟨169, zrW, zrX, 0, g⟩
abbrev zAp : Ty := (.pair zr .unit)
abbrev zAq : Ty := (.pair .bool .unit)
abbrev zNx : Type := (zu × Unit) → Option (Bool × Unit)
abbrev zxa (g : Fnc zAp zAq) : Fun := ⟨170, zAp, zAq, 0, g⟩
abbrev zxb : Ty := (.pair (.int .i64) (.pair (.int .i64) (.pair (.int .i64) .unit)))
abbrev zxc : Ty := (.pair .bool .unit)
abbrev yd : Type := (Int × (Int × (Int × Unit))) → Option (Bool × Unit)
abbrev qo (g : Fnc zxb zxc) : Fun := ⟨171, zxb, zxc, 0, g⟩
abbrev zfO : Ty := (.pair (.sl zr) (.pair (.fn (.pair zr .unit) (.pair .bool .unit)) .unit))
abbrev zfP : Ty := (.pair .bool .unit)
abbrev zfQ : Type := ((List zu) × ((Option ((zu × Unit) → Option (Bool × Unit))) × Unit)) → Option (Bool × Unit)
abbrev yy (g : Fnc zfO zfP) : Fun := ⟨172, zfO, zfP, 0, g⟩
abbrev zID : Ty := (.pair zr (.pair zr .unit))
abbrev zIE : Ty := (.pair (.int .i64) .unit)
abbrev zRM : Type := (zu × (zu × Unit)) → Option (Int × Unit)
abbrev zDO (g : Fnc zID zIE) : Fun := ⟨173, zID, zIE, 0, g⟩
abbrev zt8 : Ty := (.pair (.int .i64) (.pair (.ptr zD) .unit))
abbrev zt9 : Ty := (.pair .bool .unit)
abbrev zG5 : Type := (Int × ((Option ze) × Unit)) → Option (Bool × Unit)
abbrev zrY (g : Fnc zt8 zt9) : Fun := ⟨174, zt8, zt9, 0, g⟩
abbrev zm7 : Ty := (.pair jL .unit)
abbrev zm8 : Ty := (.pair .bool .unit)
abbrev zyA : Type := (qW × Unit) → Option (Bool × Unit)
abbrev zlL (g : Fnc zm7 zm8) : Fun := ⟨175, zm7, zm8, 0, g⟩
abbrev zDP : Ty := (.pair .str .unit)
abbrev zDQ : Ty := (.pair .bool .unit)
abbrev zua : Type := (ByteArray × Unit) → Option (Bool × Unit)
abbrev zdL (g : Fnc zDP zDQ) : Fun := ⟨176, zDP, zDQ, 0, g⟩
abbrev zeg : Ty := (.pair (.sl jL) (.pair (.fn (.pair jL .unit) (.pair .bool .unit)) .unit))
abbrev zeh : Ty := (.pair .bool .unit)
abbrev zmw : Type := ((List qW) × ((Option ((qW × Unit) → Option (Bool × Unit))) × Unit)) → Option (Bool × Unit)
abbrev zdM (g : Fnc zeg zeh) : Fun := ⟨177, zeg, zeh, 0, g⟩
abbrev zDR : Ty := (.pair (.sl .str) .unit)
abbrev zub : Ty := (.pair .bool .unit)
abbrev zPl : Type := ((List ByteArray) × Unit) → Option (Bool × Unit)
abbrev zAr (g : Fnc zDR zub) : Fun := ⟨178, zDR, zub, 0, g⟩
abbrev zpo : Ty := (.pair zD .unit)
abbrev ziA : Ty := (.pair (.sl .str) .unit)
abbrev zBO : Type := (ze × Unit) → Option ((List ByteArray) × Unit)
abbrev zm9 (g : Fnc zpo ziA) : Fun := ⟨179, zpo, ziA, 0, g⟩
abbrev zDS : Ty := (.pair (.int .i64) .unit)
abbrev zDT : Ty := (.pair zr (.pair (.int .i64) .unit))
abbrev zPm : Type := (Int × Unit) → Option (zu × (Int × Unit))
abbrev zAs (g : Fnc zDS zDT) : Fun := ⟨180, zDS, zDT, 0, g⟩
abbrev zlM : Ty := (.pair (.sl zr) (.pair zr .unit))
abbrev zlN : Ty := (.pair .bool .unit)
abbrev zvJ : Type := ((List zu) × (zu × Unit)) → Option (Bool × Unit)
abbrev zj5 (g : Fnc zlM zlN) : Fun := ⟨181, zlM, zlN, 0, g⟩
abbrev zrZ : Ty := (.pair zr (.pair (.ptr (.int .u64)) .unit))
abbrev zr0 : Ty := (.pair .bool .unit)
abbrev zDU : Type := (zu × ((Option Int) × Unit)) → Option (Bool × Unit)
abbrev zpp (g : Fnc zrZ zr0) : Fun := ⟨182, zrZ, zr0, 0, g⟩
abbrev zr1 : Ty := (.pair (.int .i64) .unit)
abbrev zr2 : Ty := (.pair .bool .unit)
abbrev zDV : Type := (Int × Unit) → Option (Bool × Unit)
abbrev zpq (g : Fnc zr1 zr2) : Fun := ⟨183, zr1, zr2, 0, g⟩
abbrev zuc : Ty := (.pair zgH .unit)
abbrev zud : Ty := (.pair (.sl (.int .i64)) .unit)
abbrev zG6 : Type := (zc0 × Unit) → Option ((List Int) × Unit)
abbrev zr3 (g : Fnc zuc zud) : Fun := ⟨184, zuc, zud, 0, g⟩
abbrev zIF : Ty := (.pair zw .unit)
abbrev zIG : Ty := (.pair .bool .unit)
abbrev zRN : Type := (zj × Unit) → Option (Bool × Unit)
abbrev zDW (g : Fnc zIF zIG) : Fun := ⟨185, zIF, zIG, 0, g⟩
abbrev zIH : Ty := (.pair (.sl zw) (.pair (.int .i64) (.pair (.int .i64) .unit)))
abbrev zyk : Ty := (.pair .bool .unit)
abbrev zRO : Type := ((List zj) × (Int × (Int × Unit))) → Option (Bool × Unit)
abbrev zDX (g : Fnc zIH zyk) : Fun := ⟨186, zIH, zyk, 0, g⟩
abbrev zII : Ty := (.pair zC .unit)
abbrev zIJ : Ty := (.pair .bool .unit)
abbrev zRP : Type := (zH × Unit) → Option (Bool × Unit)
abbrev zDY (g : Fnc zII zIJ) : Fun := ⟨187, zII, zIJ, 0, g⟩
abbrev zxd : Ty := (.pair zC (.pair zC .unit))
abbrev zxe : Ty := (.pair .bool .unit)
abbrev zKF : Type := (zH × (zH × Unit)) → Option (Bool × Unit)
abbrev zue (g : Fnc zxd zxe) : Fun := ⟨188, zxd, zxe, 0, g⟩
abbrev zAt : Ty := (.pair z5 .unit)
abbrev zAu : Ty := (.pair .bool .unit)
abbrev zAv : Type := (jE × Unit) → Option (Bool × Unit)
abbrev ziU (g : Fnc zAt zAu) : Fun := ⟨189, zAt, zAu, 0, g⟩
abbrev zIK : Ty := (.pair (.int .i64) .unit)
abbrev zIL : Ty := (.pair .bool .unit)
abbrev zRQ : Type := (Int × Unit) → Option (Bool × Unit)
abbrev zDZ (g : Fnc zIK zIL) : Fun := ⟨190, zIK, zIL, 0, g⟩
abbrev zIM : Ty := (.pair (.int .i64) .unit)
abbrev zIN : Ty := (.pair .bool .unit)
abbrev zRR : Type := (Int × Unit) → Option (Bool × Unit)
abbrev zD0 (g : Fnc zIM zIN) : Fun := ⟨191, zIM, zIN, 0, g⟩
abbrev zD1 : Ty := (.pair .str .unit)
abbrev zuf : Ty := (.pair .bool .unit)
abbrev zPn : Type := (ByteArray × Unit) → Option (Bool × Unit)
abbrev zAw (g : Fnc zD1 zuf) : Fun := ⟨192, zD1, zuf, 0, g⟩
abbrev zD2 : Ty := (.pair zB .unit)
abbrev zD3 : Ty := (.pair .bool .unit)
abbrev zPo : Type := (zn × Unit) → Option (Bool × Unit)
abbrev zAx (g : Fnc zD2 zD3) : Fun := ⟨193, zD2, zD3, 0, g⟩
abbrev zIO : Ty := (.pair zr (.pair zr .unit))
abbrev zyl : Ty := (.pair .bool .unit)
abbrev zRS : Type := (zu × (zu × Unit)) → Option (Bool × Unit)
abbrev zD4 (g : Fnc zIO zyl) : Fun := ⟨194, zIO, zyl, 0, g⟩
abbrev zL2 : Ty := (.pair (.sl zw) .unit)
abbrev zL3 : Ty := (.pair (.ptr zcL) .unit)
abbrev zUE : Type := ((List zj) × Unit) → Option ((Option zbv) × Unit)
abbrev zIP (g : Fnc zL2 zL3) : Fun := ⟨195, zL2, zL3, 0, g⟩
abbrev zpr : Ty := (.pair (.ptr zcL) .unit)
abbrev ziB : Ty := (.pair (.sl (.int .i64)) .unit)
abbrev zBP : Type := ((Option zbv) × Unit) → Option ((List Int) × Unit)
abbrev zna (g : Fnc zpr ziB) : Fun := ⟨196, zpr, ziB, 0, g⟩
abbrev zAy : Ty := (.pair zB .unit)
abbrev zAz : Ty := (.pair .bool .unit)
abbrev zNy : Type := (zn × Unit) → Option (Bool × Unit)
abbrev zxf (g : Fnc zAy zAz) : Fun := ⟨197, zAy, zAz, 0, g⟩
abbrev zr4 : Ty := (.pair (.ptr zbu) .unit)
abbrev zr5 : Ty := (.pair .bool .unit)
abbrev zr6 : Type := ((Option zaF) × Unit) → Option (Bool × Unit)
abbrev zd0 (g : Fnc zr4 zr5) : Fun := ⟨198, zr4, zr5, 0, g⟩
abbrev zfR : Ty := (.pair (.sl zo) (.pair (.fn (.pair zo .unit) (.pair .bool .unit)) .unit))
abbrev zfS : Ty := (.pair .bool .unit)
abbrev zoI : Type := ((List zm) × ((Option ((zm × Unit) → Option (Bool × Unit))) × Unit)) → Option (Bool × Unit)
abbrev zeV (g : Fnc zfR zfS) : Fun := ⟨200, zfR, zfS, 0, g⟩
abbrev zlO : Ty := (.pair zo (.pair (.ptr (.fn (.pair zo .unit) (.pair .bool .unit))) .unit))
abbrev zlP : Ty := (.pair .bool .unit)
abbrev zvK : Type := (zm × ((Option (Option ((zm × Unit) → Option (Bool × Unit)))) × Unit)) → Option (Bool × Unit)
abbrev zj6 (g : Fnc zlO zlP) : Fun := ⟨201, zlO, zlP, 0, g⟩
abbrev zhR : Ty := (.pair (.sl jz) (.pair (.fn (.pair jz .unit) (.pair .bool .unit)) .unit))
abbrev zhS : Ty := (.pair .bool .unit)
abbrev zpW : Type := ((List jK) × ((Option ((jK × Unit) → Option (Bool × Unit))) × Unit)) → Option (Bool × Unit)
abbrev zfT (g : Fnc zhR zhS) : Fun := ⟨202, zhR, zhS, 0, g⟩
abbrev zxg : Ty := (.pair jz .unit)
abbrev zxh : Ty := (.pair .bool .unit)
abbrev zKG : Type := (jK × Unit) → Option (Bool × Unit)
abbrev zug (g : Fnc zxg zxh) : Fun := ⟨203, zxg, zxh, 0, g⟩
abbrev zD5 : Ty := (.pair qt .unit)
abbrev zD6 : Ty := (.pair .bool .unit)
abbrev zPp : Type := (qd × Unit) → Option (Bool × Unit)
abbrev zAA (g : Fnc zD5 zD6) : Fun := ⟨204, zD5, zD6, 0, g⟩
abbrev zD7 : Ty := (.pair (.sl qt) (.pair z5 (.pair (.int .i64) .unit)))
abbrev zD8 : Ty := (.pair (.int .i64) .unit)
abbrev zPq : Type := ((List qd) × (jE × (Int × Unit))) → Option (Int × Unit)
abbrev zAB (g : Fnc zD7 zD8) : Fun := ⟨205, zD7, zD8, 0, g⟩
abbrev zhT : Ty := (.pair (.sl zW) (.pair (.fn (.pair zW .unit) (.pair .bool .unit)) .unit))
abbrev zhU : Ty := (.pair .bool .unit)
abbrev zhV : Type := ((List qb) × ((Option ((qb × Unit) → Option (Bool × Unit))) × Unit)) → Option (Bool × Unit)
abbrev y6 (g : Fnc zhT zhU) : Fun := ⟨206, zhT, zhU, 0, g⟩
abbrev zAC : Ty := (.pair zW .unit)
abbrev zAD : Ty := (.pair .bool .unit)
abbrev zNz : Type := (qb × Unit) → Option (Bool × Unit)
abbrev zxi (g : Fnc zAC zAD) : Fun := ⟨207, zAC, zAD, 0, g⟩
abbrev zhW : Ty := (.pair (.sl qA) (.pair (.fn (.pair qA .unit) (.pair .bool .unit)) .unit))
abbrev zhX : Ty := (.pair .bool .unit)
abbrev zhY : Type := ((List qy) × ((Option ((qy × Unit) → Option (Bool × Unit))) × Unit)) → Option (Bool × Unit)
abbrev y7 (g : Fnc zhW zhX) : Fun := ⟨208, zhW, zhX, 0, g⟩
abbrev zD9 : Ty := (.pair qA .unit)
abbrev zEa : Ty := (.pair .bool .unit)
abbrev zPr : Type := (qy × Unit) → Option (Bool × Unit)
abbrev zAE (g : Fnc zD9 zEa) : Fun := ⟨209, zD9, zEa, 0, g⟩
abbrev zfU : Ty := (.pair (.sl zB) (.pair (.fn (.pair zB .unit) (.pair .bool .unit)) .unit))
abbrev zfV : Ty := (.pair .bool .unit)
abbrev zfW : Type := ((List zn) × ((Option ((zn × Unit) → Option (Bool × Unit))) × Unit)) → Option (Bool × Unit)
abbrev yz (g : Fnc zfU zfV) : Fun := ⟨210, zfU, zfV, 0, g⟩
abbrev zuh : Ty := (.pair zB .unit)
abbrev zui : Ty := (.pair .bool .unit)
abbrev zG7 : Type := (zn × Unit) → Option (Bool × Unit)
abbrev zr7 (g : Fnc zuh zui) : Fun := ⟨211, zuh, zui, 0, g⟩
abbrev zIQ : Ty := (.pair zB .unit)
abbrev zIR : Ty := (.pair .bool .unit)
abbrev zRT : Type := (zn × Unit) → Option (Bool × Unit)
abbrev zEb (g : Fnc zIQ zIR) : Fun := ⟨212, zIQ, zIR, 0, g⟩
abbrev zxj : Ty := (.pair (.int .i64) .unit)
abbrev zxk : Ty := (.pair .bool .unit)
abbrev zKH : Type := (Int × Unit) → Option (Bool × Unit)
abbrev zuj (g : Fnc zxj zxk) : Fun := ⟨213, zxj, zxk, 0, g⟩
abbrev zL4 : Ty := (.pair zw .unit)
abbrev zL5 : Ty := (.pair .bool .unit)
abbrev zUF : Type := (zj × Unit) → Option (Bool × Unit)
abbrev zIS (g : Fnc zL4 zL5) : Fun := ⟨214, zL4, zL5, 0, g⟩
abbrev zIT : Ty := (.pair zC .unit)
abbrev zIU : Ty := (.pair .bool .unit)
abbrev zRU : Type := (zH × Unit) → Option (Bool × Unit)
abbrev zEc (g : Fnc zIT zIU) : Fun := ⟨215, zIT, zIU, 0, g⟩
abbrev zAF : Ty := (.pair zC (.pair zC .unit))
abbrev zAG : Ty := (.pair (.int .i64) .unit)
abbrev zNA : Type := (zH × (zH × Unit)) → Option (Int × Unit)
abbrev zxl (g : Fnc zAF zAG) : Fun := ⟨216, zAF, zAG, 0, g⟩
abbrev zfX : Ty := (.pair (.sl zw) (.pair (.fn (.pair zw .unit) (.pair .bool .unit)) .unit))
abbrev zfY : Ty := (.pair .bool .unit)
abbrev zoJ : Type := ((List zj) × ((Option ((zj × Unit) → Option (Bool × Unit))) × Unit)) → Option (Bool × Unit)
abbrev zeW (g : Fnc zfX zfY) : Fun := ⟨217, zfX, zfY, 0, g⟩
abbrev zlQ : Ty := (.pair zw (.pair (.ptr (.fn (.pair zw .unit) (.pair .bool .unit))) .unit))
abbrev zlR : Ty := (.pair .bool .unit)
abbrev zvL : Type := (zj × ((Option (Option ((zj × Unit) → Option (Bool × Unit)))) × Unit)) → Option (Bool × Unit)
abbrev zj7 (g : Fnc zlQ zlR) : Fun := ⟨218, zlQ, zlR, 0, g⟩
abbrev zfZ : Ty := (.pair (.sl zC) (.pair (.fn (.pair zC .unit) (.pair .bool .unit)) .unit))
abbrev zf0 : Ty := (.pair .bool .unit)
abbrev zoK : Type := ((List zH) × ((Option ((zH × Unit) → Option (Bool × Unit))) × Unit)) → Option (Bool × Unit)
abbrev zeX (g : Fnc zfZ zf0) : Fun := ⟨219, zfZ, zf0, 0, g⟩
abbrev zlS : Ty := (.pair zC (.pair (.ptr (.fn (.pair zC .unit) (.pair .bool .unit))) .unit))
abbrev zlT : Ty := (.pair .bool .unit)
abbrev zvM : Type := (zH × ((Option (Option ((zH × Unit) → Option (Bool × Unit)))) × Unit)) → Option (Bool × Unit)
abbrev zj8 (g : Fnc zlS zlT) : Fun := ⟨220, zlS, zlT, 0, g⟩
abbrev zps : Ty := (.pair (.int .i64) (.pair (.ptr (.fn (.pair (.int .i64) .unit) (.pair .bool .unit))) .unit))
abbrev zpt : Ty := (.pair .bool .unit)
abbrev zBQ : Type := (Int × ((Option (Option ((Int × Unit) → Option (Bool × Unit)))) × Unit)) → Option (Bool × Unit)
abbrev znb (g : Fnc zps zpt) : Fun := ⟨221, zps, zpt, 0, g⟩
abbrev zuk : Ty := (.pair z5 (.pair (.ptr qX) (.pair (.ptr (.int .i64)) .unit)))
abbrev zul : Ty := (.pair .bool .unit)
abbrev zG8 : Type := (jE × ((Option qM) × ((Option Int) × Unit))) → Option (Bool × Unit)
abbrev zr8 (g : Fnc zuk zul) : Fun := ⟨222, zuk, zul, 0, g⟩
abbrev zhZ : Ty := (.pair (.sl qt) (.pair (.fn (.pair qt .unit) (.pair .bool .unit)) .unit))
abbrev zh0 : Ty := (.pair .bool .unit)
abbrev zpX : Type := ((List qd) × ((Option ((qd × Unit) → Option (Bool × Unit))) × Unit)) → Option (Bool × Unit)
abbrev zf1 (g : Fnc zhZ zh0) : Fun := ⟨223, zhZ, zh0, 0, g⟩
abbrev znc : Ty := (.pair qt (.pair (.ptr (.fn (.pair qt .unit) (.pair .bool .unit))) .unit))
abbrev znd : Ty := (.pair .bool .unit)
abbrev zyB : Type := (qd × ((Option (Option ((qd × Unit) → Option (Bool × Unit)))) × Unit)) → Option (Bool × Unit)
abbrev zlU (g : Fnc znc znd) : Fun := ⟨224, znc, znd, 0, g⟩
abbrev zne : Ty := (.pair zW (.pair (.ptr (.fn (.pair zW .unit) (.pair .bool .unit))) .unit))
abbrev znf : Ty := (.pair .bool .unit)
abbrev zyC : Type := (qb × ((Option (Option ((qb × Unit) → Option (Bool × Unit)))) × Unit)) → Option (Bool × Unit)
abbrev zlV (g : Fnc zne znf) : Fun := ⟨225, zne, znf, 0, g⟩
abbrev ziV : Ty := (.pair (.sl z5) (.pair (.fn (.pair z5 .unit) (.pair .bool .unit)) .unit))
abbrev ziW : Ty := (.pair .bool .unit)
abbrev zsO : Type := ((List jE) × ((Option ((jE × Unit) → Option (Bool × Unit))) × Unit)) → Option (Bool × Unit)
abbrev zh1 (g : Fnc ziV ziW) : Fun := ⟨226, ziV, ziW, 0, g⟩
abbrev zpu : Ty := (.pair z5 (.pair (.ptr (.fn (.pair z5 .unit) (.pair .bool .unit))) .unit))
abbrev zpv : Ty := (.pair .bool .unit)
abbrev zBR : Type := (jE × ((Option (Option ((jE × Unit) → Option (Bool × Unit)))) × Unit)) → Option (Bool × Unit)
abbrev zng (g : Fnc zpu zpv) : Fun := ⟨227, zpu, zpv, 0, g⟩
abbrev znh : Ty := (.pair qA (.pair (.ptr (.fn (.pair qA .unit) (.pair .bool .unit))) .unit))
abbrev zni : Ty := (.pair .bool .unit)
abbrev zyD : Type := (qy × ((Option (Option ((qy × Unit) → Option (Bool × Unit)))) × Unit)) → Option (Bool × Unit)
abbrev zlW (g : Fnc znh zni) : Fun := ⟨228, znh, zni, 0, g⟩
abbrev zlX : Ty := (.pair zB (.pair (.ptr (.fn (.pair zB .unit) (.pair .bool .unit))) .unit))
abbrev zlY : Ty := (.pair .bool .unit)
abbrev zvN : Type := (zn × ((Option (Option ((zn × Unit) → Option (Bool × Unit)))) × Unit)) → Option (Bool × Unit)
abbrev zj9 (g : Fnc zlX zlY) : Fun := ⟨229, zlX, zlY, 0, g⟩
abbrev znj : Ty := (.pair (.sl (.int .i64)) (.pair (.fn (.pair (.int .i64) .unit) (.pair .bool .unit)) .unit))
abbrev zgI : Ty := (.pair (.int .i64) .unit)
abbrev zyE : Type := ((List Int) × ((Option ((Int × Unit) → Option (Bool × Unit))) × Unit)) → Option (Int × Unit)
abbrev zlZ (g : Fnc znj zgI) : Fun := ⟨230, znj, zgI, 0, g⟩
abbrev zpw : Ty := (.pair (.sl (.int .i64)) (.pair (.int .i64) .unit))
abbrev zpx : Ty := (.pair .bool .unit)
abbrev zBS : Type := ((List Int) × (Int × Unit)) → Option (Bool × Unit)
abbrev znk (g : Fnc zpw zpx) : Fun := ⟨231, zpw, zpx, 0, g⟩
abbrev zPs : Ty := (.pair zr .unit)
abbrev zPt : Ty := (.pair (.sl (.int .i64)) .unit)
abbrev zPu : Type := (zu × Unit) → Option ((List Int) × Unit)
abbrev zAH (g : Fnc zPs zPt) : Fun := ⟨232, zPs, zPt, 0, g⟩
abbrev zka : Ty := (.pair (.sl zr) (.pair (.fn (.pair zr .unit) (.pair .bool .unit)) .unit))
abbrev zei : Ty := (.pair (.int .i64) .unit)
abbrev zum : Type := ((List zu) × ((Option ((zu × Unit) → Option (Bool × Unit))) × Unit)) → Option (Int × Unit)
abbrev ziX (g : Fnc zka zei) : Fun := ⟨233, zka, zei, 0, g⟩
abbrev zEd : Ty := (.pair (.sl (.int .i64)) .unit)
abbrev zun : Ty := (.pair (.int .i64) .unit)
abbrev zEe : Type := ((List Int) × Unit) → Option (Int × Unit)
abbrev zkZ (g : Fnc zEd zun) : Fun := ⟨234, zEd, zun, 0, g⟩
abbrev zpy : Ty := (.pair (.int .i64) (.pair (.int .i64) .unit))
abbrev zpz : Ty := (.pair (.int .i64) .unit)
abbrev zpA : Type := (Int × (Int × Unit)) → Option (Int × Unit)
abbrev zc3 (g : Fnc zpy zpz) : Fun := ⟨235, zpy, zpz, 0, g⟩
abbrev zkb : Ty := (.pair (.int .u64) (.pair (.int .u64) .unit))
abbrev zkc : Ty := (.pair (.int .i64) .unit)
abbrev zkd : Type := (Int × (Int × Unit)) → Option (Int × Unit)
abbrev zaX (g : Fnc zkb zkc) : Fun := ⟨236, zkb, zkc, 0, g⟩
abbrev zEf : Ty := (.pair (.int .u8) .unit)
abbrev zEg : Ty := (.pair .bool .unit)
abbrev zEh : Type := (Int × Unit) → Option (Bool × Unit)
abbrev zk0 (g : Fnc zEf zEg) : Fun := ⟨237, zEf, zEg, 0, g⟩
abbrev zL6 : Ty := (.pair .str (.pair (.fn (.pair (.int .u8) .unit) (.pair .bool .unit)) .unit))
abbrev zL7 : Ty := (.pair .bool .unit)
abbrev zL8 : Type := (ByteArray × ((Option ((Int × Unit) → Option (Bool × Unit))) × Unit)) → Option (Bool × Unit)
abbrev zpY (g : Fnc zL6 zL7) : Fun := ⟨238, zL6, zL7, 0, g⟩
abbrev zxm : Ty := (.pair (.int .u8) .unit)
abbrev zxn : Ty := (.pair .bool .unit)
abbrev zKI : Type := (Int × Unit) → Option (Bool × Unit)
abbrev zuo (g : Fnc zxm zxn) : Fun := ⟨239, zxm, zxn, 0, g⟩
abbrev zEi : Ty := (.pair (.int .u8) .unit)
abbrev zEj : Ty := (.pair .bool .unit)
abbrev zPv : Type := (Int × Unit) → Option (Bool × Unit)
abbrev zAI (g : Fnc zEi zEj) : Fun := ⟨240, zEi, zEj, 0, g⟩
abbrev zh2 : Ty := (.pair (.sl jL) (.pair (.fn (.pair jL .unit) (.pair .bool .unit)) .unit))
abbrev zcN : Ty := (.pair (.int .i64) .unit)
abbrev zpZ : Type := ((List qW) × ((Option ((qW × Unit) → Option (Bool × Unit))) × Unit)) → Option (Int × Unit)
abbrev zf2 (g : Fnc zh2 zcN) : Fun := ⟨241, zh2, zcN, 0, g⟩
abbrev zr9 : Ty := (.pair (.sl zr) (.pair zr .unit))
abbrev zke : Ty := (.pair (.int .i64) .unit)
abbrev zEk : Type := ((List zu) × (zu × Unit)) → Option (Int × Unit)
abbrev zpB (g : Fnc zr9 zke) : Fun := ⟨242, zr9, zke, 0, g⟩
abbrev zEl : Ty := (.pair (.int .i64) (.pair (.int .u64) (.pair (.int .u64) .unit)))
abbrev zEm : Ty := (.pair (.int .u64) (.pair (.int .i64) .unit))
abbrev zEn : Type := (Int × (Int × (Int × Unit))) → Option (Int × (Int × Unit))
abbrev zk1 (g : Fnc zEl zEm) : Fun := ⟨243, zEl, zEm, 0, g⟩
abbrev zIV : Ty := (.pair (.int .i64) .unit)
abbrev zIW : Ty := (.pair .bool .unit)
abbrev zRV : Type := (Int × Unit) → Option (Bool × Unit)
abbrev zEo (g : Fnc zIV zIW) : Fun := ⟨244, zIV, zIW, 0, g⟩
abbrev zIX : Ty := (.pair (.int .i64) .unit)
abbrev zIY : Ty := (.pair .bool .unit)
abbrev zRW : Type := (Int × Unit) → Option (Bool × Unit)
abbrev zEp (g : Fnc zIX zIY) : Fun := ⟨245, zIX, zIY, 0, g⟩
abbrev zIZ : Ty := (.pair (.int .u8) .unit)
abbrev zI0 : Ty := (.pair .bool .unit)
abbrev zRX : Type := (Int × Unit) → Option (Bool × Unit)
abbrev zEq (g : Fnc zIZ zI0) : Fun := ⟨246, zIZ, zI0, 0, g⟩
abbrev zI1 : Ty := (.pair (.int .i64) .unit)
abbrev zI2 : Ty := (.pair .bool .unit)
abbrev zRY : Type := (Int × Unit) → Option (Bool × Unit)
abbrev zEr (g : Fnc zI1 zI2) : Fun := ⟨247, zI1, zI2, 0, g⟩
abbrev zI3 : Ty := (.pair ziy .unit)
abbrev zI4 : Ty := (.pair .bool .unit)
abbrev zRZ : Type := (zmq × Unit) → Option (Bool × Unit)
abbrev zEs (g : Fnc zI3 zI4) : Fun := ⟨248, zI3, zI4, 0, g⟩
abbrev zsa : Ty := (.pair (.sl zw) (.pair (.fn (.pair zw .unit) (.pair .bool .unit)) .unit))
abbrev zsb : Ty := (.pair (.ptr zcL) .unit)
abbrev zEt : Type := ((List zj) × ((Option ((zj × Unit) → Option (Bool × Unit))) × Unit)) → Option ((Option zbv) × Unit)
abbrev zpC (g : Fnc zsa zsb) : Fun := ⟨249, zsa, zsb, 0, g⟩
abbrev zEu : Ty := (.pair zw .unit)
abbrev zEv : Ty := (.pair .bool .unit)
abbrev zPw : Type := (zj × Unit) → Option (Bool × Unit)
abbrev zAJ (g : Fnc zEu zEv) : Fun := ⟨250, zEu, zEv, 0, g⟩
abbrev zsc : Ty := (.pair (.ptr zcL) .unit)
abbrev zsd : Ty := (.pair .bool .unit)
abbrev zse : Type := ((Option zbv) × Unit) → Option (Bool × Unit)
abbrev zd1 (g : Fnc zsc zsd) : Fun := ⟨251, zsc, zsd, 0, g⟩
abbrev zup : Ty := (.pair (.ptr zcL) (.pair (.int .i64) .unit))
abbrev zuq : Ty := (.pair .bool .unit)
abbrev zG9 : Type := ((Option zbv) × (Int × Unit)) → Option (Bool × Unit)
abbrev zsf (g : Fnc zup zuq) : Fun := ⟨252, zup, zuq, 0, g⟩
abbrev zkf : Ty := (.pair (.sl zo) (.pair (.fn (.pair zo .unit) (.pair .bool .unit)) .unit))
abbrev zej : Ty := (.pair (.int .i64) .unit)
abbrev zur : Type := ((List zm) × ((Option ((zm × Unit) → Option (Bool × Unit))) × Unit)) → Option (Int × Unit)
abbrev ziY (g : Fnc zkf zej) : Fun := ⟨253, zkf, zej, 0, g⟩
abbrev zl0 : Ty := (.pair (.sl jz) (.pair (.fn (.pair jz .unit) (.pair .bool .unit)) .unit))
abbrev zfI : Ty := (.pair (.int .i64) .unit)
abbrev zvO : Type := ((List jK) × ((Option ((jK × Unit) → Option (Bool × Unit))) × Unit)) → Option (Int × Unit)
abbrev zkg (g : Fnc zl0 zfI) : Fun := ⟨254, zl0, zfI, 0, g⟩
abbrev zEw : Ty := (.pair z5 .unit)
abbrev zEx : Ty := (.pair .bool .unit)
abbrev zPx : Type := (jE × Unit) → Option (Bool × Unit)
abbrev zAK (g : Fnc zEw zEx) : Fun := ⟨255, zEw, zEx, 0, g⟩
abbrev zEy : Ty := (.pair (.int .i64) .unit)
abbrev zEz : Ty := (.pair .bool .unit)
abbrev zPy : Type := (Int × Unit) → Option (Bool × Unit)
abbrev zAL (g : Fnc zEy zEz) : Fun := ⟨256, zEy, zEz, 0, g⟩
abbrev zl1 : Ty := (.pair (.sl qt) (.pair (.fn (.pair qt .unit) (.pair .bool .unit)) .unit))
abbrev zfJ : Ty := (.pair (.int .i64) .unit)
abbrev zl2 : Type := ((List qd) × ((Option ((qd × Unit) → Option (Bool × Unit))) × Unit)) → Option (Int × Unit)
abbrev zbx (g : Fnc zl1 zfJ) : Fun := ⟨257, zl1, zfJ, 0, g⟩
abbrev zxo : Ty := (.pair qt (.pair (.ptr z5) (.pair (.ptr (.int .i64)) .unit)))
abbrev zxp : Ty := (.pair .bool .unit)
abbrev zKJ : Type := (qd × ((Option jE) × ((Option Int) × Unit))) → Option (Bool × Unit)
abbrev zus (g : Fnc zxo zxp) : Fun := ⟨258, zxo, zxp, 0, g⟩
abbrev zl3 : Ty := (.pair (.sl zW) (.pair (.fn (.pair zW .unit) (.pair .bool .unit)) .unit))
abbrev zfK : Ty := (.pair (.int .i64) .unit)
abbrev zvP : Type := ((List qb) × ((Option ((qb × Unit) → Option (Bool × Unit))) × Unit)) → Option (Int × Unit)
abbrev zkh (g : Fnc zl3 zfK) : Fun := ⟨259, zl3, zfK, 0, g⟩
abbrev zL9 : Ty := (.pair zW .unit)
end Go.Proofs.YtaokpakfhdeiiaaGreatDoor
end
