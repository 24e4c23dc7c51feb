import Derived.Test.YtaokpakfhdeiiaaGreatDoorHob
import Derived.Orders
import Derived.Scope
import Derived.Carry
import Derived.OpenShut
import Derived.Test.YtaokpakfhdeiiaaGreatDoorProg
import Derived.RangeFuncBox
import Derived.RangeFuncLeaves
import Derived.Shelf.Abstract
import Derived.WalkKit
import Derived.OwnWalkIn
import Derived.TacticsInMore
import Derived.LoopNIn
import Derived.LoopIn
import Derived.Maps.AppendAt
import Derived.Laws.Bits64b
import Derived.Lib.TrailingZeros
section
namespace Go.Ev
open Go.RowKit
set_option linter.unusedSimpArgs false
set_option linter.unusedVariables false
section
variable {P : Program} {nt : Nat} {F0 F F' : FH} {w0 w w' : World} {st : St} {m m' : MM} {a : Act} {fr fr' : List (Nat × AV)} {H h' : List Obj}
theorem Rel.start (h : Rel P nt F0 w0 st m F a w) (hf : ∀ t v, look fr' t = some v → v.pure = true ∧ ze P st.h m F v (a.tmps.getD t undef)) : Rel P nt F w ⟨fr', []⟩ .emp F a w :=
  ⟨h.nt, fun t v ht => (hf t v ht).2.pure (hf t v ht).1, fun i o ho => (by simp [atN] at ho), fun _ _ _ _ _ h => (nomatch h), fun _ _ _ h => (nomatch h), fun _ _ _ _ _ h => (nomatch h), fun _ _ _ _ _ _ _ _ _ h => (nomatch h), h.fok, ⟨.refl F, fun _ _ => rfl⟩, ⟨rfl, rfl, rfl, Nat.le_refl _, fun _ _ => rfl⟩, h.dfr⟩
def MM.cat (m : MM) (n : Nat) (m' : MM) : MM := ⟨fun i => if i < n then m i else m' (i - n), fun i => if i < n then m.d i else m'.d (i - n)⟩
theorem MM.cat_f (m : MM) {n i : Nat} (m' : MM) (h : i < n) : (m.cat n m') i = m i := by show (if i < n then m i else m' (i - n)) = m i; rw [if_pos h]
theorem MM.cat_d (m : MM) {n i : Nat} (m' : MM) (h : i < n) : (m.cat n m').d i = m.d i := by show (if i < n then m.d i else m'.d (i - n)) = m.d i; rw [if_pos h]
theorem MM.cat_f2 (m : MM) (n i : Nat) (m' : MM) : (m.cat n m') (n + i) = m' i := by show (if n + i < n then m (n + i) else m' (n + i - n)) = m' i; rw [if_neg (by omega), Nat.add_sub_cancel_left]
theorem MM.cat_d2 (m : MM) (n i : Nat) (m' : MM) : (m.cat n m').d (n + i) = m'.d i := by show (if n + i < n then m.d (n + i) else m'.d (n + i - n)) = m'.d i; rw [if_neg (by omega), Nat.add_sub_cancel_left]
theorem zf9 {n j : Nat} (h : ¬ j < n) : ∃ i, j = n + i := ⟨j - n, by omega⟩
theorem zMW {H h' : List Obj} {i : Nat} {o : Obj} (ho : atN h' i = some o) : atN (H ++ h'.map (Obj.sh H.length)) (H.length + i) = some (o.rn (H.length + ·)) := by
  rw [qs, List.getElem?_append_right (by omega), Nat.add_sub_cancel_left, List.getElem?_map, ← qs, ho, Option.map_some, Obj.sh_rn]
theorem Rel.cat (h : Rel P nt F0 w0 ⟨fr, H⟩ m F a w) (h2 : Rel P nt F w ⟨fr', h'⟩ m' F' a w') (hle : F.le F') : Rel P nt F0 w0 ⟨fr, H ++ h'.map (Obj.sh H.length)⟩ (m.cat H.length m') F' a w' := by
  have h1 := h.step (F' := F') h2.bel h2.gro h2.fok
  have hm : ∀ j u, atN H j = some u → Same (H ++ h'.map (Obj.sh H.length)) m (m.cat H.length m') j u := fun j u hu => ⟨MM.cat_f m m' (vj hu), fun _ _ _ _ => by rw [MM.cat_d m m' (vj hu)]⟩
  have hh : HLe H (H ++ h'.map (Obj.sh H.length)) := HLe.append _ _
  have hR : ∀ i o, atN h' i = some o → atN (H ++ h'.map (Obj.sh H.length)) (H.length + i) = some (o.rn (H.length + ·)) ∧ (m.cat H.length m') (H.length + i) = m' i ∧ (m.cat H.length m').d (H.length + i) = m'.d i := fun i o ho => ⟨zMW ho, MM.cat_f2 _ _ _ _, MM.cat_d2 _ _ _ _⟩
  have hlast : ∀ i b n, m' i = some (b, n) → w.heap.size ≤ b := fun i b n hi => (h2.rng _ _ _ hi).2.1
  have hlastd : ∀ i j p b n, m'.d i j p = some (b, n) → w.heap.size ≤ b := fun i j p b n hi => (h2.dok _ _ _ _ _ hi).2.1
  have hfst : ∀ i b n, m i = some (b, n) → b < w.heap.size := fun i b n hi => (h.rng _ _ _ hi).2.2
  have hfstd : ∀ i j p b n, m.d i j p = some (b, n) → b < w.heap.size := fun i j p b n hi => (h.dok _ _ _ _ _ hi).2.2.1
  refine ⟨h.nt, fun t v ht => (h1.fr t v ht).mono hh hm (.refl F'), fun j u hu => ?_, fun i j b n n' hi hj => ?_, fun j b n hj => ?_, fun i j p b n hp => ?_, fun i1 j1 p1 b n i2 j2 p2 n' q1 q2 => ?_, h2.fok, h1.gro, h1.bel, h.dfr⟩
  · by_cases hj : j < H.length
    · have hu' : atN H j = some u := by rw [zaw hj] at hu; exact hu
      exact (h1.obs j u hu').mono hh hm (.refl F') hu' hu (fun _ _ _ => rfl) (fun _ _ _ hn => hn) (fun _ _ _ _ _ _ => ⟨rfl, fun hn => hn⟩)
    · obtain ⟨i, rfl⟩ := zf9 hj
      rw [qs, List.getElem?_append_right (by omega), Nat.add_sub_cancel_left, List.getElem?_map, ← qs] at hu
      obtain ⟨o, ho, rfl⟩ := Option.map_eq_some_iff.1 hu
      rw [Obj.sh_rn]
      exact (h2.obs i o ho).rn (fun _ _ _ i _ o' ho' => hR i o' ho') (hR i o ho).2.1 (hR i o ho).2.2
  · by_cases e1 : i < H.length <;> by_cases e2 : j < H.length
    · rw [MM.cat_f _ _ e1] at hi; rw [MM.cat_f _ _ e2] at hj; exact h.inj _ _ _ _ _ hi hj
    · obtain ⟨j, rfl⟩ := zf9 e2
      rw [MM.cat_f _ _ e1] at hi; rw [MM.cat_f2] at hj
      have := hfst _ _ _ hi; have := hlast _ _ _ hj; omega
    · obtain ⟨i, rfl⟩ := zf9 e1
      rw [MM.cat_f2] at hi; rw [MM.cat_f _ _ e2] at hj
      have := hfst _ _ _ hj; have := hlast _ _ _ hi; omega
    · obtain ⟨i, rfl⟩ := zf9 e1
      obtain ⟨j, rfl⟩ := zf9 e2
      rw [MM.cat_f2] at hi hj
      have := h2.inj _ _ _ _ _ hi hj; omega
  · have hs := h.bel.size
    simp only [List.length_append, List.length_map]
    by_cases e : j < H.length
    · rw [MM.cat_f _ _ e] at hj
      have := h1.rng _ _ _ hj
      simp only at this
      omega
    · obtain ⟨j, rfl⟩ := zf9 e
      rw [MM.cat_f2] at hj
      have := h2.rng _ _ _ hj
      simp only at this
      omega
  · have hs := h.bel.size
    by_cases e : i < H.length
    · rw [MM.cat_d _ _ e] at hp
      obtain ⟨⟨o, g1, g2⟩, g3, g4, g5, g6⟩ := h1.dok _ _ _ _ _ hp
      refine ⟨⟨o, by rw [zaw e]; exact g1, g2⟩, g3, g4, g5, fun i' n' => ?_⟩
      by_cases e' : i' < H.length
      · rw [MM.cat_f _ _ e']; exact g6 _ _
      · obtain ⟨i', rfl⟩ := zf9 e'
        rw [MM.cat_f2]
        intro hi'
        have := hfstd _ _ _ _ _ hp; have := hlast _ _ _ hi'; omega
    · obtain ⟨i, rfl⟩ := zf9 e
      rw [MM.cat_d2] at hp
      obtain ⟨⟨o, g1, g2⟩, g3, g4, g5, g6⟩ := h2.dok _ _ _ _ _ hp
      refine ⟨⟨_, zMW g1, by rw [zF3]; exact g2⟩, by omega, g4, g5, fun i' n' => ?_⟩
      by_cases e' : i' < H.length
      · rw [MM.cat_f _ _ e']
        intro hi'
        have := hfst _ _ _ hi'; omega
      · obtain ⟨i', rfl⟩ := zf9 e'
        rw [MM.cat_f2]; exact g6 _ _
  · by_cases e1 : i1 < H.length <;> by_cases e2 : i2 < H.length
    · rw [MM.cat_d _ _ e1] at q1; rw [MM.cat_d _ _ e2] at q2; exact h.din _ _ _ _ _ _ _ _ _ q1 q2
    · obtain ⟨i2, rfl⟩ := zf9 e2
      rw [MM.cat_d _ _ e1] at q1; rw [MM.cat_d2] at q2
      have := hfstd _ _ _ _ _ q1; have := hlastd _ _ _ _ _ q2; omega
    · obtain ⟨i1, rfl⟩ := zf9 e1
      rw [MM.cat_d2] at q1; rw [MM.cat_d _ _ e2] at q2
      have := hfstd _ _ _ _ _ q2; have := hlastd _ _ _ _ _ q1; omega
    · obtain ⟨i1, rfl⟩ := zf9 e1
      obtain ⟨i2, rfl⟩ := zf9 e2
      rw [MM.cat_d2] at q1 q2
      have := h2.din _ _ _ _ _ _ _ _ _ q1 q2
      exact ⟨by omega, this.2⟩
theorem Rel.holes (h : Rel P nt F0 w0 ⟨fr, H⟩ m F a w) (n : Nat) : Rel P nt F0 w0 ⟨fr, H ++ List.replicate n .hole⟩ m F a w := by
  have hk : zQn H (H ++ List.replicate n .hole) m m := fun i o ho _ => ⟨by rw [zaw (vj ho)]; exact ho, rfl, rfl⟩
  refine ⟨h.nt, fun t v ht => (h.fr t v ht).keep hk, fun j u hu => ?_, h.inj, fun i b n' hi => ?_, fun i j p b n' hp => ?_, h.din, h.fok, h.gro, h.bel, h.dfr⟩
  · by_cases hj : j < H.length
    · have hu' : atN H j = some u := by rw [zaw hj] at hu; exact hu
      exact (h.obs j u hu').keep hk rfl rfl
    · rw [qs, List.getElem?_append_right (by omega)] at hu
      have hm := List.mem_of_getElem? hu
      rw [List.mem_replicate] at hm
      obtain ⟨_, rfl⟩ := hm
      show m j = none
      cases hmj : m j with
      | none => rfl
      | some bn =>
        obtain ⟨b, n'⟩ := bn
        have := (h.rng _ _ _ hmj).1
        exact absurd this hj
  · have := h.rng _ _ _ hi
    simp only [List.length_append] at this ⊢
    omega
  · obtain ⟨⟨o, g1, g2⟩, g3⟩ := h.dok _ _ _ _ _ hp
    exact ⟨⟨o, by rw [zaw (vj g1)]; exact g1, g2⟩, g3⟩
def MM.fill (m : MM) (s n : Nat) (m' : MM) : MM := ⟨fun i => if s ≤ i ∧ i < s + n then m' (i - s) else m i, fun i => if s ≤ i ∧ i < s + n then m'.d (i - s) else m.d i⟩
theorem MM.fill_f (m : MM) {s n i : Nat} (m' : MM) (h : ¬(s ≤ i ∧ i < s + n)) : (m.fill s n m') i = m i := by show (if s ≤ i ∧ i < s + n then m' (i - s) else m i) = m i; rw [if_neg h]
theorem MM.fill_d (m : MM) {s n i : Nat} (m' : MM) (h : ¬(s ≤ i ∧ i < s + n)) : (m.fill s n m').d i = m.d i := by show (if s ≤ i ∧ i < s + n then m'.d (i - s) else m.d i) = m.d i; rw [if_neg h]
theorem MM.fill_f2 (m : MM) {s n i : Nat} (m' : MM) (h : i < n) : (m.fill s n m') (s + i) = m' i := by show (if s ≤ s + i ∧ s + i < s + n then m' (s + i - s) else m (s + i)) = m' i; rw [if_pos (by omega), Nat.add_sub_cancel_left]
theorem MM.fill_d2 (m : MM) {s n i : Nat} (m' : MM) (h : i < n) : (m.fill s n m').d (s + i) = m'.d i := by show (if s ≤ s + i ∧ s + i < s + n then m'.d (s + i - s) else m.d (s + i)) = m'.d i; rw [if_pos (by omega), Nat.add_sub_cancel_left]
theorem Rel.fill (h : Rel P nt F0 w0 ⟨fr, H⟩ m F a w) (h2 : Rel P nt F w ⟨fr', h'⟩ m' F' a w') {s : Nat} {H2 : List Obj} (hlen : H2.length = H.length)
    (hs : ∀ i o, atN h' i = some o → atN H (s + i) = some .hole ∧ atN H2 (s + i) = some (o.rn (s + ·))) (hn : ∀ i, ¬(s ≤ i ∧ i < s + h'.length) → atN H2 i = atN H i) :
    Rel P nt F0 w0 ⟨fr, H2⟩ (m.fill s h'.length m') F' a w' := by
  have h1 := h.step (F' := F') h2.bel h2.gro h2.fok
  have hin : ∀ i, i < h'.length → atN H (s + i) = some .hole := fun i hi => (hs i h'[i] (by rw [qs, List.getElem?_eq_getElem hi])).1
  have hmh : ∀ i, i < h'.length → m (s + i) = none := fun i hi => h.obs _ _ (hin i hi)
  have seg : ∀ {i : Nat}, (s ≤ i ∧ i < s + h'.length) → ∃ j, j < h'.length ∧ i = s + j := fun {i} hi => ⟨i - s, by omega, by omega⟩
  have hk : zQn H H2 m (m.fill s h'.length m') := fun i o ho hne => by
    by_cases e : s ≤ i ∧ i < s + h'.length
    · obtain ⟨j, hj, rfl⟩ := seg e
      rw [hin j hj] at ho; cases ho; exact absurd rfl hne
    · exact ⟨by rw [hn i e]; exact ho, MM.fill_f m m' e, MM.fill_d m m' e⟩
  have hlast : ∀ i b n, m' i = some (b, n) → w.heap.size ≤ b := fun i b n hi => (h2.rng _ _ _ hi).2.1
  have hlastd : ∀ i j p b n, m'.d i j p = some (b, n) → w.heap.size ≤ b := fun i j p b n hi => (h2.dok _ _ _ _ _ hi).2.1
  have hfst : ∀ i b n, m i = some (b, n) → b < w.heap.size := fun i b n hi => (h.rng _ _ _ hi).2.2
  have hfstd : ∀ i j p b n, m.d i j p = some (b, n) → b < w.heap.size := fun i j p b n hi => (h.dok _ _ _ _ _ hi).2.2.1
  have hnd : ∀ {i j p b n}, i < h'.length → m.d (s + i) j p ≠ some (b, n) := fun hi hp => by
    obtain ⟨⟨o, g1, g2⟩, _⟩ := h.dok _ _ _ _ _ hp
    simp only at g1
    rw [hin _ hi] at g1; cases g1; cases g2
  have hR : ∀ i o, atN h' i = some o → atN H2 (s + i) = some (o.rn (s + ·)) ∧ (m.fill s h'.length m') (s + i) = m' i ∧ (m.fill s h'.length m').d (s + i) = m'.d i := fun i o ho => ⟨(hs i o ho).2, MM.fill_f2 _ _ (vj ho), MM.fill_d2 _ _ (vj ho)⟩
  refine ⟨h.nt, fun t v ht => (h1.fr t v ht).keep hk, fun j u hu => ?_, fun i j b n n' hi hj => ?_, fun j b n hj => ?_, fun i j p b n hp => ?_, fun i1 j1 p1 b n i2 j2 p2 n' q1 q2 => ?_, h2.fok, h1.gro, h1.bel, h.dfr⟩
  · by_cases e : s ≤ j ∧ j < s + h'.length
    · obtain ⟨i, hi, rfl⟩ := seg e
      obtain ⟨o, ho⟩ : ∃ o, atN h' i = some o := ⟨h'[i], by rw [qs, List.getElem?_eq_getElem hi]⟩
      have := (hR i o ho).1
      simp only at hu
      rw [this] at hu
      cases hu
      exact (h2.obs i o ho).rn (fun _ _ _ i _ o' ho' => hR i o' ho') (hR i o ho).2.1 (hR i o ho).2.2
    · simp only at hu
      rw [hn j e] at hu
      exact (h1.obs j u hu).keep hk (MM.fill_f m m' e) (MM.fill_d m m' e)
  · by_cases e1 : s ≤ i ∧ i < s + h'.length <;> by_cases e2 : s ≤ j ∧ j < s + h'.length
    · obtain ⟨i, l1, rfl⟩ := seg e1
      obtain ⟨j, l2, rfl⟩ := seg e2
      rw [MM.fill_f2 _ _ l1] at hi; rw [MM.fill_f2 _ _ l2] at hj
      have := h2.inj _ _ _ _ _ hi hj; omega
    · obtain ⟨i, l1, rfl⟩ := seg e1
      rw [MM.fill_f2 _ _ l1] at hi; rw [MM.fill_f _ _ e2] at hj
      have := hfst _ _ _ hj; have := hlast _ _ _ hi; omega
    · obtain ⟨j, l2, rfl⟩ := seg e2
      rw [MM.fill_f _ _ e1] at hi; rw [MM.fill_f2 _ _ l2] at hj
      have := hfst _ _ _ hi; have := hlast _ _ _ hj; omega
    · rw [MM.fill_f _ _ e1] at hi; rw [MM.fill_f _ _ e2] at hj; exact h.inj _ _ _ _ _ hi hj
  · have hsz := h.bel.size
    by_cases e : s ≤ j ∧ j < s + h'.length
    · obtain ⟨i, l1, rfl⟩ := seg e
      rw [MM.fill_f2 _ _ l1] at hj
      have := h2.rng _ _ _ hj
      have := vj (hin i l1)
      simp only at *
      omega
    · rw [MM.fill_f _ _ e] at hj
      have := h1.rng _ _ _ hj
      simp only at *
      omega
  · have hsz := h.bel.size
    by_cases e : s ≤ i ∧ i < s + h'.length
    · obtain ⟨i, l1, rfl⟩ := seg e
      rw [MM.fill_d2 _ _ l1] at hp
      obtain ⟨⟨o, g1, g2⟩, g3, g4, g5, g6⟩ := h2.dok _ _ _ _ _ hp
      refine ⟨⟨_, (hR i o g1).1, by rw [zF3]; exact g2⟩, by omega, g4, g5, fun i' n' => ?_⟩
      by_cases e' : s ≤ i' ∧ i' < s + h'.length
      · obtain ⟨i', l2, rfl⟩ := seg e'
        rw [MM.fill_f2 _ _ l2]; exact g6 _ _
      · rw [MM.fill_f _ _ e']
        intro hi'
        have := hfst _ _ _ hi'; omega
    · rw [MM.fill_d _ _ e] at hp
      obtain ⟨⟨o, g1, g2⟩, g3, g4, g5, g6⟩ := h1.dok _ _ _ _ _ hp
      refine ⟨⟨o, by simp only at g1 ⊢; rw [hn i e]; exact g1, g2⟩, g3, g4, g5, fun i' n' => ?_⟩
      by_cases e' : s ≤ i' ∧ i' < s + h'.length
      · obtain ⟨i', l2, rfl⟩ := seg e'
        rw [MM.fill_f2 _ _ l2]
        intro hi'
        have := hfstd _ _ _ _ _ hp; have := hlast _ _ _ hi'; omega
      · rw [MM.fill_f _ _ e']; exact g6 _ _
  · by_cases e1 : s ≤ i1 ∧ i1 < s + h'.length <;> by_cases e2 : s ≤ i2 ∧ i2 < s + h'.length
    · obtain ⟨i1, l1, rfl⟩ := seg e1
      obtain ⟨i2, l2, rfl⟩ := seg e2
      rw [MM.fill_d2 _ _ l1] at q1; rw [MM.fill_d2 _ _ l2] at q2
      have := h2.din _ _ _ _ _ _ _ _ _ q1 q2
      exact ⟨by omega, this.2⟩
    · obtain ⟨i1, l1, rfl⟩ := seg e1
      rw [MM.fill_d2 _ _ l1] at q1; rw [MM.fill_d _ _ e2] at q2
      have := hfstd _ _ _ _ _ q2; have := hlastd _ _ _ _ _ q1; omega
    · obtain ⟨i2, l2, rfl⟩ := seg e2
      rw [MM.fill_d _ _ e1] at q1; rw [MM.fill_d2 _ _ l2] at q2
      have := hfstd _ _ _ _ _ q1; have := hlastd _ _ _ _ _ q2; omega
    · rw [MM.fill_d _ _ e1] at q1; rw [MM.fill_d _ _ e2] at q2; exact h.din _ _ _ _ _ _ _ _ _ q1 q2
theorem ze.fill {v : AV} {u : Value} {s : Nat} {H2 : List Obj} (hs : ∀ i o, atN h' i = some o → atN H2 (s + i) = some (o.rn (s + ·))) (hv : ze P h' m' F' v u) : ze P H2 (m.fill s h'.length m') F' (v.shT s) u := by
  have hR : ∀ i o, atN h' i = some o → atN H2 (s + i) = some (o.rn (s + ·)) ∧ (m.fill s h'.length m') (s + i) = m' i ∧ (m.fill s h'.length m').d (s + i) = m'.d i := fun i o ho => ⟨hs i o ho, MM.fill_f2 _ _ (vj ho), MM.fill_d2 _ _ (vj ho)⟩
  cases v with
  | tup vs =>
    obtain ⟨arr, e, h1, h3⟩ := hv
    refine ⟨arr, e, by simpa using h1, fun i x hx => ?_⟩
    rw [List.getElem?_map] at hx
    obtain ⟨y, hy, rfl⟩ := Option.map_eq_some_iff.1 hx
    obtain ⟨z, hz, hyz⟩ := h3 i y hy
    refine ⟨z, hz, ?_⟩
    rw [AV.sh_rn]
    exact hyz.rn fun i _ o ho => hR i o ho
  | _ =>
    rw [ze.eq1 (by intro vs e; cases e)] at hv
    refine ze.of1 ?_
    simp only [AV.shT]
    rw [AV.sh_rn]
    exact hv.rn fun i _ o ho => hR i o ho
theorem ze.cat {v : AV} {u : Value} (hv : ze P h' m' F' v u) : ze P (H ++ h'.map (Obj.sh H.length)) (m.cat H.length m') F' (v.shT H.length) u := by
  have hR : ∀ i o, atN h' i = some o → atN (H ++ h'.map (Obj.sh H.length)) (H.length + i) = some (o.rn (H.length + ·)) ∧ (m.cat H.length m') (H.length + i) = m' i ∧ (m.cat H.length m').d (H.length + i) = m'.d i := fun i o ho => ⟨zMW ho, MM.cat_f2 _ _ _ _, MM.cat_d2 _ _ _ _⟩
  cases v with
  | tup vs =>
    obtain ⟨arr, e, h1, h3⟩ := hv
    refine ⟨arr, e, by simpa using h1, fun i x hx => ?_⟩
    rw [List.getElem?_map] at hx
    obtain ⟨y, hy, rfl⟩ := Option.map_eq_some_iff.1 hx
    obtain ⟨z, hz, hyz⟩ := h3 i y hy
    refine ⟨z, hz, ?_⟩
    rw [AV.sh_rn]
    exact hyz.rn fun i _ o ho => hR i o ho
  | _ =>
    rw [ze.eq1 (by intro vs e; cases e)] at hv
    refine ze.of1 ?_
    simp only [AV.shT]
    rw [AV.sh_rn]
    exact hv.rn fun i _ o ho => hR i o ho
end
end Go.Ev
end
section
namespace Go.Ev
open Go.RowKit
set_option linter.unusedSimpArgs false
set_option linter.unusedVariables false
section
variable {P : Program} {nt : Nat} {F0 F G : FH} {w0 w : World} {st st' : St} {m : MM} {a : Act} {E : Env} {v : AV} {u : Value}
theorem zKZ {R : Type} {q : Bool} {args : Array Operand} {ts : Array TypeId} {k : AV → St → Option R} : zl1 q E ⟨.builtin .len, args, ts⟩ st k = match args.toList, ts.toList with | [x], [t] => (match rd E st none x with | some v => zfW E t v st k | none => none) | _, _ => none := rfl
theorem zTY {q : Bool} {o : Oper} (hE : zV P G E) (hG : G.le F0) (h : Rel P nt F0 w0 st m F a w) (hs : zic o.op = true) (he : zba q E o.op o.type st pk = some (v, st')) :
    st' = st ∧ ∃ u, (execOp a.eval o).run P w = .ok (.value u) w ∧ ze P st.h m F v u := by
  obtain ⟨dst, op, ty, pos, after, guard⟩ := o
  simp only at he hs
  cases op <;> (try (simp only [zic] at hs; cases hs; done)) <;> simp only [zba] at he
  case load t x =>
    split at he
    · rename_i av hav
      obtain ⟨u, h1, rfl, h2⟩ := zDd hE h (zD hE hG h hav) he
      exact ⟨rfl, u, by simp only [execOp]; exact z3 h1, h2⟩
    · cases he
  case nilCheck x =>
    split at he
    · rename_i τ y hx
      obtain ⟨y, rfl, he⟩ := Option.bind_eq_some_iff.1 he
      cases he
      have hr := zD hE hG h hx
      obtain ⟨d, cc, hp, _⟩ := hr.ptr
      exact ⟨rfl, a.eval x, by simp only [execOp, hp]; rfl, hr⟩
    · rename_i τ σ y hx
      obtain ⟨y, rfl, he⟩ := Option.bind_eq_some_iff.1 he
      cases he
      have hr := zD hE hG h hx
      obtain ⟨f, first, caps, hp, _⟩ := ze.one rfl hr
      simp only [List.cons.injEq, and_true] at hp
      exact ⟨rfl, a.eval x, by simp only [execOp, hp]; rfl, hr⟩
    · rename_i id p hx
      obtain ⟨hlive, he⟩ := zd he
      cases he
      have hr := zD hE hG h hx
      obtain ⟨b, n, o, off, _, _, hp, _⟩ := (show z7 P st.h m F (.bp id p) _ from hr).resolve_left (zrm hlive)
      exact ⟨rfl, a.eval x, by simp only [execOp, hp]; rfl, hr⟩
    · rename_i id i p hx
      obtain ⟨hlive, he⟩ := zd he
      cases he
      have hr := zD hE hG h hx
      obtain ⟨b, n, o, τ, len, off, σ, _, _, _, _, _, hp⟩ := (show z7 P st.h m F (.rp id i p) _ from hr).resolve_left (zrm hlive)
      exact ⟨rfl, a.eval x, by simp only [execOp, hp]; rfl, hr⟩
    · rename_i id i p j q hx
      split at he
      · rename_i τ xs k ho
        cases he
        have hr := zD hE hG h hx
        obtain ⟨o, ho', _, hr'⟩ := (show z7 P st.h m F (.dp id i p j q) _ from hr)
        rw [ho] at ho'
        cases ho'
        obtain ⟨_, σ, len, off, ρ, b, n, _, _, _, _, hp⟩ := hr' _ _ _ rfl
        exact ⟨rfl, a.eval x, by simp only [execOp, hp]; rfl, hr⟩
      · cases he
    · cases he
  case binOp op t x y ty' =>
    split at he
    · rename_i av au hav hau
      obtain ⟨u, h1, rfl, h2⟩ := zKJ (X := x) (Y := y) (w := w) hE zAD (zD hE hG h hav) (zD hE hG h hau) he
      exact ⟨rfl, u, by simp only [execOp]; exact z3 h1, h2⟩
    · cases he
  case fieldAddr t x f =>
    split at he
    · rename_i av hav
      obtain ⟨u, h1, rfl, h2⟩ := zzw hE h (zD hE hG h hav) he
      exact ⟨rfl, u, by simp only [execOp]; exact z3 h1, h2⟩
    · cases he
  case indexAddr t x i =>
    split at he
    · rename_i av au hav hau
      obtain ⟨u, h1, rfl, h2⟩ := zzx hE h (zD hE hG h hav) (zD hE hG h hau) he
      exact ⟨rfl, u, by simp only [execOp]; exact z3 h1, h2⟩
    · cases he
  case lookup t x i ok =>
    split at he
    · rename_i av au hav hau
      obtain ⟨u, h1, rfl, h2⟩ := zF1 hE h (zD hE hG h hav) (zD hE hG h hau) he
      exact ⟨rfl, u, by simp only [execOp]; exact z3 h1, h2⟩
    · cases he
  case call c =>
    obtain ⟨callee, args, argTypes⟩ := c
    simp only [zic] at hs
    split at hs
    · rw [zKZ] at he
      split at he
      · rename_i x t hx ht
        split at he
        · rename_i av hav
          obtain ⟨u, h1, rfl, h2⟩ := zOg (ty := ty) hE h (zD hE hG h hav) ht he
          have hargs : args.map a.eval = #[a.eval x] := by apply Array.ext'; simp [hx]
          refine ⟨rfl, u, ?_, h2⟩
          simp only [execOp, resolve, Sem.run_bind, Sem.run_pure, Result.andThen_ok, invoke, builtin, hargs]
          simp [h1]
        · cases he
      · cases he
    · cases hs
theorem zv6 {α : Type} {h k : List α} {i : Nat} {o : α} (ho : atN h i = some o) : atN (h ++ k) i = some o := by
  rw [qs] at ho ⊢
  rw [List.getElem?_append_left (List.getElem?_eq_some_iff.1 ho).1]
  exact ho
theorem zQo {h k : List Obj} {i : Nat} (hk : ∀ o, atN h i = some o → atN k i = some o) (ho : live h i = true) : live k i = true := by
  unfold live at ho ⊢
  cases hi : atN h i with
  | none => rw [hi] at ho; cases ho
  | some o => rw [hi] at ho; rw [hk _ hi]; exact ho
def more (k : List Obj) (st : St) : St := ⟨st.fr, k⟩
def zrn (h k : List Obj) (v : AV) : Prop := ∀ i, v.has1 i = true → ∀ o, atN h i = some o → atN k i = some o
def Sup (h k : List Obj) (v : AV) : Prop := ∀ i, v.has i = true → ∀ o, atN h i = some o → atN k i = some o
theorem zrn.refl (h : List Obj) (v : AV) : zrn h h v := fun _ _ _ h => h
theorem Sup.refl (h : List Obj) (v : AV) : Sup h h v := fun _ _ _ h => h
variable {k : List Obj}
theorem zs7 {x : (τ : Ty) × τ.I × St} (hk : zrn st.h k v) (h : j7 true st v = some x) : j7 true (more k st) v = some ⟨x.1, x.2.1, more k x.2.2⟩ ∧ x.2.2 = st := by
  cases v with
  | dat τ y => simp only [j7, Option.some.injEq] at h ⊢; subst h; exact ⟨rfl, rfl⟩
  | clip τ y => simp only [j7, Option.some.injEq] at h ⊢; subst h; exact ⟨rfl, rfl⟩
  | ow id =>
    simp only [j7] at h ⊢
    split at h
    · rename_i τ xs ho
      cases h
      rw [show atN (more k st).h id = some (.row τ xs true) from hk _ (Nat.beq_refl _) _ ho]
      exact ⟨rfl, rfl⟩
    · cases h
    · cases h
    · cases h
  | bp id p =>
    cases p with
    | cons _ _ => cases h
    | nil =>
      simp only [j7] at h ⊢
      split at h
      · rename_i τ xs ho
        cases h
        rw [show atN (more k st).h id = some (.bx (.dat τ xs) true) from hk _ (Nat.beq_refl _) _ ho]
        exact ⟨rfl, rfl⟩
      · cases h
      · cases h
  | _ => cases h
theorem zIB {σ : Ty} {x : σ.I × St} (hk : zrn st.h k v) (h : zcA true σ st v = some x) : zcA true σ (more k st) v = some (x.1, more k x.2) ∧ x.2 = st := by
  unfold zcA at h ⊢
  split at h
  · rename_i τ y st1 hz
    obtain ⟨h1, h2⟩ := zs7 (k := k) hk hz
    simp only at h1 h2
    subst h2
    rw [h1]
    split at h
    · rename_i z hc
      cases h
      simp only [hc, and_self]
    · cases h
  · cases h
theorem zQp : ∀ {τ : Ty} {vs : List AV} {st : St} {x : τ.I × St}, (∀ v ∈ vs, zrn st.h k v) → vo true τ vs st = some x → vo true τ vs (more k st) = some (x.1, more k x.2) ∧ x.2 = st := by
  intro τ
  induction τ with
  | unit => intro vs st x _ h; cases vs <;> first | (cases h; exact ⟨rfl, rfl⟩) | cases h
  | pair a b _ ihb =>
    intro vs st x hk h
    cases vs with
    | nil => cases h
    | cons v vs =>
      simp only [vo] at h ⊢
      split at h
      · rename_i y st1 hy
        split at h
        · rename_i ys st2 hys
          cases h
          obtain ⟨h1, h2⟩ := zIB (k := k) (hk v (by simp)) hy
          simp only at h1 h2
          subst h2
          obtain ⟨h3, h4⟩ := ihb (fun v hv => hk v (by simp [hv])) hys
          simp only at h3 h4
          subst h4
          rw [h1]
          simp only [h3, and_self]
        · cases h
      · cases h
  | _ => intro vs st x _ h; cases vs <;> cases h
theorem zV8 {x : (τ : Ty) × τ.I × St} (hk : Sup st.h k v) (h : frz true st v = some x) : frz true (more k st) v = some ⟨x.1, x.2.1, more k x.2.2⟩ ∧ x.2.2 = st := by
  cases v with
  | fld b vs =>
    simp only [frz] at h ⊢
    split at h
    · rename_i y st1 hy
      cases h
      obtain ⟨h1, h2⟩ := zQp (k := k) (fun v hv i hi => hk i (by simp only [AV.has, List.any_eq_true]; exact ⟨v, hv, hi⟩)) hy
      simp only at h1 h2
      subst h2
      simp only [h1, and_self]
    · cases h
  | dat τ x => exact zs7 (v := .dat τ x) hk h
  | clip τ x => exact zs7 (v := .clip τ x) hk h
  | bp id p => exact zs7 (v := .bp id p) hk h
  | ow id => exact zs7 (v := .ow id) hk h
  | _ => cases h
theorem zXr {v' : AV} {s s' : St} (h : kAV v' s pk = some (v, st')) : kAV v' s' pk = some (v, s') := by
  obtain ⟨rfl, rfl⟩ := zbe h
  unfold kAV at h ⊢
  split
  · rename_i b; cases b <;> rfl
  · rfl
theorem zVb {R : Type} {k : AV → St → Option R} {s s2 : St} {t : TypeId} {x : AV} (hat : ∀ i, x.has1 i = true → atN s.h i = atN s2.h i) : y4 E t x s k = y4 E t x s2 (fun v _ => k v s) := by
  unfold y4
  cases x with
  | bp id p =>
    have hh : atN s.h id = atN s2.h id := hat id (Nat.beq_refl _)
    first | (simp only [hh]; done) | (simp only [hh]; rfl)
  | rp id i' p =>
    have hh : atN s.h id = atN s2.h id := hat id (Nat.beq_refl _)
    first | (simp only [hh]; done) | (simp only [hh]; rfl)
  | dp id i' p j' q =>
    have hh : atN s.h id = atN s2.h id := hat id (Nat.beq_refl _)
    first | (simp only [hh]; done) | (simp only [hh]; rfl)
  | dat τ y => cases τ <;> rfl
  | _ => rfl
theorem zQq {t : TypeId} {x : AV} (he : y4 E t x st pk = some (v, st')) {i0 : Nat} (hx : x.has1 i0 = true) : ∃ o, atN st.h i0 = some o := by
  cases ho : atN st.h i0 with
  | some o => exact ⟨o, rfl⟩
  | none =>
    exfalso
    unfold y4 at he
    cases x with
    | bp id p =>
      obtain rfl : id = i0 := Nat.eq_of_beq_eq_true hx
      first | (cases he; done) | (simp only [ho] at he; cases he)
    | rp id i' p =>
      obtain rfl : id = i0 := Nat.eq_of_beq_eq_true hx
      first | (cases he; done) | (simp only [ho] at he; cases he)
    | dp id i' p j' q =>
      obtain rfl : id = i0 := Nat.eq_of_beq_eq_true hx
      first | (cases he; done) | (simp only [ho] at he; cases he)
    | ds id i' p =>
      obtain rfl : id = i0 := Nat.eq_of_beq_eq_true hx
      first | (cases he; done) | (simp only [ho] at he; cases he)
    | ow id =>
      obtain rfl : id = i0 := Nat.eq_of_beq_eq_true hx
      first | (cases he; done) | (simp only [ho] at he; cases he)
    | om id =>
      obtain rfl : id = i0 := Nat.eq_of_beq_eq_true hx
      first | (cases he; done) | (simp only [ho] at he; cases he)
    | _ => cases hx
theorem zSk {t : TypeId} {x : AV} (hk : zrn st.h k x) (he : y4 E t x st pk = some (v, st')) : y4 E t x (more k st) pk = some (v, more k st) := by
  have hat : ∀ i, x.has1 i = true → atN (more k st).h i = atN st.h i := fun i hi => by
    obtain ⟨o, ho⟩ := zQq he hi
    rw [ho]; exact hk i hi o ho
  rw [zVb hat, zKC, he]
  rfl
theorem zMX {R : Type} {k : AV → St → Option R} {s s2 : St} {t : TypeId} {x i : AV} (hat : ∀ i, x.has1 i = true → atN s.h i = atN s2.h i) : jN E t x i s k = jN E t x i s2 (fun v _ => k v s) := by
  unfold jN
  cases x with
  | bp id p =>
    have hh : atN s.h id = atN s2.h id := hat id (Nat.beq_refl _)
    cases i with
    | dat τ n => cases τ <;> first | rfl | (simp only [hh]; done) | (simp only [hh]; rfl)
    | _ => rfl
  | rp id i' p =>
    have hh : atN s.h id = atN s2.h id := hat id (Nat.beq_refl _)
    cases i with
    | dat τ n => cases τ <;> first | rfl | (simp only [hh]; done) | (simp only [hh]; rfl)
    | _ => rfl
  | dp id i' p j' q =>
    have hh : atN s.h id = atN s2.h id := hat id (Nat.beq_refl _)
    cases i with
    | dat τ n => cases τ <;> first | rfl | (simp only [hh]; done) | (simp only [hh]; rfl)
    | _ => rfl
  | ds id i' p =>
    have hh : atN s.h id = atN s2.h id := hat id (Nat.beq_refl _)
    cases i with
    | dat τ n => cases τ <;> first | rfl | (simp only [hh]; done) | (simp only [hh]; rfl)
    | _ => rfl
  | ow id =>
    have hh : atN s.h id = atN s2.h id := hat id (Nat.beq_refl _)
    cases i with
    | dat τ n => cases τ <;> first | rfl | (simp only [hh]; done) | (simp only [hh]; rfl)
    | _ => rfl
  | dat τ y =>
    cases i with
    | dat τ' n => cases τ with
      | ptr a => cases a <;> cases τ' <;> rfl
      | _ => cases τ' <;> rfl
    | _ => cases τ with
      | ptr a => cases a <;> rfl
      | _ => rfl
  | clip τ y => cases i with
    | dat τ' n => cases τ' <;> rfl
    | _ => rfl
  | _ => rfl
theorem zHU {t : TypeId} {x i : AV} (he : jN E t x i st pk = some (v, st')) {i0 : Nat} (hx : x.has1 i0 = true) : ∃ o, atN st.h i0 = some o := by
  cases ho : atN st.h i0 with
  | some o => exact ⟨o, rfl⟩
  | none =>
    exfalso
    unfold jN at he
    cases x with
    | bp id p =>
      obtain rfl : id = i0 := Nat.eq_of_beq_eq_true hx
      cases i with
      | dat τ n => cases τ <;> first | (cases he; done) | (simp only [ho] at he; cases he)
      | _ => cases he
    | rp id i' p =>
      obtain rfl : id = i0 := Nat.eq_of_beq_eq_true hx
      cases i with
      | dat τ n => cases τ <;> first | (cases he; done) | (simp only [ho] at he; cases he)
      | _ => cases he
    | dp id i' p j' q =>
      obtain rfl : id = i0 := Nat.eq_of_beq_eq_true hx
      cases i with
      | dat τ n => cases τ <;> first | (cases he; done) | (simp only [ho] at he; cases he)
      | _ => cases he
    | ds id i' p =>
      obtain rfl : id = i0 := Nat.eq_of_beq_eq_true hx
      cases i with
      | dat τ n => cases τ <;> first | (cases he; done) | (simp only [ho] at he; cases he)
      | _ => cases he
    | ow id =>
      obtain rfl : id = i0 := Nat.eq_of_beq_eq_true hx
      cases i with
      | dat τ n => cases τ <;> first | (cases he; done) | (simp only [ho] at he; cases he)
      | _ => cases he
    | om id =>
      obtain rfl : id = i0 := Nat.eq_of_beq_eq_true hx
      cases i with
      | dat τ n => cases τ <;> first | (cases he; done) | (simp only [ho] at he; cases he)
      | _ => cases he
    | _ => cases hx
theorem zI7 {t : TypeId} {x i : AV} (hk : zrn st.h k x) (he : jN E t x i st pk = some (v, st')) : jN E t x i (more k st) pk = some (v, more k st) := by
  have hat : ∀ i, x.has1 i = true → atN (more k st).h i = atN st.h i := fun i hi => by
    obtain ⟨o, ho⟩ := zHU he hi
    rw [ho]; exact hk i hi o ho
  rw [zMX hat, zzs, he]
  rfl
theorem zMY {R : Type} {k : AV → St → Option R} {s s2 : St} {t : TypeId} {x : AV} {f : Nat} (hat : ∀ i, x.has1 i = true → atN s.h i = atN s2.h i) : jO E t x f s k = jO E t x f s2 (fun v _ => k v s) := by
  unfold jO
  cases x with
  | bp id p =>
    have hh : atN s.h id = atN s2.h id := hat id (Nat.beq_refl _)
    first | (simp only [hh]; done) | (simp only [hh]; rfl)
  | rp id i' p =>
    have hh : atN s.h id = atN s2.h id := hat id (Nat.beq_refl _)
    first | (simp only [hh]; done) | (simp only [hh]; rfl)
  | dp id i' p j' q =>
    have hh : atN s.h id = atN s2.h id := hat id (Nat.beq_refl _)
    first | (simp only [hh]; done) | (simp only [hh]; rfl)
  | dat τ y => cases τ with
    | ptr a => cases a <;> rfl
    | _ => rfl
  | _ => rfl
theorem zHV {t : TypeId} {x : AV} {f : Nat} (he : jO E t x f st pk = some (v, st')) {i0 : Nat} (hx : x.has1 i0 = true) : ∃ o, atN st.h i0 = some o := by
  cases ho : atN st.h i0 with
  | some o => exact ⟨o, rfl⟩
  | none =>
    exfalso
    unfold jO at he
    cases x with
    | bp id p =>
      obtain rfl : id = i0 := Nat.eq_of_beq_eq_true hx
      first | (cases he; done) | (simp only [ho] at he; cases he)
    | rp id i' p =>
      obtain rfl : id = i0 := Nat.eq_of_beq_eq_true hx
      first | (cases he; done) | (simp only [ho] at he; cases he)
    | dp id i' p j' q =>
      obtain rfl : id = i0 := Nat.eq_of_beq_eq_true hx
      first | (cases he; done) | (simp only [ho] at he; cases he)
    | ds id i' p =>
      obtain rfl : id = i0 := Nat.eq_of_beq_eq_true hx
      first | (cases he; done) | (simp only [ho] at he; cases he)
    | ow id =>
      obtain rfl : id = i0 := Nat.eq_of_beq_eq_true hx
      first | (cases he; done) | (simp only [ho] at he; cases he)
    | om id =>
      obtain rfl : id = i0 := Nat.eq_of_beq_eq_true hx
      first | (cases he; done) | (simp only [ho] at he; cases he)
    | _ => cases hx
theorem zI8 {t : TypeId} {x : AV} {f : Nat} (hk : zrn st.h k x) (he : jO E t x f st pk = some (v, st')) : jO E t x f (more k st) pk = some (v, more k st) := by
  have hat : ∀ i, x.has1 i = true → atN (more k st).h i = atN st.h i := fun i hi => by
    obtain ⟨o, ho⟩ := zHV he hi
    rw [ho]; exact hk i hi o ho
  rw [zMY hat, zzt, he]
  rfl
theorem zV9 {R : Type} {k : AV → St → Option R} {s s2 : St} {t : TypeId} {x : AV} (hat : ∀ i, x.has1 i = true → atN s.h i = atN s2.h i) : zfW E t x s k = zfW E t x s2 (fun v _ => k v s) := by
  unfold zfW
  cases x with
  | ds id i' p =>
    have hh : atN s.h id = atN s2.h id := hat id (Nat.beq_refl _)
    first | (simp only [hh]; done) | (simp only [hh]; rfl)
  | ow id =>
    have hh : atN s.h id = atN s2.h id := hat id (Nat.beq_refl _)
    first | (simp only [hh]; done) | (simp only [hh]; rfl)
  | om id =>
    have hh : atN s.h id = atN s2.h id := hat id (Nat.beq_refl _)
    first | (simp only [hh]; done) | (simp only [hh]; rfl)
  | dat τ y => cases τ <;> rfl
  | _ => rfl
theorem zSl {t : TypeId} {x : AV} (he : zfW E t x st pk = some (v, st')) {i0 : Nat} (hx : x.has1 i0 = true) : ∃ o, atN st.h i0 = some o := by
  cases ho : atN st.h i0 with
  | some o => exact ⟨o, rfl⟩
  | none =>
    exfalso
    unfold zfW at he
    cases x with
    | bp id p =>
      obtain rfl : id = i0 := Nat.eq_of_beq_eq_true hx
      first | (cases he; done) | (simp only [ho] at he; cases he)
    | rp id i' p =>
      obtain rfl : id = i0 := Nat.eq_of_beq_eq_true hx
      first | (cases he; done) | (simp only [ho] at he; cases he)
    | dp id i' p j' q =>
      obtain rfl : id = i0 := Nat.eq_of_beq_eq_true hx
      first | (cases he; done) | (simp only [ho] at he; cases he)
    | ds id i' p =>
      obtain rfl : id = i0 := Nat.eq_of_beq_eq_true hx
      first | (cases he; done) | (simp only [ho] at he; cases he)
    | ow id =>
      obtain rfl : id = i0 := Nat.eq_of_beq_eq_true hx
      first | (cases he; done) | (simp only [ho] at he; cases he)
    | om id =>
      obtain rfl : id = i0 := Nat.eq_of_beq_eq_true hx
      first | (cases he; done) | (simp only [ho] at he; cases he)
    | _ => cases hx
theorem zTZ {t : TypeId} {x : AV} (hk : zrn st.h k x) (he : zfW E t x st pk = some (v, st')) : zfW E t x (more k st) pk = some (v, more k st) := by
  have hat : ∀ i, x.has1 i = true → atN (more k st).h i = atN st.h i := fun i hi => by
    obtain ⟨o, ho⟩ := zSl he hi
    rw [ho]; exact hk i hi o ho
  rw [zV9 hat, zN4, he]
  rfl
theorem zOH {t : TypeId} {x i : AV} {ok : Bool} (hk : zrn st.h k x) (he : zcn E t x i ok st pk = some (v, st')) : zcn E t x i ok (more k st) pk = some (v, more k st) := by
  unfold zcn at he ⊢
  split at he
  · split at he
    · rename_i ho
      split at he
      · split at he
        · rename_i hc
          obtain ⟨h1, h2⟩ := zd he
          simp only [show atN (more k st).h _ = _ from hk _ (Nat.beq_refl _) _ ho, hc, h1, cond_true]
          cases ok with
          | false => exact zXr h2
          | true => cases h2; rfl
        · cases he
      · cases he
    · cases he
  · cases he
theorem zSm {nil : Bool} {op : BinOp} {t : TypeId} {x y : AV} {st2 : St} (he : zhV nil E op t x y st pk = some (v, st')) : zhV nil E op t x y st2 pk = some (v, st2) := by
  have hst : ∀ {R : Type} {s s2 : St} {k : AV → St → Option R}, zhV nil E op t x y s k = zhV nil E op t x y s2 (fun v _ => k v s) := rfl
  rw [hst (s2 := st), zKB, he]
  rfl
theorem zOm {q : Bool} {op : Op} {ty : TypeId} (hs : zic op = true) (hk : ∀ x θ v, x ∈ op.operands → rd E st θ x = some v → zrn st.h k v) (he : zba q E op ty st pk = some (v, st')) : zba q E op ty (more k st) pk = some (v, more k st) := by
  have hrd : ∀ θ x, rd E (more k st) θ x = rd E st θ x := fun θ x => by cases x <;> rfl
  cases op <;> (try (simp only [zic] at hs; cases hs; done)) <;> simp only [zba, hrd] at he ⊢
  case load t x =>
    split at he
    · rename_i hx; exact zSk (hk _ _ _ (by simp [Op.operands]) hx) he
    · cases he
  case nilCheck x =>
    split at he
    · obtain ⟨y, rfl, he⟩ := Option.bind_eq_some_iff.1 he
      cases he; rfl
    · obtain ⟨y, rfl, he⟩ := Option.bind_eq_some_iff.1 he
      cases he; rfl
    · rename_i hx
      obtain ⟨h1, h2⟩ := zd he
      cases h2
      simp only [show live (more k st).h _ = true from zQo (hk _ _ _ (by simp [Op.operands]) hx _ (Nat.beq_refl _)) h1, cond_true]
    · rename_i hx
      obtain ⟨h1, h2⟩ := zd he
      cases h2
      simp only [show live (more k st).h _ = true from zQo (hk _ _ _ (by simp [Op.operands]) hx _ (Nat.beq_refl _)) h1, cond_true]
    · rename_i hx
      split at he
      · rename_i ho
        cases he
        simp only [show atN (more k st).h _ = _ from hk _ _ _ (by simp [Op.operands]) hx _ (Nat.beq_refl _) _ ho]
      · cases he
    · cases he
  case binOp op t x y ty' =>
    split at he
    · exact zSm he
    · cases he
  case fieldAddr t x f =>
    split at he
    · rename_i hx; exact zI8 (hk _ _ _ (by simp [Op.operands]) hx) he
    · cases he
  case indexAddr t x i =>
    split at he
    · rename_i hx _; exact zI7 (hk _ _ _ (by simp [Op.operands]) hx) he
    · cases he
  case lookup t x i ok =>
    split at he
    · rename_i hx _; exact zOH (hk _ _ _ (by simp [Op.operands]) hx) he
    · cases he
  case call c =>
    obtain ⟨callee, args, argTypes⟩ := c
    simp only [zic] at hs
    split at hs
    · rw [zKZ] at he ⊢
      simp only [hrd] at he ⊢
      split at he
      · split at he
        · rename_i hx
          exact zTZ (hk _ _ _ (by
            rename_i e1 _ _ _
            simp only [Op.operands, Call.operands]
            have : args = #[_] := Array.toList_inj.1 e1
            simp [this]) hx) he
        · cases he
      · cases he
    · cases hs
end
end Go.Ev
end
section
namespace Go.Ev
open Go.RowKit
set_option linter.unusedSimpArgs false
set_option linter.unusedVariables false
section
variable {P : Program} {nt : Nat} {F0 F G : FH} {w0 w : World} {st st' : St} {m : MM} {a : Act} {E : Env} {v : AV} {u : Value} {R : Type}
def Inv (P : Program) (nt : Nat) (F0 : FH) (w0 : World) (st : St) (a : Act) (w : World) : Prop := ∃ m F, Rel P nt F0 w0 st m F a w
theorem zwl {ops : Array Oper} {o : Oper} {b : Bool} (h : Rel P nt F0 w0 st m F a w) (hg : zjm ops.toList st.fr o = some b) : Region.wanted o (yielded ops a.tmps) = b := by
  unfold zjm at hg
  unfold Region.wanted
  cases hgd : o.guard with
  | none => rw [hgd] at hg; simpa using hg
  | some gw =>
    obtain ⟨g, want⟩ := gw
    rw [hgd] at hg
    simp only at hg ⊢
    have hd : zzo ops.toList g = (ops[g]?).bind (·.dst) := by unfold zzo; rw [qs, Array.getElem?_toList]
    rw [hd] at hg
    unfold yielded
    cases ht : (ops[g]?).bind (·.dst) with
    | none => rw [ht] at hg; cases hg
    | some d =>
      rw [ht] at hg
      simp only [Option.bind_some] at hg ⊢
      cases hl : look st.fr d with
      | none => rw [hl] at hg; cases hg
      | some x =>
        rw [hl] at hg
        have hr := h.fr d x hl
        split at hg
        · rename_i y hy
          cases hy
          cases hg
          have := ze.bool (st := st) hr
          cases hT : a.tmps[d]? with
          | none => simp [hT, undef] at this
          | some z => simp [hT] at this; subst this; simp
        · rename_i hy
          cases hy
          cases hg
          obtain ⟨arr, e, _⟩ := hr
          cases hT : a.tmps[d]? with
          | none => simp
          | some z => simp [hT] at e; subst e; simp
        · cases hg
theorem zK0 {o : Oper} (h : zKv E o = true) : ∀ d, o.dst = some d → d < E.nt := by
  intro d hd
  unfold zKv at h
  rw [hd] at h
  simp only [Nat.blt_eq] at h
  exact h
theorem zVc {x y : Option R} {r : R} (h : both x y = some r) : x = some r ∧ y = some r := by
  unfold both at h
  split at h
  · rename_i e; exact ⟨h, e ▸ h⟩
  · cases h
theorem zVd (x : Option R) : both x x = x := by unfold both; rw [if_pos rfl]
theorem zVe {o : Oper} {k : AV → St → Option R} {r : R} (hE : zV P G E) (hG : G.le F0) (h : Rel P nt F0 w0 st m F a w) (he : zTt E o.op o.type st k = some r) :
    (∃ p, zba false E o.op o.type st pk = some p ∧ k p.1 p.2 = some r) ∨ ∃ b : Bool, (execOp a.eval o).run P w = .ok (.value (.bool b)) w ∧ k (.dat .bool b) st = some r := by
  obtain ⟨dst, op, ty, pos, after, guard⟩ := o
  simp only at he ⊢
  unfold zTt at he
  split at he
  · split at he
    · rename_i t X Y ty' _ _ τ xs hY hX
      right
      obtain ⟨h1, he⟩ := zd he
      have hr := zD hE hG h hX
      obtain ⟨e, hu, _⟩ := (hE.types t _ (Env.is_spec h1)).sl
      obtain ⟨ad, cap, hp, _, hm⟩ := hr.sl
      have hq : a.eval Y = .slice none 0 0 := zAD hY
      have hb : ∀ b : Bool, (ad.isNone = b) → (execOp a.eval ⟨dst, .binOp .eql t X Y ty', ty, pos, after, guard⟩).run P w = .ok (.value (.bool b)) w := by
        intro b hb
        simp only [execOp]
        refine z3 ?_
        rw [hp, hq]
        simp only [Sem.run_bind, vt .eql t X Y (p := .slice ad (List.length xs) cap) rfl, Result.andThen_ok]
        have h : ∀ k, (Op.equalIn (k + 1) t (.slice ad (List.length xs) cap) (.slice none 0 0)).run P w = .ok b w := fun k => by
          subst hb
          cases ad <;> simp [Op.equalIn, zi hu]
        have hrun : (Op.equal t (.slice ad (List.length xs) cap) (.slice none 0 0)).run P w = .ok b w := h 9999
        simp [binOp, hrun]
      cases hxs : List.isEmpty xs with
      | true =>
        rw [hxs] at he
        obtain ⟨e1, e2⟩ := zVc he
        refine ⟨ad.isNone, hb _ rfl, ?_⟩
        cases ad.isNone
        · exact e2
        · exact e1
      | false =>
        rw [hxs] at he
        obtain ⟨d, cc, rfl, _⟩ := hm (by rintro rfl; simp at hxs)
        exact ⟨false, hb _ rfl, he⟩
    · left
      rw [zmH] at he
      exact Option.bind_eq_some_iff.1 he
  · left
    rw [zmH] at he
    exact Option.bind_eq_some_iff.1 he
theorem zVf {ops : Array Oper} {Q : Exit → Act → World → Prop} {k : St → Option R} {r : R} (hE : zV P G E) (hG : G.le F0) (hnt : E.nt = nt)
    (hQ : ∀ st a w, Inv P nt F0 w0 st a w → k st = some r → Q .normal a w) :
    ∀ (rest pre : List Oper) (st : St) (a : Act) (w : World), ops.toList = pre ++ rest → Inv P nt F0 w0 st a w → zKw E ops.toList rest st k = some r → wpOps P ops Q (List.range' pre.length rest.length) a w := by
  intro rest
  induction rest with
  | nil => intro pre st a w _ hi he; exact hQ st a w hi he
  | cons o rest ih =>
    intro pre st a w hp ⟨m, F, h⟩ he
    have hget : ops[pre.length]? = some o := by rw [← Array.getElem?_toList, hp]; simp
    simp only [zKw] at he
    obtain ⟨hd, he⟩ := zd he
    have hd' : ∀ d, o.dst = some d → d < nt := fun d h => hnt ▸ zK0 hd d h
    cases hg : zjm ops.toList st.fr o with
    | none => rw [hg] at he; cases he
    | some b =>
      rw [hg] at he
      have hw := zwl h hg
      simp only [List.length_cons, List.range'_succ]
      unfold wpOps
      simp only [hget, hw]
      have hnext := ih (pre ++ [o])
      simp only [List.length_append, List.length_cons, List.length_nil, List.append_assoc, List.singleton_append] at hnext
      cases b with
      | false =>
        simp only [Bool.false_eq_true, if_false]
        exact hnext _ _ _ hp ⟨m, F, h.put hd' yY⟩ he
      | true =>
        simp only [if_true]
        left
        simp only [cond_true] at he
        rcases zVe hE hG h he with ⟨⟨v, st'⟩, h1, h2⟩ | ⟨b, h1, h2⟩
        · refine zI4 hE hG h h1 _ _ ?_
          rintro u w' ⟨m', F', _, h3, h4⟩
          exact hnext _ _ _ hp ⟨m', F', h3.put hd' h4⟩ h2
        · refine qy.val (R := fun u' w' => u' = .bool b ∧ w' = w) h1 ⟨rfl, rfl⟩ _ _ ?_
          rintro u' w' ⟨rfl, rfl⟩
          exact hnext _ _ _ hp ⟨m, F, h.put (v := .dat .bool b) hd' (show z6 P F .bool b (.bool b) from ⟨rfl, rfl⟩)⟩ h2
end
end Go.Ev
end
section
namespace Go.Ev
open Go.RowKit
set_option linter.unusedSimpArgs false
set_option linter.unusedVariables false
section
variable {R : Type} {E : Env}
def zK1 (E : Env) (all : List Oper) (s s1 : St) (o : Oper) (v : AV) (d : Did) : Prop :=
  zKv E o = true ∧ s1.fr = (s.put o.dst v).fr ∧
  ((zjm all s.fr o = some false ∧ v = .tup [] ∧ s1.h = s.h ∧ d.rd = false ∧ d.wr = false ∧ d.ch = false) ∨
   (zjm all s.fr o = some true ∧
    ((∃ fr' v0 st', zkj s (zhW o) = (fr', true, d.rd) ∧ zba false E o.op o.type ⟨fr', []⟩ pk = some (v0, st') ∧ v = v0.shT s.h.length ∧ s1.h = s.h ++ st'.h.map (Obj.sh s.h.length) ∧ d.wr = !isNil st'.h ∧ d.ch = false ∧ d.lk = zoH s o) ∨
     (∃ st', zic o.op = true ∧ zba false E o.op o.type s pk = some (v, st') ∧ s1.h = st'.h ∧ d.rd = true ∧ d.wr = false ∧ d.ch = false ∧ d.lk = zoH s o) ∨
     (∃ st', zba false E o.op o.type s pk = some (v, st') ∧ s1.h = st'.h ∧ d.rd = true ∧ d.wr = true ∧ d.ch = true ∧ d.cg = zMJ E s o.op) ∨
     (∃ a vs z, zPO E o.op s = some (a, vs, z) ∧ v = .fld a vs ∧ s1.h = s.h ++ z ∧ d.rd = true ∧ d.wr = !isNil z ∧ d.ch = false ∧ d.lk = zoH s o))))
def Apt (e d : Did) : Prop := (e.ch = true → d.wr = false ∧ (d.rd = true → apart e.cg d.lk = true)) ∧ (d.ch = true → e.wr = false ∧ (e.rd = true → apart d.cg e.lk = true))
def Ok (bs : List Nat) (e d : Did) : Prop := Nat.testBit ((atN bs d.i).getD 0) e.i = true ∨ Apt e d
theorem zkq {bj : Nat} {d : Did} : ∀ {l : List Did}, zzq bj d l = true → ∀ e ∈ l, Nat.testBit bj e.i = true ∨ Apt e d
  | [], _, e, he => by simp at he
  | x :: l, h, e, he => by
    simp only [zzq] at h
    cases hb : Nat.testBit bj x.i with
    | true =>
      rw [hb] at h
      rcases List.mem_cons.1 he with rfl | he
      · exact .inl hb
      · exact zkq h e he
    | false =>
      rw [hb] at h
      simp only [cond_false] at h
      cases h1 : (x.ch && (d.wr || (d.rd && !apart x.cg d.lk))) with
      | true => rw [h1] at h; cases h
      | false =>
        rw [h1] at h
        simp only [cond_false] at h
        cases h2 : (d.ch && (x.wr || (x.rd && !apart d.cg x.lk))) with
        | true => rw [h2] at h; cases h
        | false =>
          rw [h2] at h
          rcases List.mem_cons.1 he with rfl | he
          · refine .inr ⟨fun hx => ?_, fun hx => ?_⟩
            · rw [hx] at h1
              simp only [Bool.true_and, Bool.or_eq_false_iff, Bool.and_eq_false_iff, Bool.not_eq_false'] at h1
              exact ⟨h1.1, fun hr => by rw [hr] at h1; simpa using h1.2⟩
            · rw [hx] at h2
              simp only [Bool.true_and, Bool.or_eq_false_iff, Bool.and_eq_false_iff, Bool.not_eq_false'] at h2
              exact ⟨h2.1, fun hr => by rw [hr] at h2; simpa using h2.2⟩
          · exact zkq h e he
theorem Apt.idle {e d : Did} (h1 : d.rd = false) (h2 : d.wr = false) (h3 : d.ch = false) : Apt e d := ⟨fun _ => ⟨h2, fun h => (by rw [h1] at h; cases h)⟩, fun h => (by rw [h3] at h; cases h)⟩
theorem Apt.idle' {e d : Did} (h1 : d.rd = false) (h2 : d.wr = false) (h3 : d.ch = false) : Apt d e := ⟨fun h => (by rw [h3] at h; cases h), fun _ => ⟨h2, fun h => (by rw [h1] at h; cases h)⟩⟩
theorem zOn {all : List Oper} {bs : List Nat} {k : St → Option R} {r : R} : ∀ (rest : List Oper) (j : Nat) (seen : List Did) (st : St), evD E all bs rest j seen st k = some r →
    ∃ (S : Nat → St) (V : Nat → AV) (D : Nat → Did), S j = st ∧ k (S (j + rest.length)) = some r ∧ (∀ i, (D i).i = i) ∧
      (∀ i o, rest[i]? = some o → zK1 E all (S (j + i)) (S (j + i + 1)) o (V (j + i)) (D (j + i))) ∧
      (∀ i, i < rest.length → ∀ e ∈ seen, Ok bs e (D (j + i))) ∧
      (∀ i i', i < i' → i' < rest.length → Ok bs (D (j + i)) (D (j + i')))
  | [], j, seen, st, h => ⟨fun _ => st, fun _ => .dead, fun i => ⟨i, false, false, false, [], none⟩, rfl, h, fun _ => rfl, by simp, by simp, by simp⟩
  | o :: rest, j, seen, st, h => by
    have key : ∀ (s1 : St) (v : AV) (d : Did) (seen' : List Did), zK1 E all st s1 o v d → d.i = j → (∀ e ∈ seen, Ok bs e d) → (seen' = d :: seen ∨ (seen' = seen ∧ d.rd = false ∧ d.wr = false ∧ d.ch = false)) → evD E all bs rest (j + 1) seen' s1 k = some r →
        ∃ (S : Nat → St) (V : Nat → AV) (D : Nat → Did), S j = st ∧ k (S (j + (o :: rest).length)) = some r ∧ (∀ i, (D i).i = i) ∧
          (∀ i o', (o :: rest)[i]? = some o' → zK1 E all (S (j + i)) (S (j + i + 1)) o' (V (j + i)) (D (j + i))) ∧
          (∀ i, i < (o :: rest).length → ∀ e ∈ seen, Ok bs e (D (j + i))) ∧
          (∀ i i', i < i' → i' < (o :: rest).length → Ok bs (D (j + i)) (D (j + i'))) := by
      intro s1 v d seen' hs hd ho hse he
      obtain ⟨S, V, D, h1, h2, h3, h4, h5, h6⟩ := zOn rest (j + 1) seen' s1 he
      have hne : ∀ i, j + 1 + i ≠ j := fun i => by omega
      have hS : ∀ i, (if j + (i + 1) = j then st else S (j + (i + 1))) = S (j + 1 + i) := fun i => by rw [if_neg (by omega), show j + (i + 1) = j + 1 + i by omega]
      have hV : ∀ i, (if j + (i + 1) = j then v else V (j + (i + 1))) = V (j + 1 + i) := fun i => by rw [if_neg (by omega), show j + (i + 1) = j + 1 + i by omega]
      have hD : ∀ i, (if j + (i + 1) = j then d else D (j + (i + 1))) = D (j + 1 + i) := fun i => by rw [if_neg (by omega), show j + (i + 1) = j + 1 + i by omega]
      refine ⟨fun i => if i = j then st else S i, fun i => if i = j then v else V i, fun i => if i = j then d else D i, by simp, ?_, ?_, ?_, ?_, ?_⟩
      · simp only [List.length_cons, hS]; exact h2
      · intro i
        by_cases e : i = j
        · subst e; simp [hd]
        · simp [e, h3]
      · intro i o' hi
        cases i with
        | zero =>
          simp only [List.getElem?_cons_zero, Option.some.injEq] at hi
          subst hi
          simp only [Nat.add_zero, if_true]
          rw [if_neg (by omega), h1]
          exact hs
        | succ i =>
          rw [List.getElem?_cons_succ] at hi
          have := h4 i o' hi
          simp only [hS, hV, hD]
          rw [if_neg (by omega), show j + (i + 1) + 1 = j + 1 + i + 1 by omega]
          exact this
      · intro i hi e hes
        cases i with
        | zero => simp only [Nat.add_zero, if_true]; exact ho e hes
        | succ i =>
          simp only [hD]
          refine h5 i (by simpa using hi) e ?_
          rcases hse with rfl | ⟨rfl, _⟩
          · exact List.mem_cons_of_mem _ hes
          · exact hes
      · intro i i' hii hi'
        cases i' with
        | zero => omega
        | succ i' =>
          simp only [hD]
          cases i with
          | zero =>
            simp only [Nat.add_zero, if_true]
            rcases hse with rfl | ⟨_, g1, g2, g3⟩
            · exact h5 i' (by simpa using hi') d (by simp)
            · exact .inr (Apt.idle' g1 g2 g3)
          | succ i =>
            simp only [hD]
            exact h6 i i' (by omega) (by simpa using hi')
    simp only [evD] at h
    obtain ⟨hdst, h⟩ := zd h
    cases hg : zjm all st.fr o with
    | none => rw [hg] at h; cases h
    | some b =>
      rw [hg] at h
      simp only at h
      cases b with
      | false =>
        simp only [cond_false] at h
        refine key _ (.tup []) ⟨j, false, false, false, [], none⟩ seen ⟨hdst, rfl, .inl ⟨hg, rfl, ?_, rfl, rfl, rfl⟩⟩ rfl (fun e _ => .inr (Apt.idle rfl rfl rfl)) (.inr ⟨rfl, rfl, rfl, rfl⟩) h
        cases o.dst <;> rfl
      | true =>
        simp only [cond_true] at h
        cases hpu : (zkj st (zhW o)).2.1 with
        | true =>
          rw [hpu] at h
          simp only [cond_true] at h
          rw [zmH] at h
          obtain ⟨⟨v0, st'⟩, h1, h2⟩ := Option.bind_eq_some_iff.1 h
          obtain ⟨h3, h4⟩ := zd h2
          have hord := zkq h3
          refine key _ (v0.shT st.h.length) ⟨j, (zkj st (zhW o)).2.2, !isNil st'.h, false, zoH st o, none⟩ _ ⟨hdst, ?_, .inr ⟨hg, .inl ⟨(zkj st (zhW o)).1, v0, st', by rw [← hpu], h1, rfl, ?_, rfl, rfl, rfl⟩⟩⟩ rfl hord (.inl rfl) h4
          · cases o.dst <;> rfl
          · cases o.dst <;> rfl
        | false =>
          rw [hpu] at h
          simp only [cond_false] at h
          cases hb : zPO E o.op st with
          | some q =>
            obtain ⟨a, vs, z⟩ := q
            rw [hb] at h
            simp only at h
            obtain ⟨h3, h⟩ := zd h
            have hord := zkq h3
            refine key _ (.fld a vs) ⟨j, true, !isNil z, false, zoH st o, none⟩ _ ⟨hdst, ?_, .inr ⟨hg, .inr (.inr (.inr ⟨a, vs, z, hb, rfl, ?_, rfl, rfl, rfl, rfl⟩))⟩⟩ rfl hord (.inl rfl) h
            · cases o.dst <;> rfl
            · cases o.dst <;> rfl
          | none =>
          rw [hb] at h
          simp only at h
          cases hs : zic o.op with
          | true =>
            rw [hs] at h
            simp only [cond_true] at h
            obtain ⟨h3, h⟩ := zd h
            have hord := zkq h3
            rw [zmH] at h
            obtain ⟨⟨v0, st'⟩, h1, h2⟩ := Option.bind_eq_some_iff.1 h
            have hf := zKY h1
            refine key _ v0 ⟨j, true, false, false, zoH st o, none⟩ _ ⟨hdst, ?_, .inr ⟨hg, .inr (.inl ⟨st', hs, h1, ?_, rfl, rfl, rfl, rfl⟩)⟩⟩ rfl hord (.inl rfl) h2
            · cases o.dst <;> simp [St.put, hf]
            · cases o.dst <;> rfl
          | false =>
            rw [hs] at h
            simp only [cond_false] at h
            obtain ⟨h3, h⟩ := zd h
            have hord := zkq h3
            rw [zmH] at h
            obtain ⟨⟨v0, st'⟩, h1, h2⟩ := Option.bind_eq_some_iff.1 h
            have hf := zKY h1
            refine key _ v0 ⟨j, true, true, true, [], zMJ E st o.op⟩ _ ⟨hdst, ?_, .inr ⟨hg, .inr (.inr (.inl ⟨st', h1, ?_, rfl, rfl, rfl, rfl⟩))⟩⟩ rfl hord (.inl rfl) h2
            · cases o.dst <;> simp [St.put, hf]
            · cases o.dst <;> rfl
theorem zVg {x : Nat} {u : Obj} : ∀ {b : Ty} {vs : List AV} {h : List Obj} {r : b.I × List Obj}, zMH b vs h = some r → atN h x = some u → x ∉ vs.flatMap AV.ids1 → atN r.2 x = some u := by
  intro b
  induction b with
  | unit => intro vs h r hz hx _; cases vs with
    | nil => cases hz; exact hx
    | cons _ _ => cases hz
  | pair a b _ ihb =>
    intro vs h r hz hx hn
    cases vs with
    | nil => cases hz
    | cons v vs =>
      simp only [zMH] at hz
      split at hz
      · rename_i y h1 hy
        split at hz
        · rename_i ys h2 hys
          cases hz
          simp only [List.flatMap_cons, List.mem_append, not_or] at hn
          refine ihb hys ?_ hn.2
          unfold zFT at hy
          split at hy
          · obtain ⟨_, hy⟩ := zbP hy
            split at hy
            · cases hy; exact hx
            · cases hy
          · rename_i id
            split at hy
            · split at hy
              · cases hy
                have : id ≠ x := fun e => hn.1 (by simp [AV.ids1, e])
                rw [qY this]; exact hx
              · cases hy
            · cases hy
          · cases hy
        · cases hz
      · cases hz
  | _ => intro vs h r hz; cases vs <;> cases hz
theorem zVh {x : Nat} {u : Obj} {σ : Ty} {v : AV} {h : List Obj} {r : σ.I × List Obj} (hz : zIX σ v h = some r) (hx : atN h x = some u) (hn : x ∉ v.ids) : atN r.2 x = some u := by
  unfold zIX at hz
  split at hz
  · rename_i a b vs
    obtain ⟨_, hz⟩ := zd hz
    exact zVg (b := a) (r := r) hz hx hn
  · rename_i τ id
    unfold zFT at hz
    simp only at hz
    split at hz
    · split at hz
      · cases hz
        have : id ≠ x := fun e => hn (by simp [AV.ids, AV.ids1, e])
        rw [qY this]; exact hx
      · cases hz
    · cases hz
  · cases hz
theorem zWQ {s st' : St} {op : Op} {ty : TypeId} {v : AV} {l : List Nat} (hc : zMJ E s op = some l) (he : zba false E op ty s pk = some (v, st')) {x : Nat} {u : Obj} (hx : atN s.h x = some u) (hn : x ∉ l) : atN st'.h x = some u := by
  unfold zMJ at hc
  split at hc
  · rename_i t ps
    split at hc
    · rename_i τ hτ
      split at hc
      · rename_i w hps
        split at hc
        · rename_i r hr
          cases hc
          simp only [zba, hτ, hps, hr] at he
          obtain ⟨_, he⟩ := zd he
          cases he
          simp only
          refine zv6 ?_
          unfold zKu at hr
          split at hr
          · rename_i heq
            cases heq
            exact zVh hr hx hn
          · cases hr
        · cases hc
      · cases hc
    · cases hc
  · cases hc
theorem zVi {acc : List Nat} : ∀ {es : List Edge} {i : Nat}, Nat.testBit (zTu acc es) i = true → ∃ e ∈ es, Region.binds .any e = true ∧ (e.on = i ∨ ∃ b, atN acc e.on = some b ∧ Nat.testBit b i = true) := by
  have key : ∀ (es : List Edge) (s i : Nat), Nat.testBit (es.foldl (fun s e => cond (Region.binds .any e) ((s ||| 2 ^ e.on) ||| (atN acc e.on).getD 0) s) s) i = true → Nat.testBit s i = true ∨ ∃ e ∈ es, Region.binds .any e = true ∧ (e.on = i ∨ ∃ b, atN acc e.on = some b ∧ Nat.testBit b i = true) := by
    intro es
    induction es with
    | nil => intro s i h; exact .inl h
    | cons e es ih =>
      intro s i h
      rw [List.foldl_cons] at h
      rcases ih _ _ h with h1 | ⟨e', he', h1⟩
      · cases hb : Region.binds .any e with
        | false => rw [hb] at h1; exact .inl h1
        | true =>
          rw [hb] at h1
          simp only [cond_true, Nat.testBit_or, Bool.or_eq_true] at h1
          rcases h1 with (h1 | h1) | h1
          · exact .inl h1
          · rw [Nat.testBit_two_pow] at h1
            exact .inr ⟨e, by simp, hb, .inl (by simpa using h1)⟩
          · cases ha : atN acc e.on with
            | none => rw [ha] at h1; simp at h1
            | some b => rw [ha] at h1; exact .inr ⟨e, by simp, hb, .inr ⟨b, ha, h1⟩⟩
      · exact .inr ⟨e', by simp [he'], h1⟩
  intro es i h
  rcases key es 0 i h with h1 | h1
  · simp at h1
  · exact h1
theorem zT0 : ∀ (l : List Oper) (acc : List Nat) (j : Nat) (o : Oper), l[j]? = some o → ∃ acc', atN (zsS l acc) (acc.length + j) = some (zTu acc' o.after.toList) ∧ ∀ x b, atN acc' x = some b → atN (zsS l acc) x = some b := by
  have pre : ∀ (l : List Oper) (acc : List Nat) (x b : Nat), atN acc x = some b → atN (zsS l acc) x = some b := by
    intro l
    induction l with
    | nil => intro acc x b h; exact h
    | cons o l ih => intro acc x b h; exact ih _ _ _ (zv6 h)
  intro l
  induction l with
  | nil => intro acc j o h; simp at h
  | cons u l ih =>
    intro acc j o h
    cases j with
    | zero =>
      simp only [List.getElem?_cons_zero, Option.some.injEq] at h
      subst h
      refine ⟨acc, ?_, fun x b hx => pre l _ x b (zv6 hx)⟩
      refine pre l _ _ _ ?_
      rw [qs]; simp
    | succ j =>
      rw [List.getElem?_cons_succ] at h
      obtain ⟨acc', h1, h2⟩ := ih (acc ++ [zTu acc u.after.toList]) j o h
      refine ⟨acc', ?_, h2⟩
      simp only [List.length_append, List.length_cons, List.length_nil] at h1
      rw [show acc.length + (j + 1) = acc.length + (0 + 1) + j by omega]
      exact h1
theorem zwm {t : Nat} : ∀ {l : List Nat}, zAy t l = true ↔ t ∈ l
  | [] => by simp [zAy]
  | x :: l => by
    simp only [zAy, List.mem_cons]
    by_cases e : x = t
    · subst e; simp [beq_self]
    · rw [zeJ e, cond_false, zwm]
      exact ⟨.inr, fun h => h.resolve_left fun h' => e h'.symm⟩
theorem zoJ {bj j : Nat} {o : Oper} : ∀ {l : List Oper} {i0 : Nat}, zv3 bj j o l i0 = true → ∀ i u d, l[i]? = some u → u.dst = some d → (i0 + i = j ∨ o.dst ≠ some d) ∧ (d ∈ zhW o → Nat.testBit bj (i0 + i) = true ∧ i0 + i < j)
  | [], _, _, i, u, d, hi, _ => by simp at hi
  | x :: l, i0, h, i, u, d, hi, hd => by
    simp only [zv3, Bool.and_eq_true] at h
    cases i with
    | zero =>
      simp only [List.getElem?_cons_zero, Option.some.injEq] at hi
      subst hi
      rw [hd] at h
      simp only [Bool.and_eq_true, Bool.or_eq_true, Bool.not_eq_true'] at h
      obtain ⟨⟨h1, h2⟩, _⟩ := h
      refine ⟨?_, fun hm => ?_⟩
      · rcases h1 with h1 | h1
        · exact .inl (Nat.eq_of_beq_eq_true h1)
        · right
          intro he
          rw [he] at h1
          simp [beq_self] at h1
      · rcases h2 with h2 | h2
        · rw [zwm.2 hm] at h2; cases h2
        · exact ⟨h2.1, by simpa using h2.2⟩
    | succ i =>
      rw [List.getElem?_cons_succ] at hi
      have := zoJ h.2 i u d hi hd
      rw [show i0 + (i + 1) = i0 + 1 + i by omega]
      exact this
theorem zsU {bs : List Nat} {all : List Oper} (h : zKx bs all = true) {j : Nat} {o : Oper} (hj : all[j]? = some o) :
    zv3 ((atN bs j).getD 0) j o all 0 = true ∧ (∀ g b, o.guard = some (g, b) → Nat.testBit ((atN bs j).getD 0) g = true ∧ g < j) ∧ ∀ e ∈ o.after.toList, Region.binds .any e = true → e.on < j := by
  have key : ∀ (l : List Oper) (j0 j : Nat) (o : Oper), zzp bs all l j0 = true → l[j]? = some o → zv3 ((atN bs (j0 + j)).getD 0) (j0 + j) o all 0 = true ∧ (∀ g b, o.guard = some (g, b) → Nat.testBit ((atN bs (j0 + j)).getD 0) g = true ∧ g < j0 + j) ∧ ∀ e ∈ o.after.toList, Region.binds .any e = true → e.on < j0 + j := by
    intro l
    induction l with
    | nil => intro j0 j o _ h; simp at h
    | cons x l ih =>
      intro j0 j o h hj
      simp only [zzp, Bool.and_eq_true] at h
      cases j with
      | zero =>
        simp only [List.getElem?_cons_zero, Option.some.injEq] at hj
        subst hj
        obtain ⟨⟨⟨h1, h2⟩, h3⟩, _⟩ := h
        refine ⟨h1, fun g b hg => ?_, fun e he hb => ?_⟩
        · rw [hg] at h2
          simp only [Bool.and_eq_true, Nat.blt_eq] at h2
          exact h2
        · have := List.all_eq_true.1 h3 e he
          simp only [hb, Bool.not_true, Bool.false_or, Nat.blt_eq] at this
          exact this
      | succ j =>
        rw [List.getElem?_cons_succ] at hj
        have := ih (j0 + 1) j o h.2 hj
        rw [show j0 + (j + 1) = j0 + 1 + j by omega]
        exact this
  have := key all 0 j o h hj
  simpa using this
end
end Go.Ev
end
section
namespace Go.Ev
open Go.RowKit
set_option linter.unusedSimpArgs false
set_option linter.unusedVariables false
section
variable {P : Program} {nt : Nat} {F0 F G : FH} {w0 w : World} {st st' : St} {m : MM} {a : Act} {E : Env} {v : AV} {u : Value} {R : Type}
theorem zK2 {τ : Ty} {x : τ.I} (hz : j7 true st v = some ⟨τ, x, st'⟩) (h : Rel P nt F0 w0 st m F a w) (hv : z7 P st.h m F v u) : z6 P F τ x u := by
  cases v with
  | dat τ' y =>
    simp only [j7, Option.some.injEq] at hz
    cases hz
    exact hv
  | clip τ' ys =>
    simp only [j7, Option.some.injEq] at hz
    cases hz
    obtain ⟨ad, rfl, h1⟩ := hv
    exact ⟨⟨ad, _, rfl, Nat.le_refl _, h1⟩, rfl⟩
  | ow id =>
    simp only [j7] at hz
    split at hz
    · rename_i σ xs ho
      cases hz
      have hu := z7.owAt ho rfl hv
      cases hmi : m id with
      | none =>
        rw [hmi] at hu
        obtain ⟨hl, ad, rfl⟩ := hu
        obtain rfl := List.length_eq_zero_iff.1 hl
        exact .sl_nil
      | some bn =>
        obtain ⟨b, n⟩ := bn
        rw [hmi] at hu
        obtain ⟨cap, hn, hcap, rfl⟩ := hu
        obtain ⟨el, fr, cs, c, d, h1, h2, h3, h4, h5⟩ := h.row ho hmi
        exact .sl_of_row h5 h3 h4 hcap
    · cases hz
    · cases hz
    · cases hz
  | bp id p =>
    cases p with
    | cons _ _ => simp [j7] at hz
    | nil =>
      simp only [j7] at hz
      split at hz
      · rename_i σ y ho
        cases hz
        obtain ⟨b, n, off, hmi, rfl, ρ, h3⟩ := (show ze P st.h m F (.bp id []) u from hv).bpAt ho
        simp only [qC, Option.some.injEq, Prod.mk.injEq] at h3
        obtain ⟨rfl, rfl⟩ := h3
        obtain ⟨b', n', el, fr, cs, h4, h5, h6, h7⟩ := h.obs id _ ho
        rw [hmi] at h4
        cases h4
        exact ⟨⟨_, _, rfl, ⟨rfl, cs, h7, fun j v hj => by rw [Nat.zero_add, ← Array.getElem?_toList]; exact hj⟩, h6⟩, rfl⟩
      · cases hz
      · cases hz
  | _ => simp [j7] at hz
theorem zWR {σ : Ty} {x : σ.I} {c : List Value} (hz : zcA true σ st v = some (x, st')) (h : Rel P nt F0 w0 st m F a w) (hv : zav P st.h m F σ v c) : Rep P F σ x c ∧ st' = st := by
  have hsame := (zIB (zrn.refl _ _) hz).2
  simp only at hsame
  unfold zcA at hz
  split at hz
  · rename_i τ y st1 hz1
    split at hz
    · rename_i z hc
      cases hz
      obtain ⟨rfl, rfl⟩ := zY hc
      refine ⟨?_, hsame⟩
      cases v with
      | dat τ' y' =>
        simp only [j7, Option.some.injEq] at hz1
        cases hz1
        exact hv.2
      | ow id =>
        obtain ⟨ρ, u, rfl, rfl, h1, _, ad, l, cc, rfl⟩ := hv
        have := (zK2 hz1 h h1).1
        simpa [Value.cells] using this
      | _ => exact hv.elim
    · cases hz
  · cases hz
theorem zWa : ∀ {b : Ty} {vs : List AV} {x : b.I} {cs : List Value} {st st' : St}, vo true b vs st = some (x, st') → Rel P nt F0 w0 st m F a w → qg P st.h m F b vs cs → Rep P F b x cs := by
  intro b
  induction b with
  | unit =>
    intro vs x cs st st' hz h hv
    cases vs with
    | nil => exact hv
    | cons _ _ => exact hv.elim
  | pair a b _ ihb =>
    intro vs x cs st st' hz h hv
    cases vs with
    | nil => exact hv.elim
    | cons v vs =>
      obtain ⟨c, d, e, h1, h2⟩ := hv
      simp only [vo] at hz
      split at hz
      · rename_i y st1 hy
        split at hz
        · rename_i ys st2 hys
          cases hz
          obtain ⟨g1, rfl⟩ := zWR hy h h1
          exact ⟨c, d, e, g1, ihb hys h h2⟩
        · cases hz
      · cases hz
  | _ => intro vs x cs st st' hz h hv; cases vs <;> exact hv.elim
theorem zXP {τ : Ty} {x : τ.I} (hz : frz true st v = some ⟨τ, x, st'⟩) (h : Rel P nt F0 w0 st m F a w) (hv : ze P st.h m F v u) : z6 P F τ x u := by
  cases v with
  | fld b vs =>
    simp only [frz] at hz
    split at hz
    · rename_i y st1 hy
      cases hz
      obtain ⟨cs, rfl, h1⟩ := (show zR P st.h m F (.fld b vs) u from hv)
      exact ⟨zWa (b := b) hy h h1, rfl⟩
    · cases hz
  | dat τ x => exact zK2 (v := .dat τ x) hz h hv
  | clip τ x => exact zK2 (v := .clip τ x) hz h hv
  | bp id p => exact zK2 (v := .bp id p) hz h hv
  | ow id => exact zK2 (v := .ow id) hz h hv
  | _ => cases hz
theorem zT1 {h k : List Obj} {fr : List (Nat × AV)} (hr : Rel P nt F0 w0 ⟨fr, k⟩ m F a w) (hs : Sup h k v) (hv : ze P k m F v u) : ze P k m F (zjn h v).1 u := by
  unfold zjn
  cases hp : v.pure with
  | true => exact hv
  | false =>
    simp only [cond_false]
    split
    · rename_i τ x s hz
      have h1 := (zV8 (st := ⟨[], h⟩) (k := k) hs hz).1
      exact zXP (st := ⟨[], k⟩) h1 (hr.frames (fr := []) (fun t v ht => by simp [look] at ht)) hv
    · exact hv
theorem zSn {h : List Obj} (hp : (zjn h v).2 = false) : (zjn h v).1 = v := by
  unfold zjn at hp ⊢
  cases hq : v.pure with
  | true => rfl
  | false =>
    rw [hq] at hp
    simp only [cond_false] at hp
    split at hp <;> cases hp
theorem zDo {s : St} : ∀ {l : List Nat} {fr' : List (Nat × AV)} {pu rs : Bool}, zkj s l = (fr', pu, rs) →
    ∀ t v', look fr' t = some v' → t ∈ l ∧ ∃ v, look s.fr t = some v ∧ v' = (zjn s.h v).1 ∧ (rs = false → v' = v) ∧ (pu = true → v'.pure = true)
  | [], _, _, _, h, t, v', ht => by cases h; simp [look] at ht
  | x :: l, fr', pu, rs, h, t, v', ht => by
    simp only [zkj] at h
    cases hx : look s.fr x with
    | none =>
      rw [hx] at h
      obtain ⟨h1, h2⟩ := zDo h t v' ht
      exact ⟨List.mem_cons_of_mem _ h1, h2⟩
    | some v =>
      rw [hx] at h
      simp only [Prod.mk.injEq] at h
      obtain ⟨rfl, rfl, rfl⟩ := h
      by_cases e : x = t
      · subst e
        simp only [look, beq_self, cond_true, Option.some.injEq] at ht
        subst ht
        refine ⟨by simp, v, hx, rfl, fun hr => ?_, fun hp => ?_⟩
        · simp only [Bool.or_eq_false_iff] at hr
          exact zSn hr.1
        · simp only [Bool.and_eq_true] at hp
          exact hp.1
      · simp only [look, zeJ e, cond_false] at ht
        obtain ⟨h1, v2, h2, h3, h4, h5⟩ := zDo (Prod.ext rfl (Prod.ext rfl rfl) : zkj s l = ((zkj s l).1, (zkj s l).2.1, (zkj s l).2.2)) t v' ht
        refine ⟨List.mem_cons_of_mem _ h1, v2, h2, h3, fun hr => h4 ?_, fun hp => h5 ?_⟩
        · simp only [Bool.or_eq_false_iff] at hr
          exact hr.2
        · simp only [Bool.and_eq_true] at hp
          exact hp.2
theorem ze.nowhere {h2 : List Obj} {m2 : MM} {n : Nat} (hv : ze P [] m F v u) : ze P h2 m2 F (v.shT n) u := by
  have key : ∀ {x : AV} {y : Value}, zR P [] m F x y → zR P h2 m2 F (x.sh n) y := by
    intro x y hx
    have one : ∀ {x : AV} {y : Value}, z7 P [] m F x y → z7 P h2 m2 F (x.sh1 n) y := by
      intro x y hx
      cases x with
      | dat τ z => exact hx
      | clip τ z => exact hx
      | dead => trivial
      | tup vs => exact hx.elim
      | fld b vs => exact hx.elim
      | bp id p => rcases hx with hg | ⟨b, n, o, off, h1, ho, _⟩ <;> simp_all [atN]
      | rp id i p => rcases hx with hg | ⟨b, n, o, τ, len, off, σ, h1, ho, _⟩ <;> simp_all [atN]
      | ow id => rcases hx with hg | ⟨o, τ, len, ho, _⟩ <;> simp_all [atN]
      | om id => rcases hx with hg | ⟨b, n, κ, σ, es, h1, ho, _⟩ <;> simp_all [atN]
      | ds id i p => obtain ⟨o, ho, _⟩ := hx; simp [atN] at ho
      | dp id i p j q => obtain ⟨o, ho, _⟩ := hx; simp [atN] at ho
    have zC7 : ∀ {b : Ty} {vs : List AV} {cs : List Value}, qg P [] m F b vs cs → qg P h2 m2 F b (vs.map (AV.sh1 n)) cs := by
      intro b
      induction b with
      | unit => intro vs cs hv; cases vs with
        | nil => exact hv
        | cons _ _ => exact hv.elim
      | pair a b _ ihb =>
        intro vs cs hv
        cases vs with
        | nil => exact hv.elim
        | cons v vs =>
          obtain ⟨c, d, e, h1, h2⟩ := hv
          refine ⟨c, d, e, ?_, ihb h2⟩
          cases v with
          | dat τ x => exact h1
          | ow id =>
            obtain ⟨σ, u, _, _, h3, _⟩ := h1
            rcases h3 with hg | ⟨o, τ, len, ho, _⟩
            · simp [atN] at hg
            · simp [atN] at ho
          | _ => exact h1.elim
      | _ => intro vs cs hv; cases vs <;> exact hv.elim
    cases x with
    | fld b vs => obtain ⟨cs, e, h1⟩ := hx; exact ⟨cs, e, zC7 h1⟩
    | tup vs => exact hx.elim
    | dat τ z => exact hx
    | clip τ z => exact hx
    | dead => trivial
    | bp id p => exact one (x := .bp id p) hx
    | rp id i p => exact one (x := .rp id i p) hx
    | ow id => exact one (x := .ow id) hx
    | om id => exact one (x := .om id) hx
    | ds id i p => exact one (x := .ds id i p) hx
    | dp id i p j q => exact one (x := .dp id i p j q) hx
  cases v with
  | tup vs =>
    obtain ⟨arr, e, h1, h3⟩ := hv
    refine ⟨arr, e, by simpa using h1, fun i x hx => ?_⟩
    rw [List.getElem?_map] at hx
    obtain ⟨y, hy, rfl⟩ := Option.map_eq_some_iff.1 hx
    obtain ⟨z, hz, hyz⟩ := h3 i y hy
    exact ⟨z, hz, key hyz⟩
  | _ =>
    rw [ze.eq1 (by intro vs e; cases e)] at hv
    exact ze.of1 (key hv)
def zsV (f : Nat → Bool) : Nat → Nat
  | 0 => 0
  | n + 1 => zsV f n + cond (f n) 0 1
theorem zOo {f : Nat → Bool} : ∀ {n : Nat}, zsV f n = 0 → ∀ i, i < n → f i = true
  | n + 1, h, i, hi => by
    simp only [zsV] at h
    by_cases e : i = n
    · subst e
      cases hf : f i with
      | true => rfl
      | false => rw [hf] at h; simp at h
    · exact zOo (n := n) (by omega) i (by omega)
theorem left_step {f g : Nat → Bool} {j : Nat} : ∀ {n : Nat}, f j = false → g j = true → (∀ i, i ≠ j → g i = f i) → zsV f n = zsV g n + (if j < n then 1 else 0)
  | 0, _, _, _ => by simp [zsV]
  | n + 1, h1, h2, h3 => by
    have ih := left_step (n := n) h1 h2 h3
    simp only [zsV]
    by_cases e : n = j
    · subst e
      simp only [h1, h2, cond_true, cond_false]
      simp at ih
      simp [ih]
    · rw [h3 n e, ih]
      by_cases h4 : j < n
      · have h5 : j < n + 1 := by omega
        simp only [if_pos h4, if_pos h5]
        generalize cond (f n) 0 1 = z
        omega
      · have h5 : ¬ j < n + 1 := by omega
        simp only [if_neg h4, if_neg h5]
        generalize cond (f n) 0 1 = z
        omega
theorem zOp {f : Nat → Bool} : ∀ {n : Nat}, (∀ i, i < n → f i = false) → zsV f n = n
  | 0, _ => rfl
  | n + 1, h => by
    have ih := zOp (n := n) (fun i hi => h i (by omega))
    simp only [zsV, ih, h n (by omega), cond_false]
theorem zT2 {q : Bool} {op : Op} {ty : TypeId} (hs : zic op = true) (he : zba q E op ty st pk = some (v, st')) : st' = st := by
  have := zOm (k := st.h) hs (fun x θ v _ _ => zrn.refl _ _) he
  rw [show more st.h st = st from rfl, he] at this
  cases this
  rfl
structure Hol (n : Nat) (S : Nat → St) (D : Nat → Did) (done : Nat → Bool) (c e : Nat) (H : List Obj) : Prop where
  ce : c ≤ e
  en : e ≤ n
  chg : ∀ i, i < n → (D i).ch = true → (done i = true ↔ i < c)
  quiet : ∀ i, c ≤ i → i < e → (D i).ch = false
  fst : c = 0 ∨ (0 < c ∧ (D (c - 1)).ch = true)
  lst : e = n ∨ (D e).ch = true
  len : H.length = (S e).h.length
  hol : ∀ i, c ≤ i → i < e → done i = false → ∀ x, (S i).h.length ≤ x → x < (S (i + 1)).h.length → atN H x = some .hole
  own : ∀ x o, atN (S e).h x = some o → (∀ i, c ≤ i → i < e → (S i).h.length ≤ x → x < (S (i + 1)).h.length → done i = true) → atN H x = some o
structure Mid (P : Program) (nt : Nat) (F0 : FH) (w0 : World) (all : List Oper) (bs : List Nat) (S : Nat → St) (V : Nat → AV) (D : Nat → Did) (done : Nat → Bool) (a : Act) (w : World) : Prop where
  down : ∀ j, j < all.length → done j = true → ∀ i, Nat.testBit ((atN bs j).getD 0) i = true → done i = true
  rel : ∃ c e H, Hol all.length S D done c e H ∧ ∃ fr m F, Rel P nt F0 w0 ⟨fr, H⟩ m F a w ∧
    (∀ (i : Nat) (o : Oper) (d : Nat), all[i]? = some o → done i = true → o.dst = some d → look fr d = some (V i)) ∧
    (∀ t, (∀ (i : Nat) (o : Oper), all[i]? = some o → o.dst ≠ some t) → look fr t = look (S 0).fr t)
structure Reg (E : Env) (all : List Oper) (bs : List Nat) (S : Nat → St) (V : Nat → AV) (D : Nat → Did) : Prop where
  data : zKx bs all = true
  bits : bs = zsS all []
  id : ∀ i, (D i).i = i
  step : ∀ i o, all[i]? = some o → zK1 E all (S i) (S (i + 1)) o (V i) (D i)
  ok : ∀ i i', i < i' → i' < all.length → Ok bs (D i) (D i')
section
variable {all : List Oper} {bs : List Nat} {S : Nat → St} {V : Nat → AV} {D : Nat → Did} {done : Nat → Bool}
theorem Reg.chwr (g : Reg E all bs S V D) {i : Nat} (hi : i < all.length) (hc : (D i).ch = true) : (D i).wr = true := by
  obtain ⟨_, _, h⟩ := g.step i all[i] (List.getElem?_eq_getElem hi)
  rcases h with ⟨_, _, _, _, _, h⟩ | ⟨_, ⟨_, _, _, _, _, _, _, _, h, _⟩ | ⟨_, _, _, _, _, _, h, _⟩ | ⟨_, _, _, _, h, _⟩ | ⟨_, _, _, _, _, _, _, _, h, _⟩⟩
  · rw [h] at hc; cases hc
  · rw [h] at hc; cases hc
  · rw [h] at hc; cases hc
  · exact h
  · rw [h] at hc; cases hc
theorem Reg.quiet (g : Reg E all bs S V D) {i : Nat} (hi : i < all.length) (hq : (D i).wr = false) : (S (i + 1)).h = (S i).h := by
  obtain ⟨_, _, h⟩ := g.step i all[i] (List.getElem?_eq_getElem hi)
  rcases h with ⟨_, _, h, _⟩ | ⟨_, ⟨_, _, st', _, _, _, h1, h2, _⟩ | ⟨st', h1, h2, h3, _⟩ | ⟨_, _, _, _, h, _⟩ | ⟨_, _, z, _, _, h1, _, h2, _⟩⟩
  · exact h
  · rw [h2] at hq
    cases hs : st'.h with
    | nil => rw [h1, hs]; simp
    | cons x l => rw [hs] at hq; cases hq
  · rw [h3, zT2 h1 h2]
  · rw [h] at hq; cases hq
  · rw [h2] at hq
    cases z with
    | nil => rw [h1]; simp
    | cons x l => cases hq
theorem Reg.grow (g : Reg E all bs S V D) {i : Nat} (hi : i < all.length) (hq : (D i).ch = false) : ∃ k, (S (i + 1)).h = (S i).h ++ k := by
  cases hw : (D i).wr with
  | false => exact ⟨[], by rw [g.quiet hi hw]; simp⟩
  | true =>
    obtain ⟨_, _, h⟩ := g.step i all[i] (List.getElem?_eq_getElem hi)
    rcases h with ⟨_, _, _, _, h, _⟩ | ⟨_, ⟨_, _, st', _, _, _, h1, h2, _⟩ | ⟨st', _, _, _, _, h, _⟩ | ⟨_, _, _, _, _, h, _⟩ | ⟨_, _, z, _, _, h1, _⟩⟩
    · rw [h] at hw; cases hw
    · exact ⟨_, h1⟩
    · rw [h] at hw; cases hw
    · rw [h] at hq; cases hq
    · exact ⟨_, h1⟩
theorem Reg.grows (g : Reg E all bs S V D) {j : Nat} : ∀ {c : Nat}, j ≤ c → c ≤ all.length → (∀ i, j ≤ i → i < c → (D i).ch = false) → ∃ k, (S c).h = (S j).h ++ k := by
  intro c
  induction c with
  | zero => intro h _ _; exact ⟨[], by rw [Nat.le_zero.1 h]; simp⟩
  | succ c ih =>
    intro h hl hq
    by_cases e : j = c + 1
    · exact ⟨[], by rw [e]; simp⟩
    · obtain ⟨k, hk⟩ := ih (by omega) (by omega) fun i h1 h2 => hq i h1 (by omega)
      obtain ⟨k', hk'⟩ := g.grow (i := c) (by omega) (hq c (by omega) (by omega))
      exact ⟨k ++ k', by rw [hk', hk, List.append_assoc]⟩
structure Next (all : List Oper) (bs : List Nat) (done : Nat → Bool) (j : Nat) : Prop where
  lt : j < all.length
  un : done j = false
  bef : ∀ i, Nat.testBit ((atN bs j).getD 0) i = true → done i = true
theorem Reg.pass (g : Reg E all bs S V D) (hd : ∀ j, j < all.length → done j = true → ∀ i, Nat.testBit ((atN bs j).getD 0) i = true → done i = true) {j : Nat} (hn : Next all bs done j) (hf : (D j).wr = true) {c e : Nat} {H : List Obj} (hh : Hol all.length S D done c e H) : c ≤ j ∧ j ≤ e := by
  constructor
  · rcases Nat.lt_or_ge j c with h | h
    · exfalso
      rcases hh.fst with h0 | ⟨h0, h1⟩
      · omega
      · have hlt : c - 1 < all.length := by have := hh.ce; have := hh.en; omega
        have hdn : done (c - 1) = true := (hh.chg _ hlt h1).2 (by omega)
        by_cases e1 : j = c - 1
        · subst e1; rw [hn.un] at hdn; cases hdn
        · rcases g.ok j (c - 1) (by omega) hlt with h2 | h2
          · rw [g.id, g.id] at h2
            have := hd _ hlt hdn j h2
            rw [hn.un] at this; cases this
          · have h3 := (h2.2 h1).1
            rw [h3] at hf; cases hf
    · exact h
  · rcases Nat.lt_or_ge e j with h | h
    · exfalso
      have hlt := hn.lt
      rcases hh.lst with h0 | h0
      · have := hh.en; omega
      · rcases g.ok e j h hlt with h2 | h2
        · rw [g.id, g.id] at h2
          have h3 := (hh.chg e (by omega) h0).1 (hn.bef _ h2)
          have := hh.ce
          omega
        · have h3 := (h2.1 h0).1
          rw [h3] at hf; cases hf
    · exact h
theorem Reg.growLen (g : Reg E all bs S V D) {c e : Nat} {H : List Obj} (hh : Hol all.length S D done c e H) {i j : Nat} (hc : c ≤ i) (hij : i ≤ j) (hj : j ≤ e) : ∃ k, (S j).h = (S i).h ++ k := by
  induction j with
  | zero => obtain rfl : i = 0 := by omega
            exact ⟨[], by simp⟩
  | succ j ih =>
    by_cases e1 : i = j + 1
    · subst e1; exact ⟨[], by simp⟩
    · obtain ⟨k, hk⟩ := ih (by omega) (by omega)
      obtain ⟨k', hk'⟩ := g.grow (i := j) (by have := hh.en; omega) (hh.quiet j (by omega) (by omega))
      exact ⟨k ++ k', by rw [hk', hk, List.append_assoc]⟩
theorem zoK {α : Type} {a b k : List α} (h : a = b ++ k) : b.length ≤ a.length := by rw [h]; simp
theorem Reg.sees (g : Reg E all bs S V D) {c e j : Nat} {H : List Obj} (hh : Hol all.length S D done c e H) (hcj : c ≤ j) (hje : j ≤ e) {x : Nat} {o : Obj} (ho : atN (S j).h x = some o) (hx : atN H x ≠ some .hole) : atN H x = some o := by
  obtain ⟨k, hk⟩ := g.growLen hh hcj hje (Nat.le_refl e)
  refine hh.own x o (by rw [hk]; exact zv6 ho) fun i h1 h2 h3 h4 => ?_
  cases hd : done i with
  | true => rfl
  | false => exact absurd (hh.hol i h1 h2 hd x h3 h4) hx
theorem Reg.full (g : Reg E all bs S V D) {c e : Nat} {H : List Obj} (hh : Hol all.length S D done c e H) (hall : ∀ i, c ≤ i → i < e → (D i).wr = true → done i = true) : H = (S e).h := by
  apply List.ext_getElem?
  intro x
  cases hx : (S e).h[x]? with
  | none =>
    have : (S e).h.length ≤ x := by simpa using hx
    have hl := hh.len
    rw [List.getElem?_eq_none_iff]; omega
  | some o =>
    rw [← qs]
    rw [← qs] at hx
    refine hh.own x o hx fun i h1 h2 h3 h4 => ?_
    cases hw : (D i).wr with
    | true => exact hall i h1 h2 hw
    | false =>
      have := g.quiet (i := i) (by have := hh.en; omega) hw
      rw [this] at h4
      omega
theorem Reg.before (g : Reg E all bs S V D) {j : Nat} (hn : Next all bs done j) (hc : (D j).ch = true) {i : Nat} (hi : i < j) (hw : (D i).wr = true) : done i = true := by
  rcases g.ok i j hi hn.lt with h | h
  · rw [g.id, g.id] at h; exact hn.bef i h
  · have := (h.2 hc).1
    rw [this] at hw; cases hw
theorem apart_spec {o : Option (List Nat)} {k : List Nat} (h : apart o k = true) {x : Nat} (hx : x ∈ k) : ∃ l, o = some l ∧ x ∉ l := by
  cases o with
  | none => cases h
  | some l =>
    refine ⟨l, rfl, fun hl => ?_⟩
    have := List.all_eq_true.1 h x hx
    rw [zwm.2 hl] at this
    cases this
theorem Reg.keeps (g : Reg E all bs S V D) {i : Nat} (hi : i < all.length) {x : Nat} {o : Obj} (hx : atN (S i).h x = some o) (hc : (D i).ch = true → ∃ l, (D i).cg = some l ∧ x ∉ l) : atN (S (i + 1)).h x = some o := by
  cases hch : (D i).ch with
  | false =>
    obtain ⟨k, hk⟩ := g.grow hi hch
    rw [hk]; exact zv6 hx
  | true =>
    obtain ⟨l, hl, hn⟩ := hc hch
    obtain ⟨_, _, h⟩ := g.step i all[i] (List.getElem?_eq_getElem hi)
    rcases h with ⟨_, _, _, _, _, h⟩ | ⟨_, ⟨_, _, _, _, _, _, _, _, h, _⟩ | ⟨_, _, _, _, _, _, h, _⟩ | ⟨st', hev, hh, _, _, _, hcg⟩ | ⟨_, _, _, _, _, _, _, _, h, _⟩⟩
    · rw [h] at hch; cases hch
    · rw [h] at hch; cases hch
    · rw [h] at hch; cases hch
    · rw [hl] at hcg
      rw [hh]
      exact zWQ hcg.symm hev hx hn
    · rw [h] at hch; cases hch
theorem Reg.looks (g : Reg E all bs S V D) (hd : ∀ j, j < all.length → done j = true → ∀ i, Nat.testBit ((atN bs j).getD 0) i = true → done i = true) {j : Nat} (hn : Next all bs done j) (hr : (D j).rd = true) {c e : Nat} {H : List Obj} (hh : Hol all.length S D done c e H) {x : Nat} {o o' : Obj}
    (hx : x ∈ (D j).lk) (ho : atN (S j).h x = some o) (hH : atN H x = some o') (hne : o' ≠ .hole) : atN H x = some o := by
  have hne' : atN H x ≠ some .hole := by rw [hH]; intro e; cases e; exact hne rfl
  have hlt := hn.lt
  rcases Nat.lt_or_ge j c with h1 | h1
  ·
    have key : ∀ i, j ≤ i → i ≤ c → atN (S i).h x = some o := by
      intro i
      induction i with
      | zero => intro h2 _; obtain rfl : j = 0 := by omega
                exact ho
      | succ i ih =>
        intro h2 h3
        by_cases e1 : j = i + 1
        · rw [← e1]; exact ho
        · refine g.keeps (by have := hh.ce; have := hh.en; omega) (ih (by omega) (by omega)) fun hch => ?_
          have hil : i < all.length := by have := hh.ce; have := hh.en; omega
          have hdi : done i = true := (hh.chg i hil hch).2 (by omega)
          have hne2 : j ≠ i := fun e2 => by subst e2; rw [hn.un] at hdi; cases hdi
          rcases g.ok j i (by omega) hil with h4 | h4
          · rw [g.id, g.id] at h4
            have := hd i hil hdi j h4
            rw [hn.un] at this; cases this
          · exact apart_spec ((h4.2 hch).2 hr) hx
    exact g.sees hh (Nat.le_refl c) hh.ce (key c (by omega) (Nat.le_refl c)) hne'
  · rcases Nat.lt_or_ge e j with h2 | h2
    ·
      have hxe : x < (S e).h.length := by rw [← hh.len]; exact vj hH
      obtain ⟨u, hu⟩ : ∃ u, atN (S e).h x = some u := ⟨(S e).h[x], by rw [qs, List.getElem?_eq_getElem hxe]⟩
      have key : ∀ i, e ≤ i → i ≤ j → atN (S i).h x = some u := by
        intro i
        induction i with
        | zero => intro h3 _; obtain rfl : e = 0 := by omega
                  exact hu
        | succ i ih =>
          intro h3 h4
          by_cases e1 : e = i + 1
          · rw [← e1]; exact hu
          · refine g.keeps (by omega) (ih (by omega) (by omega)) fun hch => ?_
            have hil : i < all.length := by omega
            rcases g.ok i j (by omega) hlt with h5 | h5
            · rw [g.id, g.id] at h5
              have h6 := (hh.chg i hil hch).1 (hn.bef i h5)
              have := hh.ce
              omega
            · exact apart_spec ((h5.1 hch).2 hr) hx
      have h3 := key j (by omega) (Nat.le_refl j)
      rw [ho] at h3
      cases h3
      exact g.sees hh hh.ce (Nat.le_refl e) hu hne'
    · exact g.sees hh h1 h2 ho hne'
theorem zWS (D : Nat → Did) (n : Nat) : ∀ k c, c + k = n → ∃ e, c ≤ e ∧ e ≤ n ∧ (∀ i, c ≤ i → i < e → (D i).ch = false) ∧ (e = n ∨ (D e).ch = true) := by
  intro k
  induction k with
  | zero => intro c h; exact ⟨c, Nat.le_refl c, by omega, fun i h1 h2 => by omega, .inl (by omega)⟩
  | succ k ih =>
    intro c h
    cases hc : (D c).ch with
    | true => exact ⟨c, Nat.le_refl c, by omega, fun i h1 h2 => by omega, .inr hc⟩
    | false =>
      obtain ⟨e, h1, h2, h3, h4⟩ := ih (c + 1) (by omega)
      refine ⟨e, by omega, h2, fun i h5 h6 => ?_, h4⟩
      by_cases e1 : i = c
      · subst e1; exact hc
      · exact h3 i (by omega) h6
theorem Reg.open (g : Reg E all bs S V D) {c : Nat} (hcn : c ≤ all.length) (hfst : c = 0 ∨ (0 < c ∧ (D (c - 1)).ch = true)) (hchg : ∀ i, i < all.length → (D i).ch = true → (done i = true ↔ i < c)) (hund : ∀ i, c ≤ i → i < all.length → (D i).wr = true → done i = false) :
    ∃ e n, Hol all.length S D done c e ((S c).h ++ List.replicate n .hole) := by
  obtain ⟨e, h1, h2, h3, h4⟩ := zWS D all.length (all.length - c) c (by omega)
  have grow : ∀ j, c ≤ j → j ≤ e → ∃ k, (S j).h = (S c).h ++ k := fun j hj hje => g.grows hj (by omega) fun i h5 h6 => h3 i h5 (by omega)
  obtain ⟨k, hk⟩ := grow e h1 (Nat.le_refl e)
  have hlenc : ∀ i, c ≤ i → i < e → (S c).h.length ≤ (S i).h.length := fun i h5 h6 => zoK (grow i h5 (by omega)).choose_spec
  have hlene : ∀ i, c ≤ i → i < e → (S (i + 1)).h.length ≤ (S e).h.length := fun i h5 h6 => by
    obtain ⟨k', hk'⟩ := g.grows (j := i + 1) (c := e) (by omega) (by omega) fun i' h7 h8 => h3 i' (by omega) h8
    exact zoK hk'
  refine ⟨e, k.length, h1, h2, hchg, h3, hfst, h4, by rw [hk]; simp, fun i h5 h6 h7 x h8 h9 => ?_, fun x o ho hall => ?_⟩
  · have := hlenc i h5 h6
    have := hlene i h5 h6
    rw [hk] at this
    simp only [List.length_append] at this
    rw [qs, List.getElem?_append_right (by omega), List.getElem?_replicate, if_pos (by omega)]
  · by_cases hx : x < (S c).h.length
    · rw [zaw hx]
      rw [hk, zaw hx] at ho
      exact ho
    · exfalso
      have hxe := vj ho
      have key : ∀ j, c ≤ j → j ≤ e → x < (S j).h.length → ∃ i, c ≤ i ∧ i < e ∧ (S i).h.length ≤ x ∧ x < (S (i + 1)).h.length := by
        intro j
        induction j with
        | zero => intro h5 _ h6; obtain rfl : c = 0 := by omega
                  exact absurd h6 hx
        | succ j ih =>
          intro h5 h6 h7
          by_cases e1 : c = j + 1
          · rw [← e1] at h7; exact absurd h7 hx
          · by_cases h8 : x < (S j).h.length
            · exact ih (by omega) (by omega) h8
            · exact ⟨j, by omega, by omega, by omega, h7⟩
      obtain ⟨i, h5, h6, h7, h8⟩ := key e h1 (Nat.le_refl e) hxe
      have hdi := hall i h5 h6 h7 h8
      cases hw : (D i).wr with
      | true => rw [hund i h5 (by omega) hw] at hdi; cases hdi
      | false =>
        have := g.quiet (i := i) (by omega) hw
        rw [this] at h8
        omega
theorem Reg.slots (g : Reg E all bs S V D) : ∀ {j : Nat}, j ≤ all.length →
    (∀ (i : Nat) (o : Oper) (d : Nat), all[i]? = some o → i < j → o.dst = some d → look (S j).fr d = some (V i)) ∧
    (∀ t, (∀ (i : Nat) (o : Oper), all[i]? = some o → i < j → o.dst ≠ some t) → look (S j).fr t = look (S 0).fr t) := by
  intro j
  induction j with
  | zero => intro _; exact ⟨fun i o d _ h => by omega, fun t _ => rfl⟩
  | succ j ih =>
    intro hj
    obtain ⟨h1, h2⟩ := ih (by omega)
    have hget := List.getElem?_eq_getElem (show j < all.length by omega)
    obtain ⟨_, hf, _⟩ := g.step j _ hget
    have hfr : ∀ t, look (S (j + 1)).fr t = if all[j].dst = some t then some (V j) else look (S j).fr t := by
      intro t
      rw [hf]
      cases hd : all[j].dst with
      | none => simp [St.put]
      | some d => simp [St.put, zwh]
    have hdist := (zsU g.data hget).1
    constructor
    · intro i o d hi hij hd
      rw [hfr]
      by_cases e : i = j
      · subst e
        rw [hget] at hi
        cases hi
        rw [if_pos hd]
      · rw [if_neg ?_]
        · exact h1 i o d hi (by omega) hd
        · have := (zoJ hdist i o d hi hd).1
          rw [Nat.zero_add] at this
          exact this.resolve_left e
    · intro t ht
      rw [hfr, if_neg (ht j _ hget (by omega))]
      exact h2 t fun i o hi hij => ht i o hi (by omega)
end
end
end Go.Ev
end
section
namespace Go.Ev
open Go.RowKit
set_option linter.unusedSimpArgs false
set_option linter.unusedVariables false
section
variable {P : Program} {nt : Nat} {F0 G : FH} {w0 : World} {E : Env} {R : Type} {bs : List Nat} {S : Nat → St} {V : Nat → AV} {D : Nat → Did} {done : Nat → Bool} {ops : Array Oper} {Q : Exit → Act → World → Prop}
def add (done : Nat → Bool) (j : Nat) : Nat → Bool := fun i => if i = j then true else done i
theorem zB0 {i j : Nat} : add done j i = true ↔ done i = true ∨ i = j := by
  unfold add
  by_cases e : i = j
  · simp [e]
  · simp [e]
theorem put_eq (fr : List (Nat × AV)) (h : List Obj) (dst : Option Tmp) (v : AV) : (⟨fr, h⟩ : St).put dst v = ⟨((⟨fr, h⟩ : St).put dst v).fr, h⟩ := by cases dst <;> rfl
theorem Reg.filled (g : Reg E ops.toList bs S V D) (hd : ∀ j, j < ops.toList.length → done j = true → ∀ i, Nat.testBit ((atN bs j).getD 0) i = true → done i = true) {j c e : Nat} {H z : List Obj} (hn : Next ops.toList bs done j) (hh : Hol ops.toList.length S D done c e H)
    (hf : (D j).wr = true) (hch : (D j).ch = false) (hz : (S (j + 1)).h = (S j).h ++ z) :
    ∃ H2 : List Obj, H2.length = H.length ∧ (∀ i o, atN z i = some o → atN H ((S j).h.length + i) = some .hole ∧ atN H2 ((S j).h.length + i) = some o) ∧
      (∀ i, ¬((S j).h.length ≤ i ∧ i < (S j).h.length + z.length) → atN H2 i = atN H i) ∧ Hol ops.toList.length S D (add done j) c e H2 := by
  obtain ⟨hcj, hje⟩ := g.pass hd hn hf hh
  have hlt := hn.lt
  have hjlt : j < e := by
    rcases Nat.lt_or_ge j e with h | h
    · exact h
    · obtain rfl : j = e := by omega
      rcases hh.lst with h0 | h0
      · omega
      · rw [hch] at h0; cases h0
  have adn : ∀ {i}, i ≠ j → add done j i = done i := fun {i} hi => by unfold add; rw [if_neg hi]
  have hlen1 : (S (j + 1)).h.length = (S j).h.length + z.length := by rw [hz]; simp
  obtain ⟨k, hk⟩ := g.growLen hh (i := j + 1) (j := e) (by omega) (by omega) (Nat.le_refl e)
  have hLe : (S j).h.length + z.length ≤ H.length := by rw [hh.len, ← hlen1]; exact zoK hk
  have hholes : ∀ i, i < z.length → atN H ((S j).h.length + i) = some .hole := fun i hi => hh.hol j hcj hjlt hn.un _ (by omega) (by omega)
  let H2 : List Obj := H.take (S j).h.length ++ z ++ H.drop ((S j).h.length + z.length)
  have hH2len : H2.length = H.length := by simp [H2]; omega
  have hH2in : ∀ i o', atN z i = some o' → atN H2 ((S j).h.length + i) = some o' := by
    intro i o' ho'
    have hil := vj ho'
    simp only [H2]
    rw [qs, List.append_assoc, List.getElem?_append_right (by simp; omega), List.length_take, Nat.min_eq_left (by omega), Nat.add_sub_cancel_left, List.getElem?_append_left hil, ← qs, ho']
  have hH2out : ∀ i, ¬((S j).h.length ≤ i ∧ i < (S j).h.length + z.length) → atN H2 i = atN H i := by
    intro i hi
    simp only [H2]
    rw [qs, qs, List.append_assoc]
    by_cases h5 : i < (S j).h.length
    · rw [List.getElem?_append_left (by simp; omega), List.getElem?_take, if_pos h5]
    · rw [List.getElem?_append_right (by simp; omega), List.length_take, Nat.min_eq_left (by omega), List.getElem?_append_right (by omega), List.getElem?_drop]
      congr 1
      omega
  refine ⟨H2, hH2len, fun i o' ho' => ⟨hholes i (vj ho'), hH2in i o' ho'⟩, hH2out, ?_⟩
  have disj : ∀ i, c ≤ i → i < e → i ≠ j → ∀ x, (S i).h.length ≤ x → x < (S (i + 1)).h.length → ¬((S j).h.length ≤ x ∧ x < (S j).h.length + z.length) := by
    intro i h5 h6 hne x h7 h8 h9
    rcases Nat.lt_or_gt_of_ne hne with h10 | h10
    · obtain ⟨k', hk'⟩ := g.growLen hh (i := i + 1) (j := j) (by omega) (by omega) (by omega)
      have := zoK hk'
      omega
    · obtain ⟨k', hk'⟩ := g.growLen hh (i := j + 1) (j := i) (by omega) (by omega) (by omega)
      have := zoK hk'
      omega
  refine ⟨hh.ce, hh.en, fun i hi hci => ?_, hh.quiet, hh.fst, hh.lst, by rw [hH2len]; exact hh.len, fun i h5 h6 h7 x h8 h9 => ?_, fun x o' ho' hall => ?_⟩
  · have hne : i ≠ j := by rintro rfl; rw [hch] at hci; cases hci
    rw [adn hne]; exact hh.chg i hi hci
  · have hne : i ≠ j := by
      rintro rfl
      rw [zB0.2 (.inr rfl)] at h7; cases h7
    rw [adn hne] at h7
    rw [hH2out x (disj i h5 h6 hne x h8 h9)]
    exact hh.hol i h5 h6 h7 x h8 h9
  · by_cases hx : (S j).h.length ≤ x ∧ x < (S j).h.length + z.length
    · obtain ⟨i, rfl⟩ : ∃ i, x = (S j).h.length + i := ⟨x - (S j).h.length, by omega⟩
      have hil : i < z.length := by omega
      have hoi : atN z i = some z[i] := by rw [qs, List.getElem?_eq_getElem hil]
      rw [hH2in i _ hoi, ← ho', hk, hz, List.append_assoc, qs, List.getElem?_append_right (by omega), Nat.add_sub_cancel_left, List.getElem?_append_left hil, ← qs, hoi]
    · rw [hH2out x hx]
      refine hh.own x o' ho' fun i h5 h6 h7 h8 => ?_
      have h9 := hall i h5 h6 h7 h8
      by_cases hne : i = j
      · subst hne
        exact absurd ⟨h7, by omega⟩ hx
      · rw [adn hne] at h9; exact h9
theorem zF4 {h h2 : List Obj} {fr : List (Nat × AV)} {a : Ty} : ∀ {ps : List (Nat × Option AV)} {vs vs' : List AV}, zMI h a vs ps = some vs' → (∀ i j, (i, some (AV.ow j)) ∈ ps → ∀ o, atN h j = some o → atN h2 j = some o) → zco false a vs ps ⟨fr, h2⟩ = some (vs', ⟨fr, h2⟩)
  | [], vs, vs', hb, _ => by cases hb; rfl
  | (i, none) :: ps, vs, vs', hb, _ => by cases hb
  | (i, some v) :: ps, vs, vs', hb, hs => by
    cases v with
    | ow j =>
      simp only [zMI] at hb
      obtain ⟨h1, h2'⟩ := zd hb
      have hr : rowIs h2 a i j = true := by
        unfold rowIs at h1 ⊢
        cases hT : zdp h j with
        | none => rw [hT] at h1; cases h1
        | some σ =>
          rw [hT] at h1
          obtain ⟨o, ho, hl⟩ := zHE.1 hT
          rw [zHE.2 ⟨o, hs i j (by simp) o ho, hl⟩]
          exact h1
      simp only [zco, hr, cond_true]
      exact zF4 h2' fun i' j' hm => hs i' j' (by simp [hm])
    | dat σ y =>
      simp only [zMI] at hb
      obtain ⟨h1, h2'⟩ := zd hb
      simp only [zco, frz, j7, h1, cond_true]
      exact zF4 h2' fun i' j' hm => hs i' j' (by simp [hm])
    | _ => cases hb
theorem zI9 {st : St} {o : Oper} {t x : Nat} {v : AV} (ht : t ∈ zhW o) (hv : look st.fr t = some v) (hx : x ∈ v.ids) : x ∈ zoH st o := by
  unfold zoH
  exact List.mem_flatMap.2 ⟨t, ht, by rw [hv]; exact hx⟩
theorem zWb {v : AV} {i : Nat} (h : v.has1 i = true) : i ∈ v.ids1 := by
  cases v <;> first | (cases h; done) | (have := Nat.eq_of_beq_eq_true h; subst this; simp [AV.ids1])
theorem zTf {v : AV} {i : Nat} (ht : ∀ vs, v ≠ .tup vs) (h : v.has i = true) : i ∈ v.ids := by
  cases v with
  | fld a vs =>
    simp only [AV.has, List.any_eq_true] at h
    obtain ⟨x, hx, hxi⟩ := h
    exact List.mem_flatMap.2 ⟨x, hx, zWb hxi⟩
  | tup vs => exact absurd rfl (ht vs)
  | _ => first | (cases h; done) | (have := Nat.eq_of_beq_eq_true h; subst this; simp [AV.ids, AV.ids1])
theorem zWc {v : AV} {i : Nat} (h : v.has1 i = true) : v.has i = true := by
  cases v <;> first | exact h | cases h
theorem zIC {θ : Option Ty} {c : Value} {v : AV} {i : Nat} (h : zBU θ c = some v) : v.has1 i = false := by
  unfold zBU at h
  (repeat' split at h) <;> first | (cases h; rfl) | cases h
theorem Reg.go (hE : zV P G E) (hG : G.le F0) (hnt : E.nt = nt) (g : Reg E ops.toList bs S V D) {a : Act} {w : World} (hm : Mid P nt F0 w0 ops.toList bs S V D done a w) {j : Nat} (hn : Next ops.toList bs done j)
    {K : Act → World → Prop} (hK : ∀ a' w', Mid P nt F0 w0 ops.toList bs S V D (add done j) a' w' → K a' w') : wpOp P ops Q j K a w := by
  obtain ⟨hd, c, e, H, hh, fr, m, F, hrel, hV, hO⟩ := hm
  have hlt := hn.lt
  have hget : ops.toList[j]? = some ops.toList[j] := List.getElem?_eq_getElem hlt
  generalize ho : ops.toList[j] = o at hget
  have hgo : ops[j]? = some o := by rw [← Array.getElem?_toList]; exact hget
  obtain ⟨hs1, hs2⟩ := g.slots (j := j) (by omega)
  obtain ⟨hdata, hguard, _⟩ := zsU g.data hget
  have hag : ∀ t, t ∈ zhW o → look fr t = look (S j).fr t := by
    intro t ht
    by_cases hex : ∃ (i : Nat) (o' : Oper), ops.toList[i]? = some o' ∧ o'.dst = some t
    · obtain ⟨i, o', hi, hdt⟩ := hex
      have := (zoJ hdata i o' t hi hdt).2 ht
      rw [Nat.zero_add] at this
      rw [hV i o' t hi (hn.bef i this.1) hdt, hs1 i o' t hi this.2 hdt]
    · have hno : ∀ (i : Nat) (o' : Oper), ops.toList[i]? = some o' → o'.dst ≠ some t := fun i o' hi hdt => hex ⟨i, o', hi, hdt⟩
      rw [hO t hno, hs2 t fun i o' hi _ => hno i o' hi]
  have hag' : ∀ t, Operand.tmp t ∈ o.op.operands → look fr t = look (S j).fr t := fun t ht => hag t (zDn.2 ht)
  have hgv : zjm ops.toList fr o = zjm ops.toList (S j).fr o := by
    unfold zjm
    cases hgd : o.guard with
    | none => rfl
    | some gw =>
      obtain ⟨gi, want⟩ := gw
      simp only
      obtain ⟨hb, hlt'⟩ := hguard gi want hgd
      have : (zzo ops.toList gi).bind (look fr) = (zzo ops.toList gi).bind (look (S j).fr) := by
        cases hdo : zzo ops.toList gi with
        | none => rfl
        | some d =>
          simp only [Option.bind_some]
          unfold zzo at hdo
          rw [qs] at hdo
          obtain ⟨o', ho', hdt⟩ := Option.bind_eq_some_iff.1 hdo
          rw [hV gi o' d ho' (hn.bef gi hb) hdt, hs1 gi o' d ho' hlt' hdt]
      rw [this]
  obtain ⟨hdst, _, hstep⟩ := g.step j o hget
  have hd' : ∀ d, o.dst = some d → d < nt := fun d h => hnt ▸ zK0 hdst d h
  have fin : ∀ (c' e' : Nat) (H' : List Obj) (a' : Act) (w' : World) (m' : MM) (F' : FH), Hol ops.toList.length S D (add done j) c' e' H' →
      Rel P nt F0 w0 ((⟨fr, H'⟩ : St).put o.dst (V j)) m' F' a' w' → Mid P nt F0 w0 ops.toList bs S V D (add done j) a' w' := by
    intro c' e' H' a' w' m' F' hh' hr
    refine ⟨fun j' hj' hdj i hb => ?_, c', e', H', hh', _, m', F', (by rw [put_eq] at hr; exact hr), ?_, ?_⟩
    · rw [zB0] at hdj ⊢
      rcases hdj with hdj | rfl
      · exact .inl (hd j' hj' hdj i hb)
      · exact .inl (hn.bef i hb)
    · intro i o' d hi hdi hdt
      have hl : ∀ t, look ((⟨fr, H'⟩ : St).put o.dst (V j)).fr t = if o.dst = some t then some (V j) else look fr t := by
        intro t
        cases hd : o.dst with
        | none => simp [St.put]
        | some d => simp [St.put, zwh]
      rw [hl]
      by_cases e : o.dst = some d
      · rw [if_pos e]
        have := (zoJ hdata i o' d hi hdt).1
        rw [Nat.zero_add] at this
        rcases this with rfl | this
        · rfl
        · exact absurd e this
      · rw [if_neg e]
        rw [zB0] at hdi
        rcases hdi with hdi | rfl
        · exact hV i o' d hi hdi hdt
        · rw [hget] at hi; cases hi; exact absurd hdt e
    · intro t ht
      have := ht j o hget
      rw [← hO t ht]
      cases hd : o.dst with
      | none => rfl
      | some d =>
        simp only [St.put, zwh]
        rw [if_neg]
        rintro rfl
        exact this hd
  have adn : ∀ {i}, i ≠ j → add done j i = done i := fun {i} hi => by unfold add; rw [if_neg hi]
  have stay : (D j).wr = false → Hol ops.toList.length S D (add done j) c e H := by
    intro hf
    have hch : (D j).ch = false := by
      cases hc : (D j).ch with
      | false => rfl
      | true => rw [g.chwr hlt hc] at hf; cases hf
    refine ⟨hh.ce, hh.en, fun i hi hci => ?_, hh.quiet, hh.fst, hh.lst, hh.len, fun i h1 h2 h3 x h4 h5 => ?_, fun x o' ho' hall => hh.own x o' ho' fun i h1 h2 h3 h4 => ?_⟩
    · have hne : i ≠ j := by rintro rfl; rw [hch] at hci; cases hci
      rw [adn hne]; exact hh.chg i hi hci
    · have hne : i ≠ j := by
        rintro rfl
        rw [zB0.2 (.inr rfl)] at h3; cases h3
      rw [adn hne] at h3
      exact hh.hol i h1 h2 h3 x h4 h5
    · have h5 := hall i h1 h2 h3 h4
      by_cases hne : i = j
      · subst hne
        have := g.quiet hlt hf
        rw [this] at h4
        omega
      · rw [adn hne] at h5; exact h5
  unfold wpOp
  simp only [hgo]
  rcases hstep with ⟨hg, hVj, hh, h1, h2, h3⟩ | ⟨hg, hstep⟩
  · have hwant := zwl hrel (o := o) (ops := ops) (b := false) (by rw [← hg]; exact hgv)
    rw [hwant]
    simp only [Bool.false_eq_true, if_false]
    refine hK _ _ (fin c e H _ _ m F (stay h2) ?_)
    exact Rel.put hrel hd' (by rw [hVj]; exact yY)
  · have hwant := zwl hrel (o := o) (ops := ops) (b := true) (by rw [← hg]; exact hgv)
    rw [hwant]
    simp only [if_true]
    left
    rcases hstep with ⟨fr', v0, st', hres, hev, hVj, hh1, h2, h3, hlk⟩ | ⟨st', hst, hev, hh1, h1, h2, h3, hlk⟩ | ⟨st', hev, hh1, h1, h2, h3, _⟩ | ⟨b, vs', z, hbld, hVj, hh1, h1, h2, h3, hlk⟩
    · have hsp := zDo hres
      have hf : ∀ t v, look fr' t = some v → v.pure = true ∧ ze P H m F v (a.tmps.getD t undef) := by
        intro t v ht
        obtain ⟨h4, v1, h5, h6, h7, h8⟩ := hsp t v ht
        refine ⟨h8 rfl, ?_⟩
        have hr1 := hrel.fr t v1 (by simp only; rw [hag t h4]; exact h5)
        simp only at hr1
        cases hrd : (D j).rd with
        | false => rw [h7 hrd]; exact hr1
        | true =>
          rw [h6]
          cases v1 with
          | tup vs =>
            have e : (zjn (S j).h (.tup vs)).1 = .tup vs := by
              unfold zjn
              cases (AV.tup vs).pure <;> rfl
            rw [e]; exact hr1
          | _ =>
            refine zT1 hrel (fun i hi o' ho' => ?_) hr1
            rw [ze.eq1 (by intro vs e; cases e)] at hr1
            obtain ⟨u, hu, hne⟩ := hr1.real hi
            exact g.looks hd hn hrd hh (by rw [hlk]; exact zI9 h4 h5 (zTf (by intro vs e; cases e) hi)) ho' hu hne
      have hstart := hrel.start hf
      refine zI4 hE (hG.trans hrel.gro.1) hstart hev _ _ ?_
      rintro u w' ⟨m', F', hle, hrel', hv⟩
      cases hwr : (D j).wr with
      | true =>
        obtain ⟨H2, hH2len, hsz, hH2out, hhol⟩ := g.filled hd hn hh hwr h3 hh1
        have hs : ∀ i o', atN st'.h i = some o' → atN H ((S j).h.length + i) = some .hole ∧ atN H2 ((S j).h.length + i) = some (o'.rn ((S j).h.length + ·)) := fun i o' ho' => by
          have := hsz i (o'.sh (S j).h.length) (by rw [qs, List.getElem?_map, ← qs, ho']; rfl)
          exact ⟨this.1, by rw [this.2, Obj.sh_rn]⟩
        rw [List.length_map] at hH2out
        have hfill := hrel.fill hrel' hH2len hs hH2out
        exact hK _ _ (fin c e H2 _ _ _ F' hhol (Rel.put hfill hd' (by rw [hVj]; exact hv.fill fun i o' ho' => (hs i o' ho').2)))
      | false =>
        have hcat := hrel.cat hrel' hle
        rw [hwr] at h2
        have hnil : st'.h = [] := by
          cases hs : st'.h with
          | nil => rfl
          | cons x l => rw [hs] at h2; cases h2
        rw [hnil] at hcat hv
        simp only [List.map_nil, List.append_nil] at hcat
        refine hK _ _ (fin c e H _ _ (m.cat H.length m') F' (stay hwr) ?_)
        refine Rel.put hcat hd' ?_
        rw [hVj]
        exact hv.nowhere
    · have h4 := zQm hev hag'
      have h5 := zOm (k := H) hst (fun x θ v hx hrdv i hi o' ho' => by
        have hrdv' : rd E ⟨fr, H⟩ θ x = some v := by rw [← hrdv]; cases x <;> rfl
        have hr1 := zD hE hG hrel hrdv'
        have hrdS : rd E (S j) θ x = some v := by
          rw [← hrdv']
          cases x with
          | tmp t => exact (hag' t hx).symm
          | _ => rfl
        cases v with
        | tup vs => cases hi
        | _ =>
          first | (cases hi; done) | (
            rw [ze.eq1 (by intro vs e; cases e)] at hr1
            have hi' := zWc hi
            obtain ⟨u, hu, hne⟩ := hr1.real hi'
            refine g.looks hd hn h1 hh ?_ ho' hu hne
            rw [hlk]
            cases x with
            | tmp t => exact zI9 (zDn.2 hx) hrdS (zTf (by intro vs e; cases e) hi')
            | const c => exact absurd hi (by rw [zIC hrdS]; simp)
            | global gl => exact absurd hi (by obtain ⟨_, _, _, e, _⟩ := hE.glob gl _ hrdS; cases e <;> simp [AV.has1])
            | func f => (simp only [rd, Option.map_eq_some_iff] at hrdS; obtain ⟨_, _, e⟩ := hrdS; cases e))) h4
      have h6 : more H (sw fr (S j)) = ⟨fr, H⟩ := rfl
      rw [h6] at h5
      obtain ⟨_, u, h7, h8⟩ := zTY hE hG hrel hst h5
      refine qy.val (R := fun u' w' => u' = u ∧ w' = w) h7 ⟨rfl, rfl⟩ _ _ ?_
      rintro u' w' ⟨rfl, rfl⟩
      exact hK _ _ (fin c e H _ _ m F (stay h2) (Rel.put hrel hd' h8))
    · obtain ⟨hcj, hje⟩ := g.pass hd hn h2 hh
      have hje' : j = e := by
        rcases Nat.lt_or_ge j e with h | h
        · have := hh.quiet j hcj h
          rw [h3] at this; cases this
        · omega
      subst hje'
      have hfull := g.full hh fun i h5 h6 h7 => g.before hn h3 h6 h7
      have h4 := zQm hev hag'
      have h6 : sw fr (S j) = ⟨fr, H⟩ := by unfold sw; rw [hfull]
      rw [h6] at h4
      refine zI4 hE hG hrel h4 _ _ ?_
      rintro u w' ⟨m', F', hle, hrel', hv⟩
      have hchg' : ∀ i, i < ops.toList.length → (D i).ch = true → (add done j i = true ↔ i < j + 1) := by
        intro i hi hci
        by_cases hne : i = j
        · subst hne
          exact ⟨fun _ => by omega, fun _ => zB0.2 (.inr rfl)⟩
        · rw [adn hne, hh.chg i hi hci]
          constructor
          · intro h; have := hh.ce; omega
          · intro h
            rcases Nat.lt_or_ge i c with h5 | h5
            · exact h5
            · have := hh.quiet i h5 (by omega)
              rw [hci] at this; cases this
      have hund : ∀ i, j + 1 ≤ i → i < ops.toList.length → (D i).wr = true → add done j i = false := by
        intro i h5 h6 h7
        rw [adn (by omega)]
        cases hdi : done i with
        | false => rfl
        | true =>
          rcases g.ok j i (by omega) h6 with h8 | h8
          · rw [g.id, g.id] at h8
            have := hd i h6 hdi j h8
            rw [hn.un] at this; cases this
          · have := (h8.1 h3).1
            rw [this] at h7; cases h7
      obtain ⟨e', n, hh'⟩ := g.open (done := add done j) (c := j + 1) (by omega) (.inr ⟨by omega, h3⟩) hchg' hund
      refine hK _ _ (fin (j + 1) e' _ _ _ m' F' hh' ?_)
      have hrel2 : Rel P nt F0 w0 ⟨fr, (S (j + 1)).h⟩ m' F' a w' := by rw [hh1]; exact hrel'
      refine Rel.put (hrel2.holes n) hd' ?_
      refine ze.keep (h := (sw fr st').h) (m := m') (fun i o' ho' _ => ⟨?_, rfl, rfl⟩) hv
      simp only
      rw [hh1]
      exact zv6 ho'
    ·
      obtain ⟨H2, hH2len, hsz, hH2out, hhol⟩ : ∃ H2 : List Obj, H2.length = H.length ∧ (∀ i o, atN z i = some o → atN H ((S j).h.length + i) = some .hole ∧ atN H2 ((S j).h.length + i) = some o) ∧
          (∀ i, ¬((S j).h.length ≤ i ∧ i < (S j).h.length + z.length) → atN H2 i = atN H i) ∧ Hol ops.toList.length S D (add done j) c e H2 := by
        cases hwr : (D j).wr with
        | true => exact g.filled hd hn hh hwr h3 hh1
        | false =>
          rw [hwr] at h2
          have hnil : z = [] := by
            cases z with
            | nil => rfl
            | cons x l => cases h2
          subst hnil
          exact ⟨H, rfl, fun i o ho => by simp [atN] at ho, fun i _ => rfl, stay hwr⟩
      obtain ⟨dst, op, ty, pos, after, guard⟩ := o
      simp only at hbld hd' hag'
      cases op with
      | build t ps =>
        simp only [zPO] at hbld
        split at hbld
        · rename_i τ hτ
          split at hbld
          · rename_i a0 hsel
            split at hbld
            · rename_i vs1 hb
              simp only [Option.some.injEq, Prod.mk.injEq] at hbld
              obtain ⟨rfl, rfl, rfl⟩ := hbld
              have hτb : τ = .st a0 := by
                unfold zTs at hsel
                split at hsel
                · obtain ⟨_, hsel⟩ := zd hsel
                  cases hsel; rfl
                · cases hsel
              subst hτb
              have hty := hE.types t _ hτ
              obtain ⟨i, z, g1, g2, g3, g4⟩ := zI2 (hty.head (by intro a b e; cases e))
              obtain ⟨fs, f1, f2, _⟩ := hty.st
              obtain ⟨places, hpl1, hpl2⟩ := run_places (w := w) f2
              have hstart := hrel.start (fr' := []) (fun t v ht => by simp [look] at ht)
              obtain ⟨cz, k1, k2, k3, k4⟩ := zDk (st := ⟨[], []⟩) hty.chn (zV6 [] a0) (show zcB a0 z.cells.toList = some [] from g3) hstart
              rw [List.append_nil] at k1
              have hagg : ∃ zc, z = .agg zc := by
                have : zhX z = true := g4
                cases z <;> first | exact ⟨_, rfl⟩ | cases this
              obtain ⟨zc, rfl⟩ := hagg
              have hs : ∀ i o', atN (yn [] a0).2 i = some o' → atN H ((S j).h.length + i) = some .hole ∧ atN H2 ((S j).h.length + i) = some (o'.rn ((S j).h.length + ·)) := fun i o' ho' => by
                have := hsz i (o'.sh (S j).h.length) (by rw [qs, List.getElem?_map, ← qs, ho']; rfl)
                exact ⟨this.1, by rw [this.2, Obj.sh_rn]⟩
              rw [List.length_map] at hH2out
              have hfill := hrel.fill k2 hH2len hs hH2out
              have hfs : qg P H2 (m.fill (S j).h.length (yn [] a0).2.length .emp) F a0 ((yn [] a0).1.map (AV.sh1 (S j).h.length)) cz := by
                have := qg.rn (ρ := ((S j).h.length + ·)) (h2 := H2) (m2 := m.fill (S j).h.length (yn [] a0).2.length .emp) (fun v _ i _ o ho => ⟨(hs i o ho).2, MM.fill_f2 _ _ (vj ho), MM.fill_d2 _ _ (vj ho)⟩) k4
                rwa [List.map_congr_left fun x _ => (AV.sh1_rn (S j).h.length x).symm] at this
              have hrdS : ∀ θ x, x ∈ (Op.build t ps).operands → rd E (S j) θ x = rd E ⟨fr, H2⟩ θ x := fun θ x hx => by
                cases x with
                | tmp t => exact (hag' t hx).symm
                | _ => rfl
              have hmapS : (ps.toList.map fun p => (p.1, rd E (S j) (zg3 a0 p.1) p.2)) = ps.toList.map fun p => (p.1, rd E ⟨fr, H2⟩ (zg3 a0 p.1) p.2) := by
                refine List.map_congr_left fun p hp => ?_
                rw [hrdS _ _ (by simp only [Op.operands]; exact List.mem_toArray.2 (List.mem_map.2 ⟨p, hp, rfl⟩))]
              rw [hmapS] at hb
              have hrdv : ∀ (p : Nat × Operand) v, rd E ⟨fr, H2⟩ (zg3 a0 p.1) p.2 = some v → ze P H2 (m.fill (S j).h.length (yn [] a0).2.length .emp) F v (a.eval p.2) := fun p v hv => zD hE hG hfill hv
              have hbf := zF4 (fr := fr) (h2 := H2) hb (fun i jj hm o ho => by
                obtain ⟨p, hp, he⟩ := List.mem_map.1 hm
                simp only [Prod.mk.injEq] at he
                have hrdH : rd E ⟨fr, H⟩ (zg3 a0 p.1) p.2 = some (.ow jj) := by rw [← he.2]; cases p.2 <;> rfl
                have hv1 := zD hE hG hrel hrdH
                obtain ⟨u, hu, hne⟩ := (show zR P H m F (.ow jj) _ from hv1).real (i := jj) (Nat.beq_refl _)
                have hH := g.looks hd hn h1 hh (by
                  rw [hlk]
                  obtain ⟨pi, px⟩ := p
                  cases px with
                  | tmp tt =>
                    have ht : Operand.tmp tt ∈ (Op.build t ps).operands := List.mem_toArray.2 (List.mem_map.2 ⟨_, hp, rfl⟩)
                    exact zI9 (zDn.2 ht) (by rw [← hag' tt ht]; exact hrdH) (by simp [AV.ids, AV.ids1])
                  | const c => exact absurd (Nat.beq_refl jj) (by have := zIC (i := jj) hrdH; simp [AV.has1] at this)
                  | global gl => obtain ⟨_, _, _, e, _⟩ := hE.glob gl _ hrdH; cases e
                  | func f => simp only [rd, Option.map_eq_some_iff] at hrdH; obtain ⟨_, _, e⟩ := hrdH; cases e) ho hu hne
                by_cases hx : (S j).h.length ≤ jj ∧ jj < (S j).h.length + (yn [] a0).2.length
                · have := vj ho
                  omega
                · rw [hH2out jj hx]; exact hH)
              have hsome := zs6 hbf
              have hps := zwk hE hG hfill (θ := fun i => zg3 a0 i) (ps := ps.toList) fun p hp => hsome (p.1, rd E ⟨fr, H2⟩ (zg3 a0 p.1) p.2) (List.mem_map.2 ⟨p, hp, rfl⟩)
              obtain ⟨m', F', cells', r1, r2, r3, r4⟩ := zFZ (place := (places[·]?)) hpl2 (cells := zc) hbf hfill hps (by rw [show zc.toList = cz from k1]; exact hfs)
              have hmap : (ps.map fun x => (x.1, a.eval x.2)).toList = ps.toList.map fun p => (p.1, a.eval p.2) := by simp
              refine qy.val (R := fun u' w' => u' = .agg cells' ∧ w' = w) (u := .agg cells') (w' := w) ?_ ⟨rfl, rfl⟩ _ _ ?_
              · simp only [execOp]
                refine z3 ?_
                unfold Instr.build
                simp only [Sem.run_bind, jH g1 g2, Result.andThen_ok, zi f1, hpl1, hmap, Value.cells, r3, Sem.run_pure]
              · rintro u' w' ⟨rfl, rfl⟩
                refine hK _ _ (fin c e H2 _ _ m' F' hhol (Rel.put r2 hd' ?_))
                rw [hVj]
                exact ⟨cells', rfl, r4⟩
            · cases hbld
          · cases hbld
        · cases hbld
      | _ => cases hbld
theorem Reg.bef (g : Reg E ops.toList bs S V D) (hd : ∀ j, j < ops.toList.length → done j = true → ∀ i, Nat.testBit ((atN bs j).getD 0) i = true → done i = true) {j : Nat} {o : Oper} (hj : ops.toList[j]? = some o)
    (ha : ∀ e ∈ o.after.toList, Region.binds .any e = true → done e.on = true) : ∀ i, Nat.testBit ((atN bs j).getD 0) i = true → done i = true := by
  intro i hi
  obtain ⟨acc, h1, h2⟩ := zT0 ops.toList [] j o hj
  rw [List.length_nil, Nat.zero_add, ← g.bits] at h1
  rw [h1] at hi
  obtain ⟨e, he, hb, h3⟩ := zVi hi
  have hde := ha e he hb
  rcases h3 with rfl | ⟨b, h3, h4⟩
  · exact hde
  · have h5 := h2 _ _ h3
    rw [← g.bits] at h5
    refine hd e.on ?_ hde i (by rw [h5]; exact h4)
    have := (zsU g.data hj).2.2 e he hb
    have := (List.getElem?_eq_some_iff.1 hj).1
    omega
theorem Reg.any (hE : zV P G E) (hG : G.le F0) (hnt : E.nt = nt) (g : Reg E ops.toList bs S V D)
    (hQ : ∀ a w, Inv P nt F0 w0 (S ops.toList.length) a w → Q .normal a w) :
    ∀ (fuel : Nat) (listed : Array Bool) (a : Act) (w : World), listed.size = ops.size → zsV (fun i => listed.getD i false) ops.size ≤ fuel → Mid P nt F0 w0 ops.toList bs S V D (fun i => listed.getD i false) a w → wpAny P .any ops Q fuel listed a w := by
  have hlen : ops.toList.length = ops.size := rfl
  have hfinal : ∀ (listed : Array Bool) (a : Act) (w : World), (∀ i, i < ops.size → listed.getD i false = true) → Mid P nt F0 w0 ops.toList bs S V D (fun i => listed.getD i false) a w → Q .normal a w := by
    intro listed a w hall ⟨hd, c, e, H, hh, fr, m, F, hrel, hV, hO⟩
    apply hQ
    have he : e = ops.toList.length := by
      rcases hh.lst with h0 | h0
      · exact h0
      · rcases Nat.lt_or_ge e ops.toList.length with h1 | h1
        · have := (hh.chg e h1 h0).1 (hall e h1)
          have := hh.ce
          omega
        · have := hh.en; omega
    have hfull := g.full hh fun i h1 h2 h3 => hall i (by rw [he] at h2; exact h2)
    have hh : (S ops.toList.length).h = H := by rw [hfull, he]
    obtain ⟨hs1, hs2⟩ := g.slots (j := ops.toList.length) (Nat.le_refl _)
    refine ⟨m, F, ?_⟩
    have := hrel.frames (fr := (S ops.toList.length).fr) ?_
    · simp only at this
      rw [← hh] at this
      exact this
    · intro t v ht
      by_cases hex : ∃ (i : Nat) (o' : Oper), ops.toList[i]? = some o' ∧ o'.dst = some t
      · obtain ⟨i, o', hi, hdt⟩ := hex
        have hil := (List.getElem?_eq_some_iff.1 hi).1
        rw [hs1 i o' t hi hil hdt] at ht
        simp only
        rw [hV i o' t hi (hall i hil) hdt]; exact ht
      · have hno : ∀ (i : Nat) (o' : Oper), ops.toList[i]? = some o' → o'.dst ≠ some t := fun i o' hi hdt => hex ⟨i, o', hi, hdt⟩
        rw [hs2 t fun i o' hi _ => hno i o' hi] at ht
        simp only
        rw [hO t hno]; exact ht
  have hready : ∀ (listed : Array Bool) , listed.size = ops.size → (∀ j, j < ops.toList.length → (listed.getD j false) = true → ∀ i, Nat.testBit ((atN bs j).getD 0) i = true → listed.getD i false = true) → ∀ j, j < ops.size → listed.getD j false = false → Region.ready .any ops listed ≠ [] := by
    intro listed hsz hd j
    induction j using Nat.strongRecOn with
    | _ j ih =>
      intro hj hu hr
      have hget : ops.toList[j]? = some ops.toList[j] := List.getElem?_eq_getElem (show j < ops.toList.length from hj)
      have hback := (zsU g.data hget).2.2
      by_cases hall : ∀ e ∈ ops.toList[j].after.toList, Region.binds .any e = true → listed.getD e.on false = true
      · have hmem : j ∈ Region.ready .any ops listed := by
          rw [mem_ready]
          refine ⟨?_, ops.toList[j], by rw [← Array.getElem?_toList]; exact hget, fun e he hb => hall e (by simpa using he) hb⟩
          have : j < listed.size := by omega
          simpa [Array.getD, this] using hu
        rw [hr] at hmem
        cases hmem
      · obtain ⟨e, hne⟩ := Classical.not_forall.1 hall
        simp only [Classical.not_imp] at hne
        obtain ⟨he, hb, hf⟩ := hne
        have hlt := hback e he hb
        exact ih e.on hlt (by omega) (by simpa using hf) hr
  intro fuel
  induction fuel with
  | zero =>
    intro listed a w hsz hleft hm
    have hall := zOo (n := ops.size) (Nat.le_zero.1 hleft)
    refine ⟨?_, hfinal listed a w hall hm⟩
    cases hr : Region.ready .any ops listed with
    | nil => rfl
    | cons x l =>
      have hx : x ∈ Region.ready .any ops listed := by rw [hr]; simp
      obtain ⟨h1, o, h2, _⟩ := mem_ready.1 hx
      have hlt := (Array.getElem?_eq_some_iff.1 h2).1
      have := hall x hlt
      have hl : x < listed.size := by omega
      simp [Array.getD, hl] at this h1
      rw [h1] at this; cases this
  | succ fuel ih =>
    intro listed a w hsz hleft hm
    constructor
    · intro hr
      refine hfinal listed a w (fun i hi => ?_) hm
      cases hdi : listed.getD i false with
      | true => rfl
      | false => exact absurd hr (hready listed hsz hm.down i hi hdi)
    · intro j hj
      obtain ⟨h1, o, h2, h3⟩ := mem_ready.1 hj
      have hlt := (Array.getElem?_eq_some_iff.1 h2).1
      have hl : j < listed.size := by omega
      have hu : listed.getD j false = false := by simpa [Array.getD, hl] using h1
      have hadd : add (fun i => listed.getD i false) j = fun i => (listed.setIfInBounds j true).getD i false := by
        funext i
        unfold add
        by_cases e : i = j
        · subst e; simp [hl]
        · rw [if_neg e, getD_set_ne false (Ne.symm e)]
      refine g.go hE hG hnt hm ⟨hlt, hu, g.bef hm.down (by rw [Array.getElem?_toList]; exact h2) fun e he hb => h3 e (by simpa using he) hb⟩ fun a' w' hm' => ?_
      rw [hadd] at hm'
      refine ih _ _ _ (by simpa using hsz) ?_ hm'
      have := left_step (f := fun i => listed.getD i false) (g := fun i => (listed.setIfInBounds j true).getD i false) (n := ops.size) (j := j) hu (by simp [hl]) (fun i hi => getD_set_ne false (Ne.symm hi))
      rw [if_pos hlt] at this
      omega
theorem zWT {k : St → Option R} {r : R} {st : St} {a : Act} {w : World} {id : Nat} (hm : P.follows .mixedOrders = true) (hE : zV P G E) (hG : G.le F0) (hnt : E.nt = nt) (hdata : zKx (zsS ops.toList []) ops.toList = true)
    (hQ : ∀ st a w, Inv P nt F0 w0 st a w → k st = some r → Q .normal a w) (hi : Inv P nt F0 w0 st a w) (he : evD E ops.toList (zsS ops.toList []) ops.toList 0 [] st k = some r) : (Code.region id ops true).wp P Q a w := by
  refine wp_region_any hm ?_
  obtain ⟨S, V, D, h1, h2, h3, h4, h5, h6⟩ := zOn ops.toList 0 [] st he
  have g : Reg E ops.toList (zsS ops.toList []) S V D := ⟨hdata, rfl, h3, fun i o hi => by have := h4 i o hi; simpa using this, fun i i' hii hl => by have := h6 i i' hii hl; simpa using this⟩
  obtain ⟨m, F, hrel⟩ := hi
  rw [Nat.zero_add] at h2
  refine g.any hE hG hnt (fun a w hi => hQ _ a w hi h2) ops.size _ a _ (by simp) ?_ ?_
  · rw [zOp]
    · exact Nat.le_refl _
    · intro i hi; simp [hi]
  · obtain ⟨e, n, hh⟩ := g.open (done := fun i => (Array.replicate ops.size false).getD i false) (c := 0) (Nat.zero_le _) (.inl rfl) (fun i hi _ => by
        have : i < ops.size := hi
        simp [this]) (fun i _ hi _ => by
        have : i < ops.size := hi
        simp [this])
    refine ⟨fun j hj hdj => ?_, 0, e, _, hh, (S 0).fr, m, F, ?_, fun i o d hi hdi => ?_, fun t _ => rfl⟩
    · have : j < ops.size := hj
      simp [this] at hdj
    · rw [h1]; exact hrel.drew.holes n
    · have : i < ops.size := (List.getElem?_eq_some_iff.1 hi).1
      simp [this] at hdi
end
end Go.Ev
end
section
namespace Go.Ev
open Go.RowKit
set_option linter.unusedSimpArgs false
set_option linter.unusedVariables false
theorem zK3 : ∀ {l : List Nat} {i : Nat}, i ∈ l → l[idxOf l i]? = some i
  | x :: l, i, h => by
    by_cases e : x = i
    · subst e; simp [idxOf, beq_self]
    · have hm : i ∈ l := by
        rcases List.mem_cons.1 h with h | h
        · exact absurd h.symm e
        · exact h
      simp only [idxOf, zeJ e, cond_false, List.getElem?_cons_succ]
      exact zK3 hm
theorem zAE : ∀ {l : List Nat}, zFV l = true → ∀ (i j x : Nat), l[i]? = some x → l[j]? = some x → i = j
  | [], _, i, _, x, hi, _ => by simp at hi
  | y :: l, h, i, j, x, hi, hj => by
    simp only [zFV, Bool.and_eq_true, Bool.not_eq_true'] at h
    have hno : ∀ k, l[k]? ≠ some y := fun k hk => by
      have := zwm.2 (List.mem_of_getElem? hk)
      rw [h.1] at this; cases this
    cases i with
    | zero =>
      simp only [List.getElem?_cons_zero, Option.some.injEq] at hi
      subst hi
      cases j with
      | zero => rfl
      | succ j => exact absurd (by simpa using hj) (hno j)
    | succ i =>
      cases j with
      | zero =>
        simp only [List.getElem?_cons_zero, Option.some.injEq] at hj
        subst hj
        exact absurd (by simpa using hi) (hno i)
      | succ j =>
        rw [zAE h.2 i j x (by simpa using hi) (by simpa using hj)]
section
variable {P : Program} {nt : Nat} {F0 F : FH} {w0 w : World} {st : St} {m : MM} {a : Act}
theorem zmJ {l : List Nat} {v : AV} {i : Nat} (hv : v.okG1 l = true) (hi : v.has1 i = true) : i ∈ l := by
  cases v <;> simp only [AV.has1] at hi <;> first | (cases hi; done) | (rw [← Nat.eq_of_beq_eq_true hi]; exact zwm.1 hv)
theorem zTg {l : List Nat} {v : AV} {i : Nat} (ht : ∀ vs, v ≠ .tup vs) (hv : v.okG l = true) (hi : v.has i = true) : i ∈ l := by
  cases v with
  | tup vs => exact absurd rfl (ht vs)
  | fld b vs =>
    simp only [AV.has, List.any_eq_true] at hi
    obtain ⟨x, hx, hi⟩ := hi
    simp only [AV.okG, List.all_eq_true] at hv
    exact zmJ (hv x hx) hi
  | dat τ x => cases hi
  | clip τ x => cases hi
  | dead => cases hi
  | bp id p => exact zmJ (v := .bp id p) hv hi
  | rp id i p => exact zmJ (v := .rp id i p) hv hi
  | ow id => exact zmJ (v := .ow id) hv hi
  | om id => exact zmJ (v := .om id) hv hi
  | ds id i p => exact zmJ (v := .ds id i p) hv hi
  | dp id i p j q => exact zmJ (v := .dp id i p j q) hv hi
def MM.sel (m : MM) (l : List Nat) : MM := ⟨fun j => (l[j]?).bind m, fun j => match l[j]? with | some i => m.d i | none => fun _ _ => none⟩
theorem MM.sel_f {m : MM} {l : List Nat} {j : Nat} {b : Nat × Nat} (h : (m.sel l) j = some b) : ∃ i, l[j]? = some i ∧ m i = some b := Option.bind_eq_some_iff.1 h
theorem MM.sel_d {m : MM} {l : List Nat} {i k : Nat} {p : List Nat} {b : Nat × Nat} (h : (m.sel l).d i k p = some b) : ∃ x, l[i]? = some x ∧ m.d x k p = some b := by
  simp only [MM.sel] at h
  cases hx : l[i]? with
  | none => rw [hx] at h; cases h
  | some x => rw [hx] at h; exact ⟨x, rfl, h⟩
theorem MM.sel_at {m : MM} {l : List Nat} {i x : Nat} (h : l[i]? = some x) : (m.sel l) i = m x ∧ (m.sel l).d i = m.d x := by
  simp only [MM.sel, h, Option.bind_some, and_self]
theorem zT3 (l : List Nat) (hi : Inv P nt F0 w0 st a w) : Inv P nt F0 w0 (zP3 l st) a w := by
  unfold zP3
  cases hc : (zFV l && (st.fr.all (fun p => p.2.okG l) && l.all fun i => match atN st.h i with | some o => o.okG l | none => true)) with
  | false => exact hi
  | true =>
    simp only [Bool.and_eq_true] at hc
    obtain ⟨h1, h2, h3⟩ := hc
    obtain ⟨m, F, h⟩ := hi
    refine ⟨m.sel l, F, ?_⟩
    have hR : ∀ i, i ∈ l → ∀ o, atN st.h i = some o → atN (l.map fun i => ((atN st.h i).getD .gone).ren l) (idxOf l i) = some (o.rn (idxOf l)) ∧ (m.sel l) (idxOf l i) = m i ∧ (m.sel l).d (idxOf l i) = m.d i := by
      intro i hil o ho
      have := zK3 hil
      refine ⟨?_, MM.sel_at this⟩
      rw [qs, List.getElem?_map, this, Option.map_some, ho, Option.getD_some, Obj.ren_rn]
    have hV : ∀ {v : AV} {u : Value}, v.okG l = true → zR P st.h m F v u → zR P (l.map fun i => ((atN st.h i).getD .gone).ren l) (m.sel l) F (v.ren l) u := by
      intro v u hv hr
      rw [AV.ren_rn]
      exact hr.rn fun i hi o ho => hR i (zTg (fun vs e => by subst e; exact hr.elim) hv hi) o ho
    refine ⟨h.nt, fun t v ht => ?_, fun j u hu => ?_, fun i j b n n' hi hj => ?_, fun j b n hj => ?_, fun i j p b n hp => ?_, fun i1 j1 p1 b n i2 j2 p2 n' q1 q2 => ?_, h.fok, h.gro, h.bel, h.dfr⟩
    · simp only [cond_true] at ht
      rw [zP4] at ht
      obtain ⟨x, hx, rfl⟩ := Option.map_eq_some_iff.1 ht
      have hmem : ∀ (fr : List (Nat × AV)), look fr t = some x → ∃ p ∈ fr, p.2 = x := by
        intro fr
        induction fr with
        | nil => intro h; simp [look] at h
        | cons p fr ih =>
          intro h
          obtain ⟨k, y⟩ := p
          simp only [look] at h
          cases hb : Nat.beq k t with
          | true => rw [hb] at h; simp only [cond_true, Option.some.injEq] at h; exact ⟨(k, y), by simp, h⟩
          | false => rw [hb] at h; obtain ⟨p, hp, e⟩ := ih h; exact ⟨p, by simp [hp], e⟩
      obtain ⟨p, hp, rfl⟩ := hmem _ hx
      have hok := List.all_eq_true.1 h2 p hp
      have hr := h.fr t p.2 hx
      simp only [cond_true]
      cases hpv : p.2 with
      | tup vs =>
        rw [hpv] at hok hr
        exact ze.pure (h := st.h) (m := m) hok hr
      | _ =>
        rw [hpv] at hok hr
        rw [ze.eq1 (by intro vs e; cases e)] at hr
        refine ze.of1 ?_
        exact hV hok hr
    · simp only [cond_true] at hu ⊢
      rw [qs, List.getElem?_map] at hu
      obtain ⟨i, hi, rfl⟩ := Option.map_eq_some_iff.1 hu
      have hok := List.all_eq_true.1 h3 i (List.mem_of_getElem? hi)
      cases ho : atN st.h i with
      | none => rw [Option.getD_none]; trivial
      | some o =>
        rw [ho] at hok
        rw [Option.getD_some, Obj.ren_rn]
        refine (h.obs i o ho).rn (fun v f e i' hi' o' ho' => hR i' ?_ o' ho') (MM.sel_at hi).1 (MM.sel_at hi).2
        subst e
        refine zTg (fun vs e => ?_) hok hi'
        subst e
        obtain ⟨_, _, _, _, _, _, _, h5, _⟩ := (h.obs i _ ho)
        exact h5.elim
    · obtain ⟨x, hx, hi⟩ := MM.sel_f hi
      obtain ⟨y, hy, hj⟩ := MM.sel_f hj
      have := h.inj _ _ _ _ _ hi hj
      subst this
      exact zAE h1 i j x hx hy
    · obtain ⟨x, hx, hj⟩ := MM.sel_f hj
      have := h.rng _ _ _ hj
      refine ⟨?_, this.2⟩
      simp only [cond_true, List.length_map]
      exact (List.getElem?_eq_some_iff.1 hx).1
    · obtain ⟨x, hx, hp⟩ := MM.sel_d hp
      obtain ⟨⟨o, g1, g2⟩, g3, g4, g5, g6⟩ := h.dok _ _ _ _ _ hp
      refine ⟨⟨o.rn (idxOf l), ?_, by rw [zF3]; exact g2⟩, g3, g4, g5, fun i' n' hi' => ?_⟩
      · simp only [cond_true]
        rw [qs, List.getElem?_map, hx, Option.map_some, g1, Option.getD_some, Obj.ren_rn]
      · obtain ⟨y, hy, hi'⟩ := MM.sel_f hi'
        exact g6 _ _ hi'
    · obtain ⟨x, hx, q1⟩ := MM.sel_d q1
      obtain ⟨y, hy, q2⟩ := MM.sel_d q2
      obtain ⟨rfl, e2, e3⟩ := h.din _ _ _ _ _ _ _ _ _ q1 q2
      exact ⟨zAE h1 i1 i2 x hx hy, e2, e3⟩
theorem zQr (hi : Inv P nt F0 w0 st a w) : Inv P nt F0 w0 (St.gc st) a w := zT3 _ hi
theorem zJa (live : Nat) (hi : Inv P nt F0 w0 st a w) : Inv P nt F0 w0 ⟨zP0 live st.fr, st.h⟩ a w := by
  obtain ⟨m, F, h⟩ := hi
  exact ⟨m, F, h.frames fun t v ht => zAz (fun t => Nat.testBit live t) st.fr t v ht⟩
end
end Go.Ev
end
section
namespace Go.Ev
open Go.RowKit
set_option linter.unusedSimpArgs false
set_option linter.unusedVariables false
def Ex.of : Ex → Exit
  | .normal => .normal
  | .exit id => .exit id
  | .ret => .ret
section
variable {P : Program} {nt : Nat} {F0 G : FH} {w0 w : World} {E : Env} {R : Type} {a : Act} {Q : Exit → Act → World → Prop}
theorem zQs {p : Nat → Prop} (h : ∃ n, p n) : ∃ n, p n ∧ ∀ m, p m → n ≤ m := by
  obtain ⟨n, hn⟩ := h
  induction n using Nat.strongRecOn with
  | _ n ih =>
    by_cases hm : ∃ m, m < n ∧ p m
    · obtain ⟨m, h1, h2⟩ := hm
      exact ih m h1 h2
    · refine ⟨n, hn, fun m h => ?_⟩
      rcases Nat.lt_or_ge m n with h1 | h1
      · exact absurd ⟨m, h1, h⟩ hm
      · exact h1
open Classical in
noncomputable def leastOf (X : Nat → Act → World → Prop) (a : Act) (w : World) : Nat := if h : ∃ n, X n a w then Classical.choose (zQs h) else 0
theorem zVj {c : Code} (X : Nat → Act → World → Prop) (round : ∀ n a w, X n a w → c.wp P (Exit.then (fun a' w' => ∃ m, m < n ∧ X m a' w') Q) a w) {n : Nat} (h : X n a w) : (Code.loop c).wp P Q a w := by
  have hspec : ∀ {a : Act} {w : World}, (∃ n, X n a w) → X (leastOf X a w) a w ∧ ∀ m, X m a w → leastOf X a w ≤ m := by
    intro a w h
    unfold leastOf
    rw [dif_pos h]
    exact Classical.choose_spec (zQs h)
  refine wp_loop (fun a w => ∃ n, X n a w) (leastOf X) ⟨n, h⟩ fun a w hI => ?_
  refine wp_mono (round _ a w (hspec hI).1) fun e a' w' hq => ?_
  cases e with
  | normal =>
    obtain ⟨m, h1, h2⟩ := hq
    exact ⟨⟨m, h2⟩, Nat.lt_of_le_of_lt ((hspec ⟨m, h2⟩).2 m h2) h1⟩
  | _ => exact hq
def Goes (P : Program) (nt : Nat) (F0 : FH) (w0 : World) (k : Ex → St → Option R) (r : R) (Q : Exit → Act → World → Prop) : Prop :=
  ∀ e st a w, Inv P nt F0 w0 st a w → k e st = some r → Q e.of a w
theorem zTh {K id ln : Nat} {r : R} {k : St → Option R} {Q : Exit → Act → World → Prop} (hQ : ∀ st a w, Inv P nt F0 w0 st a w → k st = some r → Q .normal a w) : ∀ st a w, Inv P nt F0 w0 st a w → jr E K id ln k st = some r → Q .normal a w := by
  intro st a w hi hk
  unfold jr at hk
  cases hb : zAy id E.jn with
  | false => rw [hb] at hk; exact hQ st a w hi hk
  | true =>
    rw [hb] at hk
    cases K with
    | zero => cases hk
    | succ K => exact hQ _ _ _ (zQr (zJa _ hi)) hk
theorem zWU (hm : P.follows .mixedOrders = true) (hE : zV P G E) (hG : G.le F0) (hnt : E.nt = nt) {K fin : Nat} {r : R} :
    ∀ (c : Code) {lx : Nat → Nat} {ln : Nat} {k : Ex → St → Option R} {st : St} {a : Act} {w : World} {Q : Exit → Act → World → Prop}, Goes P nt F0 w0 k r Q → Inv P nt F0 w0 st a w → evC E K fin c lx ln k st = some r → c.wp P Q a w := by
  intro c
  induction c with
  | skip => intro lx ln k st a w Q hQ hi he; exact wp_skip (hQ .normal _ _ _ hi he)
  | label l => intro lx ln k st a w Q hQ hi he; exact wp_label (hQ .normal _ _ _ hi he)
  | exit id => intro lx ln k st a w Q hQ hi he; exact wp_exit (hQ (.exit id) _ _ _ hi he)
  | ret => intro lx ln k st a w Q hQ hi he; exact wp_ret (hQ .ret _ _ _ hi he)
  | region id ops d =>
    intro lx ln k st a w Q hQ hi he
    simp only [evC] at he
    cases d with
    | true =>
      simp only [cond_true] at he
      obtain ⟨h1, h2⟩ := zd he
      exact zWT hm hE hG hnt h1 (zTh fun st a w hi hk => hQ .normal _ _ _ hi hk) hi h2
    | false =>
      simp only [cond_false] at he
      refine wp_region ?_
      have := zVf (Q := Q) hE hG hnt (zTh fun st a w hi hk => hQ .normal _ _ _ hi hk) ops.toList [] st a w rfl hi he
      rw [List.range_eq_range']
      exact this
  | seq x y ihx ihy =>
    intro lx ln k st a w Q hQ hi he
    simp only [evC] at he
    refine wp_seq (ihx ?_ hi he)
    intro e st a w hi hk
    cases e with
    | normal => exact ihy hQ hi hk
    | exit id => exact hQ (.exit id) _ _ _ hi hk
    | ret => exact hQ .ret _ _ _ hi hk
  | cond c x y ihx ihy =>
    intro lx ln k st a w Q hQ hi he
    simp only [evC] at he
    split at he
    · rename_i t hc
      obtain ⟨m, F, h⟩ := id hi
      have hb := (zD hE hG h hc).bool
      cases ht : (show Bool from t) with
      | true =>
        have ht' : t = true := ht
        subst ht'
        exact wp_cond_true hb (ihx hQ hi he)
      | false =>
        have ht' : t = false := ht
        subst ht'
        exact wp_cond_false hb (ihy hQ hi he)
    · cases he
  | block id b ih =>
    intro lx ln k st a w Q hQ hi he
    simp only [evC] at he
    refine wp_block (ih ?_ hi he)
    intro e st a w hi hk
    cases e with
    | normal => exact hQ .normal _ _ _ hi hk
    | exit id' =>
      simp only [Ex.of, Exit.inBlock]
      by_cases e : id' = id
      · subst e
        rw [if_pos rfl]
        simp only [beq_self, cond_true] at hk
        exact hQ .normal _ _ _ hi hk
      · rw [if_neg e]
        simp only [zeJ e, cond_false] at hk
        exact hQ (.exit id') _ _ _ hi hk
    | ret => exact hQ .ret _ _ _ hi hk
  | loop b ih =>
    intro lx ln k st a w Q hQ hi he
    simp only [evC] at he
    refine zVj (fun n a w => ∃ st, Inv P nt F0 w0 st a w ∧ zHw (lv fin (.loop b) lx ln) (evC E K fin b lx (lv fin (.loop b) lx ln)) k n st = some r) ?_ ⟨_, zQr (zJa _ hi), he⟩
    rintro n a w ⟨st, hi, he⟩
    cases n with
    | zero => cases he
    | succ n =>
      simp only [zHw] at he
      refine ih ?_ hi he
      intro e st a w hi hk
      cases e with
      | normal => exact ⟨n, Nat.lt_succ_self n, _, zQr (zJa _ hi), hk⟩
      | exit id => exact hQ (.exit id) _ _ _ hi hk
      | ret => exact hQ .ret _ _ _ hi hk
  | scope b ih =>
    intro lx ln k st a w Q hQ hi he
    simp only [evC] at he
    refine wp_scope_straight (ih ?_ hi he)
    intro e st a w hi hk
    cases e with
    | normal => exact hQ .normal _ _ _ hi hk
    | exit id => exact hQ (.exit id) _ _ _ hi hk
    | ret => exact hQ .ret _ _ _ hi hk
  | _ => intro lx ln k st a w Q hQ hi he; simp [evC] at he
end
end Go.Ev
end
section
namespace Go.Ev
open Go.RowKit
set_option linter.unusedSimpArgs false
set_option linter.unusedVariables false
section
variable {P : Program} {nt : Nat} {F0 F G : FH} {w0 w : World} {st st' : St} {m : MM} {a : Act} {E : Env} {v : AV} {u : Value}
theorem zSo : ∀ {τ : Ty} {x : τ.I} {i t : Nat} {v : AV} {vs : List Value}, look (params τ x i) t = some v → vS P F τ x vs → i ≤ t ∧ ∃ σ y u, v = .dat σ y ∧ vs[t - i]? = some u ∧ z6 P F σ y u := by
  intro τ
  induction τ with
  | pair a b _ ihb =>
    rintro x i t v vs h ⟨u, r, rfl, h1, h2, h3⟩
    simp only [params] at h
    by_cases e : i = t
    · subst e
      simp only [look, beq_self, cond_true, Option.some.injEq] at h
      exact ⟨Nat.le_refl _, a, x.1, u, h.symm, by simp, h1, h2⟩
    · simp only [look, zeJ e, cond_false] at h
      obtain ⟨g1, σ, y, u', g2, g3, g4⟩ := ihb h h3
      refine ⟨by omega, σ, y, u', g2, ?_, g4⟩
      rw [show t - i = (t - (i + 1)) + 1 by omega, List.getElem?_cons_succ]
      exact g3
  | _ => intro x i t v vs h; simp [params, look] at h
theorem Rel.enter {τ : Ty} {x : τ.I} {vs : List Value} (hk : F0.ok w) (hr : vS P F0 τ x vs) (n : Nat) :
    Rel P n F0 w ⟨params τ x 0, []⟩ MM.emp F0 { tmps := vs.toArray ++ Array.replicate (n - vs.toArray.size) undef, defers := [] } w := by
  refine ⟨by simp; omega, fun t v ht => ?_, fun i o ho => (by simp [atN] at ho), fun _ _ _ _ _ h => (nomatch h), fun _ _ _ h => (nomatch h), fun _ _ _ _ _ h => (nomatch h), fun _ _ _ _ _ _ _ _ _ h => (nomatch h), hk, ⟨.refl F0, fun _ _ => rfl⟩, ⟨rfl, rfl, rfl, Nat.le_refl _, fun _ _ => rfl⟩, rfl⟩
  obtain ⟨_, σ, y, u, rfl, h2, h3⟩ := zSo ht hr
  rw [Nat.sub_zero] at h2
  have hlt := (List.getElem?_eq_some_iff.1 h2).1
  have : (vs.toArray ++ Array.replicate (n - vs.toArray.size) undef).getD t undef = u := by
    rw [Array.getD_eq_getD_getElem?, Array.getElem?_append_left (by simpa using hlt)]
    simp [h2]
  rw [this]
  exact h3
def zF5 (tmps : Array Value) : ResultVar → Sem Value
  | .tmp t => pure (tmps.getD t undef)
  | .cell a t => do loadVar t (← asAddr (tmps.getD a undef))
theorem zT4 (fn : Func) (tmps : Array Value) : results fn tmps = (do let vs ← fn.results.mapM (zF5 tmps); pure (if h : vs.size = 1 then vs[0] else .tuple vs)) := rfl
theorem zVk {rv : ResultVar} (hE : zV P G E) (h : Rel P nt F0 w0 st m F a w) (hr : zzr E st rv = some v) :
    ∃ u, (zF5 a.tmps rv).run P w = .ok u w ∧ ze P st.h m F v u := by
  cases rv with
  | tmp t => exact ⟨_, rfl, h.fr t v hr⟩
  | cell d t =>
    simp only [zzr] at hr
    split at hr
    · rename_i id hl
      have hx := h.fr d _ hl
      have key : ∀ (y : AV) (f : Bool), atN st.h id = some (.bx y f) → y4 E t (.bp id []) st pk = some (v, st) →
          ∃ u, (zF5 a.tmps (.cell d t)).run P w = .ok u w ∧ ze P st.h m F v u := by
        intro y f ho he
        obtain ⟨u, h1, _, h2⟩ := zDd hE h hx he
        obtain ⟨b, n, off, _, hp, _⟩ := hx.bpAt ho
        refine ⟨u, ?_, h2⟩
        simp only [zF5]
        rw [hp] at h1 ⊢
        simpa [Instr.loadAt, Instr.sureAddr, asAddr] using h1
      split at hr
      · rename_i τ x f ho
        obtain ⟨h1, h2⟩ := zd hr
        cases h2
        refine key _ _ ho ?_
        simp only [y4, ho, qd, h1, cond_true]
        unfold kAV
        split
        · have : ∀ b : Bool, kB b st pk = some (.dat .bool b, st) := fun b => by cases b <;> rfl
          rename_i b hq
          cases hq
          exact this b
        · rfl
      · rename_i b vs f ho
        obtain ⟨h1, h2⟩ := zd hr
        cases h2
        refine key _ _ ho ?_
        simp only [y4, ho, h1, cond_true]
      · rename_i y f hnd hnf ho
        obtain ⟨h1, h2⟩ := zd hr
        cases h2
        refine key _ _ ho ?_
        simp only [y4, ho]
        cases v <;> first | (simp only [h1, cond_true]; done) | exact absurd rfl (hnd _ _) | exact absurd rfl (hnf _ _) | (simp only [h1, cond_true]; rfl)
      · cases hr
    · cases hr
theorem zSp {f : Func} {vs : List AV} (hE : zV P G E) (h : Rel P nt F0 w0 st m F a w) (hr : f.results.toList.map (zzr E st) = vs.map some) :
    ∃ us, (results f a.tmps).run P w = .ok (zC9 us) w ∧ zmr P st.h m F vs us := by
  have key : ∀ (l : List ResultVar) (vs : List AV), l.map (zzr E st) = vs.map some → ∃ us : List Value, (l.mapM (zF5 a.tmps)).run P w = .ok us w ∧ zmr P st.h m F vs us := by
    intro l
    induction l with
    | nil =>
      intro vs h
      cases vs with
      | nil => exact ⟨[], by simp, rfl⟩
      | cons _ _ => simp at h
    | cons rv l ih =>
      intro vs hl
      cases vs with
      | nil => simp at hl
      | cons v vs =>
        simp only [List.map_cons, List.cons.injEq] at hl
        obtain ⟨us, h1, h2⟩ := ih vs hl.2
        obtain ⟨u, h3, h4⟩ := zVk hE h hl.1
        refine ⟨u :: us, ?_, u, us, rfl, h4, h2⟩
        simp only [List.mapM_cons, Sem.run_bind]
        rw [h3]
        simp only [Result.andThen_ok, h1, Sem.run_pure]
  obtain ⟨us, h1, h2⟩ := key _ _ hr
  refine ⟨us, ?_, h2⟩
  rw [zT4, Array.mapM_eq_mapM_toList, ← bind_pure_comp]
  simp only [Sem.run_bind, h1, Result.andThen_ok, Sem.run_pure]
  match us with
  | [] => rfl
  | [u] => rfl
  | u :: v :: us => rfl
theorem zEF {α : Type} : ∀ {l : List (Option α)}, l.all Option.isSome = true → l = (l.filterMap id).map some
  | [], _ => rfl
  | none :: l, h => by simp at h
  | some x :: l, h => by
    simp only [List.all_cons, Option.isSome_some, Bool.true_and] at h
    simp only [List.filterMap_cons, id, List.map_cons, ← zEF h]
def zbR (h0 h : List Obj) : Prop := h0.length = h.length ∧ ∀ i, atN h0 i = some .gone ∨ atN h0 i = atN h i
theorem zbR.refl (h : List Obj) : zbR h h := ⟨rfl, fun _ => .inr rfl⟩
theorem zbR.at {h0 h : List Obj} (l : zbR h0 h) {i : Nat} {o : Obj} (ho : atN h0 i = some o) (hg : o ≠ .gone) : atN h i = some o := by
  rcases l.2 i with e | e
  · rw [e] at ho; cases ho; exact absurd rfl hg
  · rw [← e]; exact ho
theorem zbR.gone {h0 h : List Obj} (l : zbR h0 h) {i : Nat} {o : Obj} (ho : atN h0 i = some o) : zbR (zg h0 i .gone) h := by
  refine ⟨by simp only [vg, List.length_set]; exact l.1, fun j => ?_⟩
  by_cases e : i = j
  · subst e; exact .inl (zbo ho)
  · rw [qY e]; exact l.2 j
theorem zbR.set {h0 h : List Obj} (l : zbR h0 h) {i : Nat} {o o' : Obj} (ho : atN h0 i = some o) (hg : o ≠ .gone) : zbR (zg h0 i o') (zg h i o') := by
  refine ⟨by simp only [vg, List.length_set]; exact l.1, fun j => ?_⟩
  by_cases e : i = j
  · subst e; right; rw [zbo ho, zbo (l.at ho hg)]
  · rw [qY e, qY e]; exact l.2 j
def Kept (h0 h h0' h' : List Obj) : Prop := zbR h0' h' ∧ ∀ i, atN h0 i = some .gone → atN h0' i = some .gone ∧ atN h' i = atN h i
theorem Kept.refl {h0 h : List Obj} (l : zbR h0 h) : Kept h0 h h0 h := ⟨l, fun _ h => ⟨h, rfl⟩⟩
theorem Kept.trans {h0 h h1 h' h2 h'' : List Obj} (a : Kept h0 h h1 h') (b : Kept h1 h' h2 h'') : Kept h0 h h2 h'' :=
  ⟨b.1, fun i hi => ⟨(b.2 i (a.2 i hi).1).1, (b.2 i (a.2 i hi).1).2.trans (a.2 i hi).2⟩⟩
theorem Kept.set {h0 h : List Obj} (l : zbR h0 h) {i : Nat} {o o' : Obj} (ho : atN h0 i = some o) (hg : o ≠ .gone) : Kept h0 h (zg h0 i o') (zg h i o') := by
  refine ⟨l.set ho hg, fun j hj => ?_⟩
  have e : i ≠ j := by rintro rfl; rw [ho] at hj; cases hj; exact hg rfl
  rw [qY e, qY e]; exact ⟨hj, rfl⟩
theorem zs8 {q : Bool} {fr : List (Nat × AV)} {h0 h : List Obj} {τ : Ty} {x : τ.I} {st' : St} (l : zbR h0 h) (hz : j7 q ⟨fr, h0⟩ v = some ⟨τ, x, st'⟩) : ∃ h', j7 q ⟨fr, h⟩ v = some ⟨τ, x, ⟨fr, h'⟩⟩ ∧ st'.fr = fr ∧ Kept h0 h st'.h h' := by
  cases v with
  | dat τ' y => simp only [j7, Option.some.injEq] at hz; cases hz; exact ⟨h, rfl, rfl, .refl l⟩
  | clip τ' y => simp only [j7, Option.some.injEq] at hz; cases hz; exact ⟨h, rfl, rfl, .refl l⟩
  | ow id =>
    simp only [j7] at hz ⊢
    split at hz
    · rename_i σ xs ho
      cases hz
      rw [l.at ho (by intro e; cases e)]
      exact ⟨h, rfl, rfl, .refl l⟩
    · rename_i σ xs ho
      cases q with
      | true => cases hz
      | false =>
        cases hz
        rw [l.at ho (by intro e; cases e)]
        exact ⟨_, rfl, rfl, .set l ho (by intro e; cases e)⟩
    · rename_i σ xs k ho
      cases q with
      | true => cases hz
      | false =>
        cases hz
        rw [l.at ho (by intro e; cases e)]
        exact ⟨_, rfl, rfl, .set l ho (by intro e; cases e)⟩
    · cases hz
  | bp id p =>
    cases p with
    | cons _ _ => simp [j7] at hz
    | nil =>
      simp only [j7] at hz ⊢
      split at hz
      · rename_i σ y ho
        cases hz
        rw [l.at ho (by intro e; cases e)]
        exact ⟨h, rfl, rfl, .refl l⟩
      · rename_i σ y ho
        cases q with
        | true => cases hz
        | false =>
          cases hz
          rw [l.at ho (by intro e; cases e)]
          exact ⟨_, rfl, rfl, .set l ho (by intro e; cases e)⟩
      · cases hz
  | _ => simp [j7] at hz
theorem zSq {q : Bool} {σ : Ty} {fr : List (Nat × AV)} {h0 h : List Obj} {x : σ.I} {st' : St} (l : zbR h0 h) (hz : zcA q σ ⟨fr, h0⟩ v = some (x, st')) : ∃ h', zcA q σ ⟨fr, h⟩ v = some (x, ⟨fr, h'⟩) ∧ st'.fr = fr ∧ Kept h0 h st'.h h' := by
  unfold zcA at hz ⊢
  split at hz
  · rename_i τ y st1 hz1
    obtain ⟨h', e1, e2, e3⟩ := zs8 l hz1
    rw [e1]
    split at hz
    · rename_i z hc
      cases hz
      exact ⟨h', by simp only [hc], e2, e3⟩
    · cases hz
  · cases hz
theorem zQt {q : Bool} {fr : List (Nat × AV)} : ∀ {τ : Ty} {vs : List AV} {h0 h : List Obj} {x : τ.I} {st' : St}, zbR h0 h → vo q τ vs ⟨fr, h0⟩ = some (x, st') → ∃ h', vo q τ vs ⟨fr, h⟩ = some (x, ⟨fr, h'⟩) ∧ st'.fr = fr ∧ Kept h0 h st'.h h' := by
  intro τ
  induction τ with
  | unit => intro vs h0 h x st' l hz; cases vs <;> first | (cases hz; exact ⟨h, rfl, rfl, .refl l⟩) | cases hz
  | pair a b _ ihb =>
    intro vs h0 h x st' l hz
    cases vs with
    | nil => cases hz
    | cons v vs =>
      simp only [vo] at hz ⊢
      split at hz
      · rename_i y st1 hy
        split at hz
        · rename_i ys st2 hys
          cases hz
          obtain ⟨h', e1, e2, e3⟩ := zSq l hy
          obtain ⟨f1, h1⟩ := st1
          cases e2
          obtain ⟨h'', g1, g2, g3⟩ := ihb e3.1 hys
          rw [e1]
          exact ⟨h'', by simp only [g1], g2, e3.trans g3⟩
        · cases hz
      · cases hz
  | _ => intro vs h0 h x st' l hz; cases vs <;> cases hz
theorem zWd {q : Bool} {fr : List (Nat × AV)} {h0 h : List Obj} {τ : Ty} {x : τ.I} {st' : St} (l : zbR h0 h) (hz : frz q ⟨fr, h0⟩ v = some ⟨τ, x, st'⟩) : ∃ h', frz q ⟨fr, h⟩ v = some ⟨τ, x, ⟨fr, h'⟩⟩ ∧ st'.fr = fr ∧ Kept h0 h st'.h h' := by
  cases v with
  | fld b vs =>
    simp only [frz] at hz ⊢
    split at hz
    · rename_i y st1 hy
      cases hz
      obtain ⟨h', e1, e2, e3⟩ := zQt l hy
      exact ⟨h', by simp only [e1], e2, e3⟩
    · cases hz
  | dat τ x => exact zs8 (q := q) (v := .dat τ x) l hz
  | clip τ x => exact zs8 (q := q) (v := .clip τ x) l hz
  | bp id p => exact zs8 (q := q) (v := .bp id p) l hz
  | ow id => exact zs8 (q := q) (v := .ow id) l hz
  | _ => cases hz
theorem zT5 {q : Bool} {σ : Ty} {fr : List (Nat × AV)} {h0 h : List Obj} {x : σ.I} {st' : St} (l : zbR h0 h) (hz : zmq q σ ⟨fr, h0⟩ v = some (x, st')) : ∃ h', zmq q σ ⟨fr, h⟩ v = some (x, ⟨fr, h'⟩) ∧ st'.fr = fr ∧ Kept h0 h st'.h h' := by
  unfold zmq at hz ⊢
  split at hz
  · rename_i τ y st1 hz1
    obtain ⟨h', e1, e2, e3⟩ := zWd l hz1
    rw [e1]
    split at hz
    · rename_i z hc
      cases hz
      exact ⟨h', by simp only [hc], e2, e3⟩
    · cases hz
  · cases hz
theorem zAF {q : Bool} {fr : List (Nat × AV)} : ∀ {τ : Ty} {vs : List AV} {h0 h : List Obj} {x : τ.I} {st' : St}, zbR h0 h → vF q τ vs ⟨fr, h0⟩ = some (x, st') → ∃ h', vF q τ vs ⟨fr, h⟩ = some (x, ⟨fr, h'⟩) ∧ st'.fr = fr ∧ Kept h0 h st'.h h' := by
  intro τ
  induction τ with
  | unit => intro vs h0 h x st' l hz; cases vs <;> first | (cases hz; exact ⟨h, rfl, rfl, .refl l⟩) | cases hz
  | pair a b _ ihb =>
    intro vs h0 h x st' l hz
    cases vs with
    | nil => cases hz
    | cons v vs =>
      simp only [vF] at hz ⊢
      split at hz
      · rename_i y st1 hy
        split at hz
        · rename_i ys st2 hys
          cases hz
          obtain ⟨h', e1, e2, e3⟩ := zT5 l hy
          obtain ⟨f1, h1⟩ := st1
          cases e2
          obtain ⟨h'', g1, g2, g3⟩ := ihb e3.1 hys
          rw [e1]
          exact ⟨h'', by simp only [g1], g2, e3.trans g3⟩
        · cases hz
      · cases hz
  | _ => intro vs h0 h x st' l hz; cases vs <;> cases hz
end
section
variable {P : Program} {nt : Nat} {F0 F G : FH} {w0 w : World} {st st' : St} {m : MM} {a : Act} {E : Env} {v : AV} {u : Value}
def zAG (ids : Nat → Option Nat) (h : List Obj) : (b : Ty) → Nat → b.I → List AV → Prop
  | .pair (.sl σ) b, i, x, v :: vs => (∃ id, v = .ow id ∧ ids i = some id ∧ atN h id = some (mkO σ (bif σ.deep then some (List.length x.1) else none) x.1)) ∧ zAG ids h b (i + 1) x.2 vs
  | .pair a b, i, x, v :: vs => v = .dat a x.1 ∧ zAG ids h b (i + 1) x.2 vs
  | .unit, _, _, [] => True
  | _, _, _, _ => False
theorem zAG.ids {ids ids' : Nat → Option Nat} {h : List Obj} : ∀ {b : Ty} {i : Nat} {x : b.I} {vs : List AV}, (∀ f, i ≤ f → ids' f = ids f) → zAG ids h b i x vs → zAG ids' h b i x vs := by
  intro b
  induction b with
  | unit => intro i x vs _ ho; cases vs <;> exact ho
  | pair t b _ ihb =>
    intro i x vs hi ho
    cases vs with
    | nil => cases t <;> exact ho.elim
    | cons v vs =>
      cases t with
      | sl σ =>
        obtain ⟨⟨id, h1, h2, h3⟩, h4⟩ := ho
        exact ⟨⟨id, h1, by rw [hi i (Nat.le_refl _)]; exact h2, h3⟩, ihb (fun f hf => hi f (by omega)) h4⟩
      | _ => exact ⟨ho.1, ihb (fun f hf => hi f (by omega)) ho.2⟩
  | _ => intro i x vs _ ho; cases vs <;> exact ho.elim
theorem zAG.heap {ids : Nat → Option Nat} {h h' : List Obj} : ∀ {b : Ty} {i : Nat} {x : b.I} {vs : List AV}, (∀ f id, ids f = some id → atN h' id = atN h id) → zAG ids h b i x vs → zAG ids h' b i x vs := by
  intro b
  induction b with
  | unit => intro i x vs _ ho; cases vs <;> exact ho
  | pair t b _ ihb =>
    intro i x vs hi ho
    cases vs with
    | nil => cases t <;> exact ho.elim
    | cons v vs =>
      cases t with
      | sl σ =>
        obtain ⟨⟨id, h1, h2, h3⟩, h4⟩ := ho
        exact ⟨⟨id, h1, h2, by rw [hi _ _ h2]; exact h3⟩, ihb hi h4⟩
      | _ => exact ⟨ho.1, ihb hi ho.2⟩
  | _ => intro i x vs _ ho; cases vs <;> exact ho.elim
theorem zVl {h h0 h1 : List Obj} (hdr : ∀ i τ xs k, atN h i = some (.drow τ xs k) → τ.deep = true) {t : Ty} {x : t.I} (hz : zIY h0 t v = some (x, h1)) (l : zbR h0 h) :
    (v = .dat t x ∧ t.dl = false ∧ h1 = h0) ∨ ∃ (σ : Ty) (xs : List σ.I) (id : Nat), (⟨t, x⟩ : (τ : Ty) × τ.I) = ⟨.sl σ, xs⟩ ∧ v = .ow id ∧ atN h id = some (mkO σ (bif σ.deep then some (List.length xs) else none) xs) ∧ atN h0 id ≠ some .gone ∧ (∃ o, atN h0 id = some o) ∧ h1 = zg h0 id .gone := by
  cases v with
  | dat τ y =>
    simp only [zIY] at hz
    obtain ⟨hdl, hz⟩ := zbP hz
    split at hz
    · rename_i z hc
      cases hz
      obtain ⟨rfl, rfl⟩ := zY hc
      exact .inl ⟨rfl, hdl, rfl⟩
    · cases hz
  | ow id =>
    simp only [zIY] at hz
    right
    split at hz
    · rename_i τ xs ho
      obtain ⟨hd, hz⟩ := zbP hz
      split at hz
      · rename_i z hc
        cases hz
        obtain ⟨e, rfl⟩ := zY hc
        subst e
        refine ⟨τ, xs, id, rfl, rfl, ?_, (by rw [ho]; intro e; cases e), ⟨_, ho⟩, rfl⟩
        rw [l.at ho (by intro e; cases e), hd]
        rfl
      · cases hz
    · rename_i τ xs n ho
      split at hz
      · rename_i z hc
        obtain ⟨hn, hz⟩ := zd hz
        cases hz
        obtain ⟨e, rfl⟩ := zY hc
        subst e
        have hat := l.at ho (by intro e; cases e)
        refine ⟨τ, xs, id, rfl, rfl, ?_, (by rw [ho]; intro e; cases e), ⟨_, ho⟩, rfl⟩
        rw [hat, hdr _ _ _ _ hat, of_decide_eq_true hn]
        rfl
      · cases hz
    · cases hz
  | _ => cases hz
theorem zOq {h : List Obj} (hdr : ∀ i τ xs k, atN h i = some (.drow τ xs k) → τ.deep = true) : ∀ {b : Ty} {vs : List AV} {x : b.I} {h0 h1 : List Obj} (i : Nat), zMK b vs h0 = some (x, h1) → zbR h0 h →
    ∃ ids : Nat → Option Nat, zAG ids h b i x vs ∧ zbR h1 h ∧ (∀ f id, ids f = some id → i ≤ f ∧ atN h0 id ≠ some .gone ∧ atN h1 id = some .gone ∧ ∃ σ k xs, atN h id = some (mkO σ k xs)) ∧ (∀ j, atN h0 j = some .gone → atN h1 j = some .gone) ∧
      ∀ f f' id, ids f = some id → ids f' = some id → f = f' := by
  intro b
  induction b with
  | unit =>
    intro vs x h0 h1 i hz l
    cases vs with
    | nil => cases hz; exact ⟨fun _ => none, trivial, l, fun f id e => (by cases e), fun _ h => h, fun f f' id e => (by cases e)⟩
    | cons _ _ => cases hz
  | pair t b _ ihb =>
    intro vs x h0 h1 i hz l
    cases vs with
    | nil => cases hz
    | cons v vs =>
      simp only [zMK] at hz
      split at hz
      · rename_i y h2 hy
        split at hz
        · rename_i ys h3 hys
          cases hz
          rcases zVl hdr hy l with ⟨rfl, hdl, rfl⟩ | ⟨σ, xs, id, e, rfl, hat, hng, ⟨o, ho⟩, rfl⟩
          · obtain ⟨ids, g1, g2, g3, g4, g5⟩ := ihb (i + 1) hys l
            refine ⟨ids, ?_, g2, fun f id hf => ⟨by have := (g3 f id hf).1; omega, (g3 f id hf).2⟩, g4, g5⟩
            cases t with
            | sl σ => cases hdl
            | _ => exact ⟨rfl, g1⟩
          · cases e
            obtain ⟨ids, g1, g2, g3, g4, g5⟩ := ihb (i + 1) hys (l.gone ho)
            have hid : atN (zg h0 id .gone) id = some .gone := zbo ho
            have hids : ∀ f, i + 1 ≤ f → (if f = i then some id else ids f) = ids f := fun f hf => by rw [if_neg (by omega)]
            refine ⟨fun f => if f = i then some id else ids f, ⟨⟨id, rfl, if_pos rfl, hat⟩, g1.ids hids⟩, g2, fun f id' hf => ?_, fun j hj => ?_, fun f f' id' hf hf' => ?_⟩
            · by_cases e : f = i
              · simp only [e, if_true, Option.some.injEq] at hf
                subst hf
                exact ⟨by omega, hng, g4 _ hid, σ, _, _, hat⟩
              · simp only [e, if_false] at hf
                obtain ⟨k1, k2, k3, k4⟩ := g3 f id' hf
                refine ⟨by omega, fun hg => k2 ?_, k3, k4⟩
                by_cases e2 : id = id'
                · rw [← e2]; exact hid
                · rw [qY e2]; exact hg
            · refine g4 j ?_
              by_cases e2 : id = j
              · rw [← e2]; exact hid
              · rw [qY e2]; exact hj
            · by_cases e : f = i <;> by_cases e' : f' = i
              · omega
              · simp only [e, if_true, Option.some.injEq] at hf
                simp only [e', if_false] at hf'
                subst hf
                exact absurd hid (g3 f' _ hf').2.1
              · simp only [e, if_false] at hf
                simp only [e', if_true, Option.some.injEq] at hf'
                subst hf'
                exact absurd hid (g3 f _ hf).2.1
              · simp only [e, if_false] at hf
                simp only [e', if_false] at hf'
                exact g5 f f' id' hf hf'
        · cases hz
      · cases hz
  | _ => intro vs x h0 h1 i hz l; cases vs <;> cases hz
def MM.ofI (m : MM) (ids : Nat → Option Nat) : Nat → Nat → List Nat → Option (Nat × Nat) := fun f => match ids f with | some id => m.d id | none => fun _ _ => none
theorem MM.ofI_some {m : MM} {ids : Nat → Option Nat} {f j : Nat} {p : List Nat} {b : Nat × Nat} (h : m.ofI ids f j p = some b) : ∃ id, ids f = some id ∧ m.d id j p = some b := by
  unfold MM.ofI at h
  cases hi : ids f with
  | none => rw [hi] at h; cases h
  | some id => rw [hi] at h; exact ⟨id, rfl, h⟩
theorem zTi (h : Rel P nt F0 w0 st m F a w) {ids : Nat → Option Nat} : ∀ {b : Ty} {i : Nat} {x : b.I} {vs : List AV} {cs : List Value}, zAG ids st.h b i x vs → qg P st.h m F b vs cs → zAA P F w (fun f => (ids f).bind m) (m.ofI ids) b i x cs := by
  intro b
  induction b with
  | unit =>
    intro i x vs cs ho hv
    cases vs with
    | nil => exact hv
    | cons _ _ => exact hv.elim
  | pair t b _ ihb =>
    intro i x vs cs ho hv
    cases vs with
    | nil => exact hv.elim
    | cons v vs =>
      obtain ⟨c, d, rfl, h1, h2⟩ := hv
      cases t with
      | sl σ =>
        obtain ⟨⟨id, rfl, hi, hat⟩, h4⟩ := ho
        obtain ⟨σ', u, e1, rfl, hs, _⟩ := h1
        cases e1
        refine ⟨u, d, rfl, ⟨fun j p bk n hp => ?_, ?_⟩, ihb h4 h2⟩
        · obtain ⟨id', hi', hp⟩ := MM.ofI_some hp
          rw [hi] at hi'; cases hi'
          obtain ⟨⟨o, g1, g2⟩, _⟩ := h.dok _ _ _ _ _ hp
          rw [hat] at g1
          cases g1
          cases hd : σ.deep with
          | false => rw [hd] at g2; cases g2
          | true =>
            rw [hd] at g2
            simp only [cond_true, mkO, Obj.deepAt, decide_eq_true_eq] at g2
            exact ⟨rfl, g2⟩
        · have hq := z7.owAt hat (zBY _ _ _) hs
          show match (ids i).bind m with | some (b, n) => _ | none => _
          rw [hi, Option.bind_some]
          cases hmi : m id with
          | none =>
            rw [hmi] at hq
            exact ⟨zQg (h.obs _ _ hat) hmi, hq.2⟩
          | some bn =>
            obtain ⟨bk, n⟩ := bn
            rw [hmi] at hq
            obtain ⟨cap, g1, g2, g3⟩ := hq
            refine ⟨cap, g1, g2, g3, ?_⟩
            have := zDl (h.obs _ _ hat) hmi
            have hd : m.ofI ids i = m.d id := by unfold MM.ofI; rw [hi]
            rw [hd]
            exact this
      | _ =>
        obtain ⟨rfl, h4⟩ := ho
        exact ⟨c, d, rfl, h1.2, ihb h4 h2⟩
  | _ => intro i x vs cs ho; cases vs <;> exact ho.elim
theorem ownB_of (h : Rel P nt F0 w0 st m F a w) {ids : Nat → Option Nat} (hat : ∀ f id, ids f = some id → ∃ σ k xs, atN st.h id = some (mkO σ k xs)) (hinj : ∀ f f' id, ids f = some id → ids f' = some id → f = f') : zTy F w w0.heap.size (fun f => (ids f).bind m) (m.ofI ids) := by
  refine ⟨fun f b n hf => ?_, fun f j p b n hp => ?_, fun f f' b n n' hf hf' => ?_, fun f j p b n f' j' p' n' hp hp' => ?_, fun f b n f' j p n' hf hp => ?_⟩
  · obtain ⟨id, hi, hf⟩ := Option.bind_eq_some_iff.1 hf
    obtain ⟨σ, k, xs, ho⟩ := hat f id hi
    obtain ⟨el, cs, c, d, _, _, _, hF, _⟩ := zDl (h.obs _ _ ho) hf
    have := h.rng _ _ _ hf
    exact ⟨this.2.1, this.2.2, hF⟩
  · obtain ⟨id, hi, hp⟩ := MM.ofI_some hp
    have := h.dok _ _ _ _ _ hp
    exact ⟨this.2.1, this.2.2.1, this.2.2.2.1⟩
  · obtain ⟨id, hi, hf⟩ := Option.bind_eq_some_iff.1 hf
    obtain ⟨id', hi', hf'⟩ := Option.bind_eq_some_iff.1 hf'
    have := h.inj _ _ _ _ _ hf hf'
    subst this
    exact hinj _ _ _ hi hi'
  · obtain ⟨id, hi, hp⟩ := MM.ofI_some hp
    obtain ⟨id', hi', hp'⟩ := MM.ofI_some hp'
    obtain ⟨rfl, e2, e3⟩ := h.din _ _ _ _ _ _ _ _ _ hp hp'
    exact ⟨hinj _ _ _ hi hi', e2, e3⟩
  · obtain ⟨id, hi, hf⟩ := Option.bind_eq_some_iff.1 hf
    obtain ⟨id', hi', hp⟩ := MM.ofI_some hp
    exact (h.dok _ _ _ _ _ hp).2.2.2.2 _ _ hf
theorem zWe {ρ : Type} {h : List Obj} {σ : Ty} {v : AV} {k : σ.I → List Obj → Option ρ} : zTv h σ v k = (zIY h σ v).bind fun p => k p.1 p.2 := by
  unfold zTv zIY
  cases v with
  | dat τ x =>
    simp only
    cases τ.dl with
    | true => rfl
    | false => simp only [cond_false]; cases jL τ σ x <;> rfl
  | ow id =>
    simp only
    cases atN h id with
    | none => rfl
    | some o =>
      cases o with
      | row τ xs f =>
        cases f with
        | true => rfl
        | false =>
          simp only
          cases τ.deep with
          | true => rfl
          | false => simp only [cond_false]; cases jL (.sl τ) σ xs <;> rfl
      | drow τ xs n =>
        simp only
        cases jL (.sl τ) σ xs with
        | none => rfl
        | some x => simp only; cases decide (n = List.length xs) <;> rfl
      | _ => rfl
  | _ => rfl
theorem zQu {ρ : Type} : ∀ {σ : Ty} {vs : List AV} {h : List Obj} {k : σ.I → List Obj → Option ρ}, zKy σ vs h k = (zMK σ vs h).bind fun p => k p.1 p.2 := by
  intro σ
  induction σ with
  | unit => intro vs h k; cases vs <;> rfl
  | pair a b _ ihb =>
    intro vs h k
    cases vs with
    | nil => rfl
    | cons v vs =>
      simp only [zKy, zMK, zWe, ihb]
      cases zIY h a v with
      | none => rfl
      | some p =>
        obtain ⟨x, h1⟩ := p
        simp only [Option.bind_some]
        cases zMK b vs h1 <;> rfl
  | _ => intro vs h k; cases vs <;> rfl
theorem zVm {md : Nat} {r : Ty} {y : r.I} {vs : List AV} {us : List Value} (h : Rel P nt F0 w0 st m F a w) (hv : zmr P st.h m F vs us) (hz : zTw md r vs st = some y) :
    ∃ F', F0.grow F' w0.heap.size ∧ F'.ok w ∧ ztC P F' w w0.heap.size md r y us := by
  unfold zTw at hz
  split at hz
  ·
    rename_i b c v vs
    split at hz
    · rename_i x h1 hx
      split at hz
      · rename_i p hp
        cases hz
        obtain ⟨u, r, rfl, hv1, hv2⟩ := hv
        obtain ⟨id, k, rfl, hat, rfl, hkr⟩ : ∃ id k, v = .ow id ∧ atN st.h id = some (mkO b k x) ∧ h1 = zg st.h id .gone ∧ (k = none ∨ k = some 0) := by
          unfold ownRow at hx
          split at hx
          · rename_i id
            split at hx
            · rename_i τ xs ho
              split at hx
              · rename_i z hc
                cases hx
                obtain ⟨e, rfl⟩ := zY hc
                cases e
                exact ⟨id, none, rfl, ho, rfl, .inl rfl⟩
              · cases hx
            · rename_i τ xs n ho
              split at hx
              · rename_i z hc
                obtain ⟨hn, hx⟩ := zd hx
                cases hx
                obtain ⟨e, rfl⟩ := zY hc
                cases e
                have hn : n = 0 := of_decide_eq_true hn
                subst hn
                exact ⟨id, some 0, rfl, ho, rfl, .inr rfl⟩
              · cases hx
            · cases hx
          · cases hx
        obtain ⟨st2fr, st2h⟩ := st
        have l : zbR (zg st2h id .gone) st2h := (zbR.refl st2h).gone hat
        obtain ⟨h', e1, e2, e3⟩ := zAF l (show vF false c vs ⟨st2fr, zg st2h id .gone⟩ = some (p.1, p.2) from hp)
        obtain ⟨m', F', g1, g2, g3⟩ := zid e1 h hv2
        have hat' : atN h' id = some (mkO b k x) := by rw [(e3.2 id (zbo hat)).2]; exact hat
        have hq := z7.owAt hat' (zBY _ _ _) (show z7 P h' m' F' (.ow id) u from hv1.ext g3)
        refine ⟨F', g1.gro, g1.fok, ?_⟩
        simp only [ztC]
        refine ⟨u, r, rfl, g2, ?_⟩
        cases hmi : m' id with
        | none =>
          rw [hmi] at hq
          exact .inr ⟨zQg (g1.obs _ _ hat') hmi, hq.2⟩
        | some bn =>
          obtain ⟨bk, n⟩ := bn
          rw [hmi] at hq
          obtain ⟨cap, k1, k2, k3⟩ := hq
          obtain ⟨el, cs, cc, d, f1, f2, f3, f4, f5⟩ := zDl (g1.obs _ _ hat') hmi
          refine .inl ⟨bk, cap, el, cs, cc, d, k3, k2, (g1.rng _ _ _ hmi).2.1, f1, f4, by rw [f2, k1], f3, ?_⟩
          rcases hkr with rfl | rfl
          · exact f5
          · exact qn.toL (fun j x c _ _ hx => by unfold DE at hx; rw [if_neg (by omega)] at hx; exact hx) (show qn (DE P F' w (m'.d id) b 0) 0 x cc from f5)
      · cases hz
    · cases hz
  ·
    rename_i b c c' vs us'
    obtain ⟨hbc, hz⟩ := zd hz
    simp only [decide_eq_true_eq] at hbc
    rw [zQu] at hz
    obtain ⟨⟨x, h1⟩, hx, hz⟩ := Option.bind_eq_some_iff.1 hz
    · split at hz
      · rename_i p hp
        cases hz
        obtain ⟨u, r, rfl, hv1, hv2⟩ := hv
        obtain ⟨cs, rfl, hfs⟩ := (show zR P st.h m F (.fld c' vs) u from hv1)
        subst hbc
        obtain ⟨ids, k1, k2, k3, k4, k5⟩ := zOq (fun i τ xs k ho => (h.drowk ho).2) 0 hx (zbR.refl _)
        obtain ⟨st2fr, st2h⟩ := st
        obtain ⟨h', e1, e2, e3⟩ := zAF k2 (show vF false c us' ⟨st2fr, h1⟩ = some (p.1, p.2) from hp)
        obtain ⟨m', F', g1, g2, g3⟩ := zid e1 h hv2
        have hkeep : ∀ f id, ids f = some id → atN h' id = atN st2h id := fun f id hf => (e3.2 id (k3 f id hf).2.2.1).2
        refine ⟨F', g1.gro, g1.fok, ?_⟩
        simp only [ztC]
        refine ⟨.agg cs, r, cs, _, _, rfl, g2, rfl, zTi g1 (k1.heap hkeep) (hfs.ext g3), ownB_of g1 (fun f id hf => ?_) k5⟩
        obtain ⟨σ, k, xs, ho⟩ := (k3 f id hf).2.2.2
        exact ⟨σ, k, xs, by rw [hkeep f id hf]; exact ho⟩
      · cases hz
  ·
    rename_i b c v us'
    rw [zQu] at hz
    obtain ⟨⟨x, h1⟩, hx, hz⟩ := Option.bind_eq_some_iff.1 hz
    · split at hz
      · rename_i p hp
        cases hz
        obtain ⟨u, r, rfl, hv1, hv2⟩ := hv
        obtain ⟨ids, k1, k2, k3, k4, k5⟩ := zOq (fun i τ xs k ho => (h.drowk ho).2) 0 hx (zbR.refl _)
        obtain ⟨⟨id, rfl, hi0, hat0⟩, _⟩ := (show (∃ id, v = .ow id ∧ ids 0 = some id ∧ atN st.h id = some (mkO b _ x.1)) ∧ _ from k1)
        have hT : zdp st.h id = some b := by rw [zHy hat0, zBY]; rfl
        have hfs : qg P st.h m F (.pair (.sl b) .unit) [.ow id] [u] := ⟨[u], [], rfl, zav.ofRow hT (show z7 P st.h m F (.ow id) u from hv1), rfl⟩
        obtain ⟨st2fr, st2h⟩ := st
        obtain ⟨h', e1, e2, e3⟩ := zAF k2 (show vF false c us' ⟨st2fr, h1⟩ = some (p.1, p.2) from hp)
        obtain ⟨m', F', g1, g2, g3⟩ := zid e1 h hv2
        have hkeep : ∀ f id, ids f = some id → atN h' id = atN st2h id := fun f id hf => (e3.2 id (k3 f id hf).2.2.1).2
        refine ⟨F', g1.gro, g1.fok, ?_⟩
        simp only [ztC]
        refine ⟨u, r, _, _, rfl, g2, zTi g1 (k1.heap hkeep) (hfs.ext g3), ownB_of g1 (fun f id hf => ?_) k5⟩
        obtain ⟨σ, k, xs, ho⟩ := (k3 f id hf).2.2.2
        exact ⟨σ, k, xs, by rw [hkeep f id hf]; exact ho⟩
      · cases hz
  ·
    split at hz
    · rename_i p hp
      cases hz
      obtain ⟨m', F', g1, g2, _⟩ := zid (x := p.1) (st' := p.2) hp h hv
      exact ⟨F', g1.gro, g1.fok, g2⟩
    · cases hz
  · cases hz
theorem zVn (hm : P.follows .mixedOrders = true) (hE : zV P G E) {fi : FuncId} {f : Func} (hf : P.funcs[fi]? = some f) {K md : Nat} {a r : Ty} {x : a.I} {y : r.I} (he : evF E K f md a r x = some y)
    {F0 : FH} {w : World} {vs : List Value} (hG : G.le F0) (hk : F0.ok w) (hr : vS P F0 a x vs) :
    Calls P fi vs.toArray w fun e w' => ∃ us F', e = .returned (zC9 us) ∧ Below w.heap.size w w' ∧ F0.grow F' w.heap.size ∧ F'.ok w' ∧ ztC P F' w' w.heap.size md r y us := by
  unfold evF at he
  cases hb : f.body with
  | none => rw [hb] at he; cases he
  | some c =>
    rw [hb] at he
    simp only at he
    have hE' : zV P G { E with nt := f.ntmps } := ⟨hE.types, hE.funs, hE.glob, hE.ext⟩
    refine calls_of_wp hf hb ?_
    refine zWU (nt := f.ntmps) (F0 := F0) (w0 := w) hm hE' hG rfl c (r := y) ?_ ⟨_, F0, Rel.enter hk hr f.ntmps⟩ he
    rintro e st a' w' ⟨m, F, h⟩ hfin
    have hdone : (cond ((f.results.toList.map (zzr { E with nt := f.ntmps } st)).all Option.isSome) (zTw md r ((f.results.toList.map (zzr { E with nt := f.ntmps } st)).filterMap id) st) none) = some y →
        a'.defers = [] ∧ ∃ v, (results f a'.tmps).run P w' = .ok v w' ∧ ∃ us F', Ending.returned v = .returned (zC9 us) ∧ Below w.heap.size w w' ∧ F0.grow F' w.heap.size ∧ F'.ok w' ∧ ztC P F' w' w.heap.size md r y us := by
      intro hfin
      obtain ⟨h1, h2⟩ := zd hfin
      obtain ⟨us, h3, h4⟩ := zSp hE' h (zEF h1)
      obtain ⟨F', g1, g2, g3⟩ := zVm h h4 h2
      exact ⟨h.dfr, _, h3, us, F', rfl, h.bel, g1, g2, g3⟩
    cases e with
    | normal => exact hdone hfin
    | ret => exact hdone hfin
    | exit id => cases hfin
end
end Go.Ev
end
section
namespace Go.Ev
open Go.RowKit Go.ChangeShapes
set_option linter.unusedSimpArgs false
set_option linter.unusedVariables false
def InR : (τ : Ty) → τ.I → Prop
  | .int k, n => (Lit.int k n).wf = true
  | .str, s => ByteArray.size s ≤ maxLen
  | .pair a b, x => InR a x.1 ∧ InR b x.2
  | .st a, x => InR a x
  | .arr n a, xs => List.length xs = n ∧ ∀ x ∈ (show List a.I from xs), InR a x
  | .sl a, xs => List.length xs ≤ maxLen ∧ ∀ x ∈ (show List a.I from xs), InR a x
  | _, _ => True
def Ty.data : Ty → Bool
  | .bool | .int _ | .str | .unit => true
  | .pair a b => a.data && b.data
  | .st a => a.data
  | .arr _ a => a.data
  | .sl a => a.data
  | _ => false
section
variable {P : Program} {H : Type} {enc : TypeId × Value → H} {w : World} {base : Nat} {sp : Nat → Bool} {held : Bool}
theorem zQv {a : Addr} {j : Nat} {v : Value} (h : w.cell? (a.add j) = some v) (h0 : a.spot = none ∨ j = 0) : a.spot = none ∧ ∃ c el fz, w.heap[a.block]? = some (.cells c el fz) ∧ c[a.off + j]? = some v := by
  have hs : a.spot = none := by
    rcases h0 with h0 | rfl
    · exact h0
    · have : a.add 0 = a := by unfold Addr.add; rfl
      rw [this] at h
      unfold World.cell? at h
      split at h
      · cases hsp : a.spot with
        | none => rfl
        | some x => rw [hsp] at h; simp at h
      · cases h
  refine ⟨hs, ?_⟩
  rw [zDc hs] at h
  unfold World.cell? at h
  simp only at h
  split at h
  · rename_i c el fz hk
    exact ⟨c, el, fz, hk, by simpa using h⟩
  · cases h
theorem zQw {a : Addr} {n : Nat} {cs : List Value} (h : w.cells? base a n = some cs) (hn : 0 < n) : ∃ c, FH.of w a.block = some c ∧ a.spot = none ∧ ∀ (j : Nat) (v : Value), cs[j]? = some v → c[a.off + j]? = some v := by
  obtain ⟨hb, hl, hc⟩ := World.cells?_some h
  have h0 := hc 0 hn
  rw [List.getElem?_eq_getElem (by omega)] at h0
  obtain ⟨hs, c, el, fz, hk, _⟩ := zQv h0 (.inr rfl)
  refine ⟨c, by simp [FH.of, hk], hs, fun j v hv => ?_⟩
  have hj := (List.getElem?_eq_some_iff.1 hv).1
  have := hc j (by omega)
  rw [hv] at this
  obtain ⟨_, c', _, _, hk', h2⟩ := zQv this (.inl hs)
  rw [hk] at hk'
  cases hk'
  exact h2
theorem zTj {ad : Addr} {n : Nat} (hn : 0 < n) {c : Array Value} (hs : ad.spot = none) (hc : FH.of w ad.block = some c) : ∀ (m i0 : Nat) (css : List (List Value)), ((List.range' i0 m).mapM fun i => w.cells? base (ad.add (i * n)) n) = some css →
    ∀ (j : Nat) (v : Value), css.flatten[j]? = some v → c[ad.off + i0 * n + j]? = some v
  | 0, i0, css, h, j, v, hj => by simp at h; subst h; simp at hj
  | m + 1, i0, css, h, j, v, hj => by
    rw [List.range'_succ, List.mapM_cons] at h
    simp only [Option.bind_eq_bind, Option.bind_eq_some_iff, Option.pure_def, Option.some.injEq] at h
    obtain ⟨cs, h1, css', h2, rfl⟩ := h
    have hl := (World.cells?_some h1).2.1
    obtain ⟨c', h3, _, h5⟩ := zQw h1 hn
    rw [zDc hs] at h3 h5
    simp only at h3 h5
    rw [hc] at h3
    cases h3
    rw [List.flatten_cons] at hj
    by_cases hjn : j < n
    · rw [List.getElem?_append_left (by omega)] at hj
      exact h5 j v hj
    · rw [List.getElem?_append_right (by omega), hl] at hj
      have := zTj hn hs hc m (i0 + 1) css' h2 (j - n) v hj
      rw [show ad.off + i0 * n + j = ad.off + (i0 + 1) * n + (j - n) by rw [Nat.add_mul]; omega]
      exact this
theorem zJb {α : Type} {R : α → List Value → Prop} {f : Nat → Option (List Value)} {g : List Value → Option (DataW H × List MemPlace)} {I : α → Prop} (hg : ∀ cs y, g cs = some y → ∃ x, R x cs ∧ I x) :
    ∀ (l : List Nat) (ys : List (DataW H × List MemPlace)), (l.mapM fun i => (f i).bind g) = some ys → ∃ (xs : List α) (css : List (List Value)), xs.length = l.length ∧ l.mapM f = some css ∧ zB R xs css.flatten ∧ ∀ x ∈ xs, I x
  | [], ys, h => ⟨[], [], rfl, rfl, rfl, by simp⟩
  | i :: l, ys, h => by
    rw [List.mapM_cons] at h
    simp only [Option.bind_eq_bind, Option.bind_eq_some_iff, Option.pure_def, Option.some.injEq] at h
    obtain ⟨y, ⟨cs, hcs, hy⟩, ys', h2, rfl⟩ := h
    obtain ⟨x, hx, hI⟩ := hg cs y hy
    obtain ⟨xs, css, h3, h4, h5, h6⟩ := zJb hg l ys' h2
    refine ⟨x :: xs, cs :: css, by simp [h3], ?_, ⟨cs, css.flatten, rfl, hx, h5⟩, ?_⟩
    · rw [List.mapM_cons, hcs, h4]; rfl
    · intro z hz
      rcases List.mem_cons.1 hz with rfl | hz
      · exact hI
      · exact h6 z hz
theorem zB1 {cs : List Value} {n : Nat} : ∀ (m i0 : Nat) (css : List (List Value)), (i0 + m) * n ≤ cs.length → ((List.range' i0 m).mapM fun i => some ((cs.drop (i * n)).take n)) = some css → css.flatten = (cs.drop (i0 * n)).take (m * n)
  | 0, i0, css, _, h => by simp at h; subst h; simp
  | m + 1, i0, css, hl, h => by
    rw [List.range'_succ, List.mapM_cons] at h
    simp only [Option.bind_eq_bind, Option.bind_some, Option.bind_eq_some_iff, Option.pure_def, Option.some.injEq] at h
    obtain ⟨css', h2, rfl⟩ := h
    have := zB1 m (i0 + 1) css' (by rw [show i0 + 1 + m = i0 + (m + 1) by omega]; exact hl) h2
    rw [List.flatten_cons, this, Nat.add_mul i0 1 n, Nat.one_mul, ← List.drop_drop, show (m + 1) * n = n + m * n by rw [Nat.add_mul]; omega, List.take_add]
theorem zWf : ∀ (τ : Ty), τ.data = true →
    (∀ (fuel : Nat) (t : TypeId) (cs : List Value) (x : DataW H × List MemPlace), τ.np = true → qe P t τ → DataW.trod enc P w base sp held fuel t cs = some x → ∃ y, Rep P (FH.of w) τ y cs ∧ InR τ y) ∧
    (∀ (fuel : Nat) (fs : List Field) (off : Nat) (cs : List Value) (xs : List (DataW H × List MemPlace)), (tyB P τ).2 fs off = true → (fs.mapM fun f => DataW.trod enc P w base sp held fuel f.type ((cs.drop f.offset).take (P.cellsOf f.type))) = some xs → cs.length = off + nc τ → ∃ y, Rep P (FH.of w) τ y (cs.drop off) ∧ InR τ y) := by
  intro τ
  induction τ with
  | unit =>
    intro _
    refine ⟨fun fuel t cs x _ h => (by cases h), fun fuel fs off cs xs h _ hl => ⟨(), ?_, trivial⟩⟩
    show cs.drop off = []
    rw [List.drop_eq_nil_iff]
    simp only [nc] at hl
    omega
  | bool =>
    intro _
    refine ⟨fun fuel t cs x _ h hx => ?_, fun fuel fs off cs xs h => (by cases h)⟩
    have hu : P.underlying t = some .bool := by
      simp only [qe, tyB, Bool.and_eq_true] at h
      have := h.2
      split at this
      · assumption
      · cases this
    cases fuel with
    | zero => simp [DataW.trod] at hx
    | succ fuel =>
      unfold DataW.trod at hx
      rw [hu] at hx
      split at hx <;> first | (cases hx; done) | skip
      all_goals first | exact ⟨_, rfl, trivial⟩ | (rename_i hh; simp at hh)
  | int k =>
    intro _
    refine ⟨fun fuel t cs x _ h hx => ?_, fun fuel fs off cs xs h => (by cases h)⟩
    have hu : P.underlying t = some (.int k) := by
      simp only [qe, tyB, Bool.and_eq_true] at h
      have := h.2
      split at this
      · simp only [decide_eq_true_eq] at this; subst this; assumption
      · cases this
    cases fuel with
    | zero => simp [DataW.trod] at hx
    | succ fuel =>
      unfold DataW.trod at hx
      rw [hu] at hx
      split at hx <;> first | (cases hx; done) | skip
      · rename_i hh; cases hh
      · rename_i k1 k2 n hh
        cases hh
        split at hx
        · rename_i hc; obtain ⟨rfl, hw⟩ := hc; exact ⟨n, rfl, hw⟩
        · cases hx
      all_goals (rename_i hh; simp at hh)
  | str =>
    intro _
    refine ⟨fun fuel t cs x _ h hx => ?_, fun fuel fs off cs xs h => (by cases h)⟩
    have hu : P.underlying t = some .string := by
      simp only [qe, tyB, Bool.and_eq_true] at h
      have := h.2
      split at this
      · assumption
      · cases this
    cases fuel with
    | zero => simp [DataW.trod] at hx
    | succ fuel =>
      unfold DataW.trod at hx
      rw [hu] at hx
      split at hx <;> first | (cases hx; done) | skip
      all_goals first
        | (rename_i hh; simp at hh; done)
        | (rename_i s hh; split at hx; · rename_i hc; exact ⟨s, rfl, hc⟩
           · cases hx)
        | skip
  | pair a b iha ihb =>
    intro hd
    simp only [Ty.data, Bool.and_eq_true] at hd
    refine ⟨fun fuel t cs x _ h hx => ?_, fun fuel fs off cs xs h hx hl => ?_⟩
    · rename_i hnp; cases hnp
    · cases fs with
      | nil => cases h
      | cons f fs =>
        simp only [tyB, Bool.and_eq_true] at h
        obtain ⟨⟨⟨⟨h1, h2⟩, h3⟩, _⟩, h4⟩ := h
        obtain rfl := Nat.eq_of_beq_eq_true h1
        obtain ⟨i, hi, hsz⟩ := qe.size h2 (Ty.np_spec h3.2)
        rw [List.mapM_cons] at hx
        simp only [Option.bind_eq_bind, Option.bind_eq_some_iff, Option.pure_def, Option.some.injEq] at hx
        obtain ⟨x1, hx1, xs2, hx2, _⟩ := hx
        have hcells : P.cellsOf f.type = nc a := by unfold Program.cellsOf; rw [hi]; exact hsz
        rw [hcells] at hx1
        obtain ⟨y1, g1, g2⟩ := (iha hd.1).1 fuel f.type _ x1 h3.2 h2 hx1
        simp only [nc] at hl
        obtain ⟨y2, g3, g4⟩ := (ihb hd.2).2 fuel fs (f.offset + nc a) cs xs2 h4 hx2 (by omega)
        refine ⟨(y1, y2), ⟨_, _, ?_, g1, g3⟩, g2, g4⟩
        rw [← List.drop_drop, List.take_append_drop]
  | st a iha =>
    intro hd
    refine ⟨fun fuel t cs x _ h hx => ?_, fun fuel fs off cs xs h => (by cases h)⟩
    obtain ⟨fs, hu, hf, _⟩ := qe.st h
    obtain ⟨i, hi, hsz⟩ := qe.size h (by intro a b e; cases e)
    have hcells : P.cellsOf t = nc a := by unfold Program.cellsOf; rw [hi]; exact hsz
    cases fuel with
    | zero => simp [DataW.trod] at hx
    | succ fuel =>
      unfold DataW.trod at hx
      rw [hu] at hx
      simp only at hx
      split at hx
      · rename_i hl
        simp only [Option.map_eq_some_iff] at hx
        obtain ⟨xs, hx, _⟩ := hx
        obtain ⟨y, g1, g2⟩ := (iha hd).2 fuel fs.toList 0 cs xs hf hx (by omega)
        exact ⟨y, g1, g2⟩
      · cases hx
  | arr n a iha =>
    intro hd
    refine ⟨fun fuel t cs x _ h hx => ?_, fun fuel fs off cs xs h => (by cases h)⟩
    obtain ⟨e, hu, he, hpos, hnp, _⟩ := qe.arr h
    obtain ⟨i, hi, hsz⟩ := qe.size h (by intro a b e; cases e)
    obtain ⟨ie, hie, hsze⟩ := qe.size he (Ty.np_spec hnp)
    have hcells : P.cellsOf t = n * nc a := by unfold Program.cellsOf; rw [hi]; exact hsz
    have hcellse : P.cellsOf e = nc a := by unfold Program.cellsOf; rw [hie]; exact hsze
    cases fuel with
    | zero => simp [DataW.trod] at hx
    | succ fuel =>
      unfold DataW.trod at hx
      rw [hu] at hx
      simp only at hx
      split at hx
      · rename_i hl
        simp only [Option.map_eq_some_iff] at hx
        obtain ⟨xs, hx, _⟩ := hx
        rw [hcellse] at hx
        obtain ⟨ys, css, h1, h2, h3, h4⟩ := zJb (f := fun i => some ((cs.drop (i * nc a)).take (nc a))) (g := DataW.trod enc P w base sp held fuel e) (R := Rep P (FH.of w) a) (I := InR a) (fun cs y hy => (iha hd).1 fuel e cs y hnp he hy) (List.range n) xs hx
        rw [List.range_eq_range'] at h2
        have := zB1 n 0 css (by rw [Nat.zero_add]; omega) h2
        rw [this] at h3
        simp only [Nat.zero_mul, List.drop_zero] at h3
        rw [List.take_of_length_le (by omega)] at h3
        refine ⟨ys, ⟨by simpa using h1, h3⟩, by simpa using h1, h4⟩
      · cases hx
  | sl a iha =>
    intro hd
    refine ⟨fun fuel t cs x _ h hx => ?_, fun fuel fs off cs xs h => (by cases h)⟩
    obtain ⟨e, hu, he, hpos, hnp⟩ := qe.sl h
    obtain ⟨ie, hie, hsze⟩ := qe.size he (Ty.np_spec hnp)
    have hcellse : P.cellsOf e = nc a := by unfold Program.cellsOf; rw [hie]; exact hsze
    cases fuel with
    | zero => simp [DataW.trod] at hx
    | succ fuel =>
      unfold DataW.trod at hx
      rw [hu] at hx
      split at hx <;> first | (cases hx; done) | skip
      all_goals first
        | (rename_i hh; cases hh; done)
        | exact ⟨[], ⟨_, 0, rfl, Nat.le_refl _, fun hne => absurd rfl hne⟩, Nat.zero_le _, fun x hx => by cases hx⟩
        | skip
      rename_i e' ad len cap heq
      simp only [Option.some.injEq, TypeDesc.slice.injEq] at heq
      subst heq
      simp only at hx
      split at hx
      · rename_i hc
        simp only [Option.bind_eq_some_iff] at hx
        obtain ⟨elems, hx, _⟩ := hx
        rw [hcellse] at hx
        obtain ⟨ys, css, h1, h2, h3, h4⟩ := zJb (f := fun i => w.cells? base (ad.add (i * nc a)) (nc a)) (g := DataW.trod enc P w base sp held fuel e) (R := Rep P (FH.of w) a) (I := InR a) (fun cs y hy => (iha hd).1 fuel e cs y hnp he hy) (List.range len) elems hx
        rw [List.length_range] at h1
        refine ⟨ys, ⟨some ad, cap, by rw [h1], by rw [h1]; exact hc.2.1, fun hne => ?_⟩, (show ys.length ≤ maxLen by omega), h4⟩
        have hlen : 0 < len := by
          rw [← h1]
          exact List.length_pos_iff.2 hne
        rw [List.range_eq_range'] at h2
        obtain ⟨m, rfl⟩ : ∃ m, len = m + 1 := ⟨len - 1, by omega⟩
        have h2' := h2
        rw [List.range'_succ, List.mapM_cons] at h2'
        simp only [Option.bind_eq_bind, Option.bind_eq_some_iff, Option.pure_def, Option.some.injEq] at h2'
        obtain ⟨cs0, g1, _⟩ := h2'
        rw [Nat.zero_mul, show ad.add 0 = ad from rfl] at g1
        obtain ⟨c, g2, g3, g4⟩ := zQw g1 hpos
        refine ⟨ad, css.flatten, rfl, ⟨g3, c, g2, fun j v hv => ?_⟩, h3⟩
        have := zTj hpos g3 g2 (m + 1) 0 css h2 j v hv
        simpa using this
      · cases hx
  | ptr a => intro hd; cases hd
  | fn a b => intro hd; cases hd
def tyL (P : Program) : Ty → List TypeId → Bool
  | .unit, [] => true
  | .pair a b, t :: ts => (tyB P a).1 t && a.np && a.data && tyL P b ts
  | _, _ => false
theorem zID : ∀ {τ : Ty} {ts : List TypeId} {vs : List Value} {ds : List (DataW H)} {ps : List MemPlace}, tyL P τ ts = true → DataW.TrodAll enc P w base sp held ts vs ds ps → (∀ (j : Nat) (t : TypeId) (v : Value), ts[j]? = some t → vs[j]? = some v → ∃ W r b, Value.okWide P W r b t v) →
    ∃ x, vS P (FH.of w) τ x vs ∧ InR τ x
  | .unit, [], [], [], ps, _, _, _ => ⟨(), rfl, trivial⟩
  | .pair a b, t :: ts, v :: vs, d :: ds, ps, h, hr, hf => by
    simp only [tyL, Bool.and_eq_true] at h
    obtain ⟨⟨⟨h1, h2⟩, h3⟩, h4⟩ := h
    obtain ⟨p, q, ⟨fuel, h5⟩, h6, _⟩ := hr
    obtain ⟨y, g1, g2⟩ := (zWf a h3).1 fuel t v.cells.toList (d, p) h2 h1 h5
    obtain ⟨x, g3, g4⟩ := zID h4 h6 fun j t v ht hv => hf (j + 1) t v (by simpa using ht) (by simpa using hv)
    refine ⟨(y, x), ⟨v, vs, rfl, g1, ?_, g3⟩, g2, g4⟩
    obtain ⟨W, r, b0, hform⟩ := hf 0 t v rfl rfl
    obtain ⟨de, hu, hagg⟩ := qe.isAgg h1
    unfold Value.okWide at hform
    rw [hu] at hform
    rw [← hagg]
    have hno : ∀ cs, v = .agg cs → Cell.okWide P W r b0 t v → (match de with | .struct _ | .array _ _ => true | _ => false) = false → False := by
      rintro cs rfl hc hde
      unfold Cell.okWide at hc
      rw [hu] at hc
      cases de <;> simp [Cell.ok, hu] at hc hde
    cases de <;> simp only at hform hno ⊢
    case struct => obtain ⟨cs, rfl, _⟩ := hform; rfl
    case array => obtain ⟨cs, rfl, _⟩ := hform; rfl
    all_goals (cases v <;> first | rfl | exact (hno _ rfl hform trivial).elim)
  | .unit, [], [], _ :: _, _, _, h, _ => h.elim
  | .unit, [], _ :: _, _, _, _, h, _ => (by cases h)
  | .unit, _ :: _, _, _, _, h, _, _ => (by cases h)
  | .pair _ _, [], _, _, _, h, _, _ => (by cases h)
  | .pair _ _, _ :: _, [], _, _, _, h, _ => (by cases h)
  | .pair _ _, _ :: _, _ :: _, [], _, _, h, _ => (by cases h)
  | .bool, _, _, _, _, h, _, _ => (by cases h)
  | .int _, _, _, _, _, h, _, _ => (by cases h)
  | .str, _, _, _, _, h, _, _ => (by cases h)
  | .st _, _, _, _, _, h, _, _ => (by cases h)
  | .arr _ _, _, _, _, _, h, _, _ => (by cases h)
  | .sl _, _, _, _, _, h, _, _ => (by cases h)
  | .ptr _, _, _, _, _, h, _, _ => (by cases h)
  | .fn _ _, _, _, _, _, h, _, _ => (by cases h)
theorem zEG {W W' : World} (hl : laidOutB P = true) (hb : Below W.heap.size W W') : ∀ {ts : List TypeId} {vs : List Value} {ds : List (DataW H)} {ps : List MemPlace},
    (∀ t ∈ ts, P.readableRec t = true ∧ t < P.types.size) → DataW.TrodAll enc P W 0 (fun _ => true) true ts vs ds ps → (∀ x ∈ ps, x.block < W.heap.size) → ∀ s : Nat → Bool, (∀ p ∈ ps, s p.block = true) → DataW.TrodAll enc P W' 0 s true ts vs ds ps
  | [], [], [], ps, _, h, _, s, _ => h
  | t :: ts, v :: vs, d :: ds, ps, ht, ⟨p, q, h1, h2, e⟩, hlt, s, hs => by
    subst e
    have h0 := ht t (by simp)
    refine ⟨p, q, ?_, zEG hl hb (fun t' h' => ht t' (by simp [h'])) h2 (fun x hx => hlt x (by simp [hx])) s (fun x hx => hs x (by simp [hx])), rfl⟩
    exact WideElems.Trod_stays hl h0.1 h0.2 h1 (fun x hx => hb.same (hlt x (by simp [hx]))) (fun x hx => hs x (by simp [hx]))
  | [], [], _ :: _, _, _, h, _, _, _ => h.elim
  | [], _ :: _, _, _, _, h, _, _, _ => h.elim
  | _ :: _, [], _, _, _, h, _, _, _ => h.elim
  | _ :: _, _ :: _, [], _, _, h, _, _, _ => h.elim
end
section
variable {P : Program} {H : Type} {enc : TypeId × Value → H}
theorem zQx {fi : FuncId} {f : Func} {a : Ty} {tb : TypeId} {spec : ChangeSpec} {W : World} {base : Nat} {args : Array Value} {ds gs : List (DataW H)} {before : List MemPlace}
    (hl : laidOutB P = true) (hts : ∀ t ∈ f.params.toList, P.readableRec t = true ∧ t < P.types.size) (hty : tyL P a f.params.toList = true) (hres : f.resultTypes = #[tb]) (hbool : P.underlying tb = some .bool) (hvars : spec.vars = [])
    (hfn : ∀ ds : List (DataW H), ds.length = f.params.size → spec.fn H ds = { results := [.lit (.bool true)], args := ds })
    (hval : ∀ (j : Nat) t v, f.params[j]? = some t → args[j]? = some v → Value.okWide P W .any base t v)
    (hW : DataW.Whole enc P f.params.toList spec.vars false W args.toList ds gs before)
    (hcall : ∀ x, InR a x → vS P (FH.of W) a x args.toList → Calls P fi args W fun e W' => e = .returned (.bool true) ∧ Below W.heap.size W W') :
    Calls P fi args W fun e W' => ∃ v, e = .returned v ∧ spec.post enc P f false true false false W args v W' := by
  have hW' := hW
  obtain ⟨p, q, hA, hV, rfl, hfz, hnd⟩ := hW
  rw [hvars] at hV
  obtain ⟨rfl, rfl⟩ := trodVars_none hV
  have hlt : ∀ x ∈ p, x.block < W.heap.size := fun x hx => by simpa using hW'.lt x (by simp [hx])
  obtain ⟨x, hx, hin⟩ := zID (w := W) hty hA fun j t v ht hv => ⟨W, .any, base, hval j t v (by rw [← Array.getElem?_toList]; exact ht) (by rw [← Array.getElem?_toList]; exact hv)⟩
  have hlen : ∀ {ts : List TypeId} {vs : List Value} {ds : List (DataW H)} {ps : List MemPlace}, DataW.TrodAll enc P W 0 (fun _ => true) true ts vs ds ps → ds.length = ts.length := by
    intro ts
    induction ts with
    | nil => intro vs ds ps h; cases vs <;> cases ds <;> first | rfl | exact h.elim
    | cons t ts ih => intro vs ds ps h; cases vs <;> cases ds <;> first | exact h.elim | (obtain ⟨_, _, _, h2, _⟩ := h; simp [ih h2])
  have hfn' := hfn ds (by rw [hlen hA]; simp)
  refine (hcall x hin hx).mono fun e W' ⟨he, hb⟩ => ?_
  subst he
  simp only [List.append_nil] at *
  refine ⟨_, rfl, ds, [], p, [], p, [], hW', ?_, ?_, ?_, hb.frame _, fun h => (by cases h)⟩
  · rw [List.append_nil, hfn', hres]
    exact trodAll_cons_mk (shut_bool hbool _) trodAll_mk0
  · rw [List.append_nil, hfn']
    exact zEG hl hb hts hA hlt _ (fun x hx => by simpa using hlt x hx)
  · rw [List.append_nil, hfn', hvars]
    rfl
end
end Go.Ev
end
section
namespace Go.Ev
open Go.RowKit
set_option linter.unusedSimpArgs false
set_option linter.unusedVariables false
section
variable {P : Program} {G : FH} {E : Env}
theorem zAC.mk (hm : P.follows .mixedOrders = true) (hE : zV P G E) {fi : FuncId} {f : Func} (hf : P.funcs[fi]? = some f) (hn : (f.name == "runtime.NumGoroutine") = false) (hb : f.body.isNone = false)
    {F : Fun} (h : ∀ x y, F.spec x = some y → ∃ K, evF E K f F.md F.a F.r x = some y) : zAC P G fi F := by
  refine ⟨⟨f, hf, hn, hb⟩, fun x y hy F0 w vs hG hk hr => ?_⟩
  obtain ⟨K, he⟩ := h x y hy
  exact zVn hm hE hf he hG hk hr
theorem zV.nil {types : TT} {nt : Nat} {dp : Bool} (ht : types.all (fun k τ => (tyB P τ).1 k) = true) {glob : List (Nat × AV)} (hg : ∀ g v, look glob g = some v → ∃ τ x cs, v = .dat (.ptr τ) (some x) ∧ At G ⟨g, 0, none⟩ cs ∧ Rep P G τ x cs) {ext : List (Nat × Bool)} {jn : List Nat} (hx : ∀ f add, look ext f = some add → zTE P f add) : zV P G ⟨types, [], glob, nt, dp, ext, jn⟩ :=
  ⟨fun t τ h => TT.all_look ht h, fun f F h => by simp [look] at h, hg, hx⟩
theorem zV.deep (hE : zV P G E) (d : Bool) : zV P G { E with deep := d } := ⟨hE.types, hE.funs, hE.glob, hE.ext⟩
theorem zV.cons (hE : zV P G E) {fi : FuncId} {F : Fun} (h : zAC P G fi F) : zV P G { E with funs := (fi, F) :: E.funs } := by
  refine ⟨hE.types, fun f F' h' => ?_, hE.glob, hE.ext⟩
  simp only [look] at h'
  cases hb : Nat.beq fi f with
  | true =>
    rw [hb] at h'
    simp only [cond_true, Option.some.injEq] at h'
    subst h'
    rw [← Nat.eq_of_beq_eq_true hb]
    exact h
  | false => rw [hb] at h'; exact hE.funs f F' h'
end
end Go.Ev
end
section
namespace Go.Ev
set_option linter.unusedSimpArgs false
set_option linter.unusedVariables false
theorem zQy {n : Nat} (h : n ≤ Go.maxLen) : IntKind.wrap .i64 (n : Int) = (n : Int) := by
  unfold Go.maxLen at h
  exact IntWalk.i64_in _ (by omega)
def zaz {α : Type} (p : α → Bool) : List α → Int → Int
  | [], _ => -1
  | x :: xs, i => cond (p x) i (zaz p xs (i + 1))
theorem zJc {α : Type} {p : α → Bool} : ∀ (xs : List α) (i : Int), 0 ≤ i → decide (zaz p xs i ≥ 0) = xs.any p
  | [], _, _ => rfl
  | x :: xs, i, h => by
    have ih := zJc (p := p) xs (i + 1) (by omega)
    simp only [zaz, List.any_cons]
    by_cases hp : p x = true
    · simp [hp, h]
    · simp only [Bool.not_eq_true] at hp
      simp only [hp, cond_false, Bool.false_or]
      exact ih
end Go.Ev
end
section
namespace Go.Ev
set_option linter.unusedVariables false
theorem zT6 {i len : Nat} (h : i < len) (hl : len ≤ Go.maxLen) : IntKind.wrap .i64 ((i : Int) + 1) = (i : Int) + 1 := by
  rw [show (i : Int) + 1 = ((i + 1 : Nat) : Int) by omega]
  exact zQy (by omega)
theorem zeO {α : Type} {l : List α} {i : Nat} (d : α) (h : i < l.length) : l.drop i = l.getD i d :: l.drop (i + 1) := by
  rw [List.drop_eq_getElem_cons h]
  simp [List.getD, h]
theorem zWg {σ ρ : Type} {L : Nat → Int → σ → Option ρ} {len : Nat} (hl : len ≤ Go.maxLen) (F : Nat → σ → Option ρ) (I : Nat → σ → Prop)
    (hstep : ∀ n i s, i < len → I i s → (∀ s', I (i + 1) s' → L n ((i : Int) + 1) s' = F (i + 1) s') → L (n + 1) (i : Int) s = F i s)
    (hend : ∀ n s, I len s → L (n + 1) (len : Int) s = F len s) :
    ∀ (k i n : Nat) (s : σ), i + k = len → k < n → I i s → L n (i : Int) s = F i s := by
  intro k
  induction k with
  | zero =>
    intro i n s hi hn hI
    obtain ⟨m, rfl⟩ : ∃ m, n = m + 1 := ⟨n - 1, by omega⟩
    obtain rfl : i = len := by omega
    exact hend m s hI
  | succ k ih =>
    intro i n s hi hn hI
    obtain ⟨m, rfl⟩ : ∃ m, n = m + 1 := ⟨n - 1, by omega⟩
    refine hstep m i s (by omega) hI fun s' hI' => ?_
    have := ih (i + 1) m s' (by omega) (by omega) hI'
    rw [show (i : Int) + 1 = ((i + 1 : Nat) : Int) by omega]
    exact this
theorem zVo {σ ρ : Type} {L : Nat → Int → σ → Option ρ} {len : Nat} (hl : len ≤ Go.maxLen) (F : Nat → σ → Option ρ) (I : Nat → σ → Prop)
    (hstep : ∀ n i s, i < len → I i s → (∀ s', I (i + 1) s' → L n ((i : Int) + 1) s' = F (i + 1) s') → L (n + 1) (i : Int) s = F i s)
    (hend : ∀ n s, I len s → L (n + 1) (len : Int) s = F len s) (n : Nat) (hn : len < n) (s : σ) (h0 : I 0 s) : L n 0 s = F 0 s :=
  zWg hl F I hstep hend len 0 n s (by omega) hn h0
end Go.Ev
end
section
namespace Go.Ev
set_option linter.unusedVariables false
abbrev Fnc (A R : Ty) : Type := A.I → Option R.I
def iter {σ ρ : Type} (B : (σ → Option ρ) → σ → Option ρ) : Nat → σ → Option ρ
  | 0, _ => none
  | n + 1, s => B (iter B n) s
noncomputable def evV {σ : Type} (E : Env) (K : Nat) (f : Func) (md : Nat) (R : Ty) (p ns : List Nat) (S : σ → St) (n : Nat) : σ → Option R.I := fun s => evL E K f md R p ns n (S s)
theorem zQz {E : Env} {K : Nat} {f : Func} {md : Nat} {R : Ty} {p ns : List Nat} {st : St} : evL E K f md R p ns 0 st = none := by
  unfold evL
  split
  · split <;> rfl
  · rfl
theorem zG {σ : Type} {E : Env} {K : Nat} {f : Func} {md : Nat} {R : Ty} {p ns : List Nat} {S : σ → St} {B : (σ → Option R.I) → σ → Option R.I}
    (h : ∀ n s, evV E K f md R p ns S (n + 1) s = B (evV E K f md R p ns S n) s) : ∀ n, evV E K f md R p ns S n = iter B n
  | 0 => by funext s; exact zQz
  | n + 1 => by funext s; rw [h, zG h n]; rfl
theorem zeP {σ τ : Type} {E : Env} {K : Nat} {f : Func} {md : Nat} {R : Ty} {p ns : List Nat} {S : σ → St} {B : (τ → Option R.I) → (σ → Option R.I) → σ → Option R.I} {V1 : Nat → τ → Option R.I} {W1 : (σ → Option R.I) → τ → Option R.I}
    (h1 : ∀ n, V1 n = W1 (evV E K f md R p ns S n)) (h : ∀ n s, evV E K f md R p ns S (n + 1) s = B (V1 n) (evV E K f md R p ns S n) s) : ∀ n, evV E K f md R p ns S n = iter (fun k => B (W1 k) k) n :=
  zG fun n s => by rw [← h1]; exact h n s
def zK4 {σ τ ρ : Type} (B0 : (τ → Option ρ) → σ → Option ρ) (B1 : (τ → Option ρ) → τ → Option ρ) : Nat → σ → Option ρ
  | 0, _ => none
  | n + 1, s => B0 (iter B1 n) s
theorem zVp {σ τ : Type} {E : Env} {K : Nat} {f : Func} {md : Nat} {R : Ty} {p ns : List Nat} {S0 : σ → St} {S1 : τ → St} {B0 : (τ → Option R.I) → σ → Option R.I} {B1 : (τ → Option R.I) → τ → Option R.I}
    (h1 : ∀ n, evV E K f md R p ns S1 n = iter B1 n) (h : ∀ n s, evV E K f md R p ns S0 (n + 1) s = B0 (evV E K f md R p ns S1 n) s) : ∀ n, evV E K f md R p ns S0 n = zK4 B0 B1 n
  | 0 => by funext s; exact zQz
  | n + 1 => by funext s; rw [h, h1]; rfl
def gt {σ ρ : Type} (B : σ → Option ρ) : Nat → σ → Option ρ
  | 0, _ => none
  | _ + 1, s => B s
noncomputable def evW {σ : Type} (E : Env) (K : Nat) (f : Func) (md : Nat) (R : Ty) (p ns : List Nat) (S : σ → St) (n : Nat) : σ → Option R.I := fun s => evG E K f md R p ns n (S s)
theorem zWh {E : Env} {K : Nat} {f : Func} {md : Nat} {R : Ty} {p ns : List Nat} {st : St} : evG E K f md R p ns 0 st = none := by
  unfold evG
  split
  · split <;> rfl
  · rfl
theorem zVq {σ : Type} {E : Env} {K : Nat} {f : Func} {md : Nat} {R : Ty} {p ns : List Nat} {S : σ → St} {B : σ → Option R.I} (h : ∀ n s, evW E K f md R p ns S (n + 1) s = B s) : ∀ n, evW E K f md R p ns S n = gt B n
  | 0 => by funext s; exact zWh
  | n + 1 => by funext s; exact h n s
theorem zTk {σ τ : Type} {E : Env} {K : Nat} {f : Func} {md : Nat} {R : Ty} {p ns : List Nat} {S : σ → St} {B : (τ → Option R.I) → σ → Option R.I} {V1 W1 : τ → Option R.I} (h1 : V1 = W1)
    (h : ∀ n s, evW E K f md R p ns S (n + 1) s = B V1 s) : ∀ n, evW E K f md R p ns S n = gt (B W1) n := zVq fun n s => by rw [← h1]; exact h n s
theorem tr1 {α X Y : Type} {T : α → X → Y} {V W : α} (h : V = W) {F : X → Y} (hx : ∀ x, F x = T V x) : F = T W := by subst h; funext x; exact hx x
def En (E : Env) (d : Bool) (l : List Fun) : Env := ⟨E.types, l.map fun F => (F.id, F), E.glob, 0, d, E.ext, []⟩
def Ej (E : Env) (d : Bool) (js : List Nat) (l : List Fun) : Env := ⟨E.types, l.map fun F => (F.id, F), E.glob, 0, d, E.ext, js⟩
def Sd (P : Program) (E : Env) (F : Fun) : Prop := ∀ G, zV P G E → zAC P G F.id F
def Sds (P : Program) (E : Env) : List Fun → Prop
  | [] => True
  | F :: l => Sd P E F ∧ Sds P E l
def zMZ (f : Func) : Bool := !(f.name == "runtime.NumGoroutine") && !f.body.isNone
theorem Sds.env {P : Program} {E : Env} {l : List Fun} {d : Bool} {G : FH} (h : Sds P E l) (hE : zV P G E) : zV P G (En E d l) := by
  refine ⟨hE.types, ?_, hE.glob, hE.ext⟩
  intro f F hf
  have key : ∀ l : List Fun, Sds P E l → look (l.map fun F => (F.id, F)) f = some F → zAC P G f F := by
    intro l
    induction l with
    | nil => intro _ h; cases h
    | cons F' l ih =>
      intro hs hl
      simp only [List.map_cons, look] at hl
      cases hb : Nat.beq F'.id f with
      | true =>
        rw [hb] at hl
        cases hl
        rw [← Nat.eq_of_beq_eq_true hb]
        exact hs.1 G hE
      | false => rw [hb] at hl; exact ih hs.2 hl
  exact key l h hf
theorem Sds.envJ {P : Program} {E : Env} {l : List Fun} {d : Bool} {js : List Nat} {G : FH} (h : Sds P E l) (hE : zV P G E) : zV P G (Ej E d js l) :=
  have h' := h.env (d := d) hE
  ⟨h'.types, h'.funs, h'.glob, h'.ext⟩
theorem Sd.mkJ {P : Program} {E : Env} {l : List Fun} {d : Bool} {js : List Nat} {F : Fun} {f : Func} {K : Nat} (hm : P.follows .mixedOrders = true) (hl : Sds P E l) (hf : P.funcs[F.id]? = some f) (ho : zMZ f = true)
    (h : evF (Ej E d js l) K f F.md F.a F.r = F.spec) : Sd P E F := by
  intro G hE
  unfold zMZ at ho
  simp only [Bool.and_eq_true, Bool.not_eq_true'] at ho
  exact zAC.mk hm (hl.envJ hE) hf ho.1 ho.2 fun x y hy => ⟨K, by rw [h]; exact hy⟩
theorem Sd.mk {P : Program} {E : Env} {l : List Fun} {d : Bool} {F : Fun} {f : Func} {K : Nat} (hm : P.follows .mixedOrders = true) (hl : Sds P E l) (hf : P.funcs[F.id]? = some f) (ho : zMZ f = true)
    (h : evF (En E d l) K f F.md F.a F.r = F.spec) : Sd P E F := by
  intro G hE
  unfold zMZ at ho
  simp only [Bool.and_eq_true, Bool.not_eq_true'] at ho
  exact zAC.mk hm (hl.env hE) hf ho.1 ho.2 fun x y hy => ⟨K, by rw [h]; exact hy⟩
def inR {ρ : Type} (i n : Int) (x : Option ρ) : Option ρ := cond (decide (0 ≤ i)) (cond (decide (i < n)) x none) none
theorem zVr {ρ : Type} {i n : Int} {x : Option ρ} (h0 : 0 ≤ i) (h1 : i < n) : inR i n x = x := by unfold inR; rw [decide_eq_true h0, decide_eq_true h1]; rfl
abbrev ix {α : Type} (d : α) (l : List α) (i : Int) : α := List.getD l (Int.toNat i) d
def K0 : Nat := Go.maxLen + 2
theorem zPQ {n : Nat} (h : n ≤ Go.maxLen) : n < K0 := by unfold K0; omega
abbrev tI : Ty := .int .i64
abbrev tU : Ty := .int .u64
abbrev wI (n : Int) : Int := IntKind.wrap .i64 n
abbrev wU (n : Int) : Int := IntKind.wrap .u64 n
end Go.Ev
end
section
namespace Go.Ev
set_option linter.unusedVariables false
set_option linter.unusedSimpArgs false
theorem zom {σ α ρ : Type} {B : (σ → Option ρ) → σ → Option ρ} {len : Nat} (hl : len ≤ Go.maxLen) (st : Int → α → σ) (F : Nat → α → Option ρ) (I : Nat → α → Prop)
    (hstep : ∀ k (i : Nat) s, i < len → I i s → (∀ s', I (i + 1) s' → k (st (wI (i + 1)) s') = F (i + 1) s') → B k (st i s) = F i s)
    (hend : ∀ k s, I len s → B k (st len s) = F len s) (s : α) (h0 : I 0 s) : iter B K0 (st 0 s) = F 0 s := by
  refine zVo (L := fun n i s => iter B n (st i s)) hl F I (fun n i s hi hI h => ?_) (fun n s hI => hend _ s hI) K0 (zPQ hl) s h0
  refine hstep _ i s hi hI fun s' hI' => ?_
  rw [wI, zT6 hi hl]
  exact h s' hI'
theorem yl {α : Type} {l : List α} {i : Nat} {d : α} (h : i < l.length) : l.getD i d ∈ l := by
  rw [List.getD_eq_getElem?_getD, List.getElem?_eq_getElem h]
  exact List.getElem_mem h
theorem qh (p : Bool) : some (p, ()) = bif p then some (true, ()) else some (false, ()) := by cases p <;> rfl
theorem zQA {σ α ρ : Type} {B : (σ → Option ρ) → σ → Option ρ} {l : List α} (d : α) {p : α → Bool} {fin bad : Option ρ} (st : Int → σ) (hl : l.length ≤ Go.maxLen)
    (hin : ∀ k (i : Nat) x, i < l.length → l.getD i d = x → x ∈ l → B k (st i) = bif p x then k (st (wI (i + 1))) else bad) (hout : ∀ k, B k (st l.length) = fin) : iter B K0 (st 0) = bif l.all p then fin else bad := by
  have := zom (α := Unit) (B := B) hl (fun i _ => st i) (fun i _ => bif (l.drop i).all p then fin else bad) (fun _ _ => True) (fun k i s hi _ h => ?_) (fun k s _ => ?_) () trivial
  · simpa using this
  · rw [hin k i _ hi rfl (yl hi), h () trivial, zeO d hi, List.all_cons]
    cases p (l.getD i d) <;> rfl
  · rw [hout, List.drop_of_length_le (Nat.le_refl _)]; rfl
theorem zF6 {σ α β ρ : Type} {B : (σ → Option ρ) → σ → Option ρ} {l : List β} (d : β) (st : Int → α → σ) (G : List β → α → Option ρ) (hl : l.length ≤ Go.maxLen)
    (hin : ∀ k (i : Nat) x rest s, i < l.length → l.getD i d = x → x ∈ l → l.drop (i + 1) = rest → (∀ s', k (st (wI (i + 1)) s') = G rest s') → B k (st i s) = G (x :: rest) s) (hout : ∀ k s, B k (st l.length s) = G [] s) (s : α) : iter B K0 (st 0 s) = G l s := by
  have := zom (B := B) hl st (fun i s => G (l.drop i) s) (fun _ _ => True) (fun k i s hi _ h => ?_) (fun k s _ => ?_) s trivial
  · simpa using this
  · rw [zeO d hi]
    exact hin k i _ _ s hi rfl (yl hi) rfl fun s' => h s' trivial
  · rw [hout, List.drop_of_length_le (Nat.le_refl _)]
def qU (p : Nat → Bool) (i : Nat) : Nat → Bool
  | 0 => true
  | n + 1 => p i && qU p (i + 1) n
theorem zaA {p : Nat → Bool} : ∀ {n i : Nat}, qU p i n = true ↔ ∀ j, i ≤ j → j < i + n → p j = true
  | 0, i => by simp only [qU, true_iff]; intro j h1 h2; omega
  | n + 1, i => by
    simp only [qU, Bool.and_eq_true, zaA (n := n)]
    constructor
    · rintro ⟨h1, h2⟩ j h3 h4
      by_cases e : j = i
      · subst e; exact h1
      · exact h2 j (by omega) (by omega)
    · intro h
      exact ⟨h i (Nat.le_refl i) (by omega), fun j h1 h2 => h j (by omega) (by omega)⟩
theorem yT {σ ρ : Type} {B : (σ → Option ρ) → σ → Option ρ} {i0 n : Nat} (hn : n ≤ Go.maxLen) (h0 : i0 ≤ n) {p : Nat → Bool} {fin bad : Option ρ} (st : Int → σ)
    (hin : ∀ k (i : Nat), i0 ≤ i → i < n → B k (st i) = bif p i then k (st (wI (i + 1))) else bad) (hout : ∀ k, B k (st n) = fin) : iter B K0 (st i0) = bif qU p i0 (n - i0) then fin else bad := by
  have key : ∀ (m i fuel : Nat), i0 ≤ i → i + m = n → m < fuel → iter B fuel (st i) = bif qU p i m then fin else bad := by
    intro m
    induction m with
    | zero =>
      intro i fuel _ h1 h2
      obtain ⟨f, rfl⟩ : ∃ f, fuel = f + 1 := ⟨fuel - 1, by omega⟩
      obtain rfl : i = n := by omega
      exact hout _
    | succ m ih =>
      intro i fuel h1 h2 h3
      obtain ⟨f, rfl⟩ : ∃ f, fuel = f + 1 := ⟨fuel - 1, by omega⟩
      show B (iter B f) (st i) = _
      rw [hin _ i h1 (by omega), wI, zT6 (len := n) (by omega) hn, show ((i : Int) + 1) = ((i + 1 : Nat) : Int) by omega, ih (i + 1) f (by omega) (by omega) (by omega)]
      simp only [qU]
      cases p i <;> rfl
  exact key (n - i0) i0 K0 (Nat.le_refl _) (by omega) (by have := zPQ hn; omega)
theorem zHF {i : Nat} (h : 1 ≤ i) (hi : i ≤ Go.maxLen) : wI ((i : Int) - 1) = ((i - 1 : Nat) : Int) := by
  rw [show ((i : Int) - 1) = ((i - 1 : Nat) : Int) by omega]
  exact zQy (by omega)
section
variable {τ : Ty} {l : List τ.I} {g : τ.I × Unit → Option (Bool × Unit)} {p : τ.I → Bool}
theorem qu {ρ : Type} {i n : Nat} {x : Option ρ} (h : i < n) : inR (i : Int) (n : Int) x = x := zVr (by omega) (by omega)
theorem ltT {i n : Nat} (h : i < n) : decide ((i : Int) < (n : Int)) = true := decide_eq_true (by omega)
theorem ltF (n : Nat) : decide ((n : Int) < (n : Int)) = false := decide_eq_false (by omega)
theorem vT {α : Type} {d : α} {l : List α} {i : Nat} : ix d l (i : Int) = l.getD i d := by rw [ix, Int.toNat_natCast]
theorem jI {B : ((List τ.I × Option (τ.I × Unit → Option (Bool × Unit)) × Int × Int) → Option (Int × Unit)) → (List τ.I × Option (τ.I × Unit → Option (Bool × Unit)) × Int × Int) → Option (Int × Unit)}
    (hB : ∀ k l g n i, B k (l, g, n, i) = bif decide (i < n) then inR i (List.length l : Int) (Option.bind g fun q0 => Option.bind (q0 (ix (zb τ) l i, ())) fun q1 => bif q1.1 then some (i, ()) else k (l, g, n, wI (i + 1))) else some (-1, ()))
    (hl : l.length ≤ Go.maxLen) (hp : ∀ x ∈ l, g (x, ()) = some (p x, ())) : iter B K0 (l, some g, (l.length : Int), 0) = some (zaz p l 0, ()) := by
  have := zom (α := Unit) (B := B) hl (fun i _ => (l, some g, (l.length : Int), i)) (fun i _ => some (zaz p (l.drop i) i, ())) (fun _ _ => True) (fun k i s hi _ h => ?_) (fun k s _ => ?_) () trivial
  · simpa using this
  · rw [hB, ltT hi, qu hi, vT, Option.bind_some, hp _ (yl hi), Option.bind_some, h () trivial, zeO (zb τ) hi]
    simp only [zaz, cond_true]
    cases p (l.getD i (zb τ)) <;> rfl
  · rw [hB, ltF, List.drop_of_length_le (Nat.le_refl _)]; rfl
theorem qV {f : Fnc (.pair (.sl τ) (.pair (.fn (.pair τ .unit) (.pair .bool .unit)) .unit)) (.pair (.int .i64) .unit)} (hf : f (l, some g, ()) = some (zaz p l 0, ())) :
    (Option.bind (f (l, some g, ())) fun q0 => bif decide ((q0.1 : Int) ≥ 0) then some (true, ()) else some (false, ())) = some (l.any p, ()) := by
  rw [hf, Option.bind_some, zJc (p := p) l 0 (Int.le_refl 0)]
  cases l.any p <;> rfl
theorem yt {α : Type} {l : List α} {p : α → Bool} : (!(l.any fun x => !p x)) = l.all p := by
  rw [List.not_any_eq_all_not]
  congr 1
  funext x
  simp
theorem zHG (a b : Nat) : ((a : Int) != (b : Int)) = !decide (a = b) := by
  by_cases h : a = b
  · subst h; simp
  · have : (a : Int) ≠ (b : Int) := by omega
    simp [h, this]
theorem zOr {x : Option (List τ.I × Unit)} (h : l.length ≤ lim) (hx : x = bif decide (List.length (List.replicate 0 (zb τ)) + List.length l ≤ lim) then some (List.replicate 0 (zb τ) ++ l, ()) else none) :
    (bif List.isEmpty l then both (some ([], ())) x else x) = some (l, ()) := by
  have e : x = some (l, ()) := by rw [hx, decide_eq_true (by simpa using h)]; rfl
  rw [e]
  cases l with
  | nil => exact zVd _
  | cons y l => rfl
end
end Go.Ev
end
section
namespace Go.Proofs.YtaokpakfhdeiiaaGreatDoor
open Go.Ev
set_option linter.unusedVariables false
abbrev qf : Ty := .st (.pair (.int .i64) (.pair (.int .i64) .unit))
abbrev jC : Type := (Int × (Int × Unit))
abbrev tMe : Ty := .st (.pair (.int .i64) (.pair (.int .i64) (.pair (.int .i64) .unit)))
abbrev pMe : Type := (Int × (Int × (Int × Unit)))
abbrev je : Ty := .st (.pair .bool (.pair .str .unit))
abbrev jM : Type := (Bool × (ByteArray × Unit))
abbrev zPR : jM := zb je
abbrev qq : Ty := .st (.pair .bool (.pair qf (.pair qf (.pair (.int .i64) .unit))))
abbrev z9 : Type := (Bool × (jC × (jC × (Int × Unit))))
abbrev zbb : z9 := zb qq
abbrev qi : Ty := .st (.pair .bool (.pair .str (.pair (.int .i64) (.pair (.int .i64) (.pair qf .unit)))))
abbrev zW : Type := (Bool × (ByteArray × (Int × (Int × (jC × Unit)))))
abbrev vE : zW := zb qi
abbrev qB : Ty := .st (.pair .bool (.pair (.int .i64) (.pair (.int .i64) (.pair (.int .i64) (.pair .str .unit)))))
abbrev qr : Type := (Bool × (Int × (Int × (Int × (ByteArray × Unit)))))
abbrev zT7 : qr := zb qB
abbrev zg5 : Ty := .st (.pair (.int .i64) (.pair (.int .u64) (.pair (.int .i64) .unit)))
abbrev zoL : Type := (Int × (Int × (Int × Unit)))
abbrev zI : Ty := .st (.pair .bool (.pair (.int .i64) (.pair (.int .i64) (.pair zg5 (.pair zg5 .unit)))))
abbrev zq : Type := (Bool × (Int × (Int × (zoL × (zoL × Unit)))))
abbrev qZ : zq := zb zI
abbrev zv : Ty := .st (.pair .bool (.pair (.int .i64) (.pair (.int .i64) (.pair (.int .i64) (.pair (.int .i64) (.pair (.int .i64) (.pair (.int .u64) (.pair (.int .u64) (.pair (.int .u64) (.pair (.int .i64) .unit))))))))))
abbrev zp : Type := (Bool × (Int × (Int × (Int × (Int × (Int × (Int × (Int × (Int × (Int × Unit))))))))))
abbrev jm : zp := zb zv
abbrev zF : Ty := .st (.pair (.int .u64) (.pair (.int .i64) (.pair (.int .i64) (.pair (.int .i64) (.pair (.int .i64) (.pair (.int .i64) (.pair (.int .i64) (.pair (.int .u64) (.pair (.int .u64) (.pair (.int .i64) .unit))))))))))
abbrev zK : Type := (Int × (Int × (Int × (Int × (Int × (Int × (Int × (Int × (Int × (Int × Unit))))))))))
abbrev zoM : zK := zb zF
abbrev zhY : Ty := .st (.pair (.int .i64) (.pair (.int .i64) (.pair (.int .i64) (.pair (.int .i64) (.pair (.int .i64) (.pair (.int .u64) .unit))))))
abbrev zga : Type := (Int × (Int × (Int × (Int × (Int × (Int × Unit))))))
abbrev zbf : zga := zb zhY
abbrev zS : Ty := .st (.pair (.int .i64) (.pair (.int .u64) .unit))
abbrev zM : Type := (Int × (Int × Unit))
abbrev zcC : zM := zb zS
abbrev zdq : Ty := .st (.pair (.int .i64) (.pair (.int .i64) .unit))
abbrev qz : Type := (Int × (Int × Unit))
abbrev zaB : qz := zb zdq
abbrev jP : Ty := .st (.pair .str (.pair .str (.pair (.int .i64) (.pair .bool .unit))))
abbrev jg : Type := (ByteArray × (ByteArray × (Int × (Bool × Unit))))
abbrev zwn : jg := zb jP
abbrev zaC : Ty := .st (.pair (.sl zI) (.pair (.fn (.pair zI .unit) (.pair .bool .unit)) .unit))
abbrev yU : Type := ((List zq) × ((Option ((zq × Unit) → Option (Bool × Unit))) × Unit))
abbrev zbG : Ty := .st (.pair (.sl zv) (.pair (.fn (.pair zv .unit) (.pair .bool .unit)) .unit))
abbrev zaD : Type := ((List zp) × ((Option ((zp × Unit) → Option (Bool × Unit))) × Unit))
abbrev zHH : Ty := .st (.pair (.int .i64) (.pair (.int .i64) (.pair qf .unit)))
abbrev zB2 : Type := (Int × (Int × (jC × Unit)))
abbrev zvh : Ty := .st (.pair (.int .u8) (.pair (.int .u8) .unit))
abbrev zN : Ty := .st (.pair (.sl zS) (.pair (.sl (.int .i64)) (.pair (.sl jP) (.pair (.sl zdq) (.pair (.sl zhY) (.pair (.int .i64) (.pair (.int .i64) (.pair (.int .i64) (.pair (.int .i64) .unit)))))))))
abbrev zf : Type := ((List zM) × ((List Int) × ((List jg) × ((List qz) × ((List zga) × (Int × (Int × (Int × (Int × Unit)))))))))
abbrev zl : Ty := .st (.pair (.sl je) (.pair (.sl qq) (.pair (.sl qi) (.pair (.sl qB) (.pair (.sl zI) (.pair (.sl (.arr 4 (.int .u64))) (.pair (.sl qf) (.pair (.arr 4 (.int .u64)) (.pair (.arr 4 (.int .u64)) .unit)))))))))
abbrev zm : Type := ((List jM) × ((List z9) × ((List zW) × ((List qr) × ((List zq) × ((List (List Int)) × ((List jC) × ((List Int) × ((List Int) × Unit)))))))))
abbrev za : zm := zb zl
abbrev qA : Ty := .st (.pair (.int .u64) (.pair (.sl zl) (.pair (.sl (.sl (.int .i64))) (.pair (.sl zv) (.pair (.sl zF) (.pair (.sl (.int .i64)) .unit))))))
abbrev zr : Type := (Int × ((List zm) × ((List (List Int)) × ((List zp) × ((List zK) × ((List Int) × Unit))))))
abbrev qF : Ty := .st (.pair zN (.pair qA .unit))
abbrev qv : Type := (zf × (zr × Unit))
def types : TT := (.node (.node (.node (.node (.node (.node (.node (.node (.node .nil 1 (.fn .unit .unit) .nil) 2 (.int .i64) .nil) 3 (.int .i64) (.node .nil 4 .bool .nil)) 5 (.int .u8) (.node (.node .nil 6 (.int .u8) .nil) 7 (.st (.pair (.int .i64) (.pair (.int .i64) (.pair .bool (.pair (.int .u8) .unit))))) (.node .nil 8 (.st (.pair (.int .i64) (.pair (.int .i64) (.pair .bool (.pair (.int .u8) .unit))))) .nil))) 9 .str (.node (.node (.node .nil 10 .str .nil) 11 .str (.node .nil 12 (.int .u64) .nil)) 21 (.int .i32) (.node (.node .nil 22 (.sl zS) .nil) 23 (.sl (.int .i64)) (.node .nil 24 (.sl jP) .nil)))) 25 (.sl zdq) (.node (.node (.node (.node (.node .nil 26 (.sl zhY) .nil) 27 (.st (.pair (.sl zS) (.pair (.sl (.int .i64)) (.pair (.sl jP) (.pair (.sl zdq) (.pair (.sl zhY) (.pair (.int .i64) (.pair (.int .i64) (.pair (.int .i64) (.pair (.int .i64) .unit)))))))))) .nil) 28 zN (.node .nil 29 (.int .u64) .nil)) 30 (.sl zl) (.node (.node .nil 31 (.sl (.sl (.int .i64))) .nil) 32 (.sl zv) (.node .nil 33 (.sl zF) .nil))) 34 (.st (.pair (.int .u64) (.pair (.sl zl) (.pair (.sl (.sl (.int .i64))) (.pair (.sl zv) (.pair (.sl zF) (.pair (.sl (.int .i64)) .unit))))))) (.node (.node (.node .nil 35 qA .nil) 36 (.st (.pair (.int .i64) (.pair (.int .i64) .unit))) (.node .nil 37 qf .nil)) 38 (.int .i64) (.node (.node .nil 40 (.fn (.pair zN .unit) (.pair qA (.pair (.int .i64) .unit))) .nil) 41 (.fn (.pair zN .unit) (.pair .bool .unit)) (.node .nil 42 (.fn (.pair qA (.pair qA .unit)) (.pair .bool .unit)) .nil))))) 43 (.fn (.pair zN .unit) (.pair qA .unit)) (.node (.node (.node (.node (.node (.node .nil 44 (.fn (.pair zN (.pair qA .unit)) (.pair .bool .unit)) .nil) 46 (.fn (.pair qA (.pair (.int .i64) .unit)) (.pair (.int .u64) (.pair (.int .i64) .unit))) .nil) 47 (.fn (.pair zN (.pair qA (.pair qf .unit))) (.pair .bool .unit)) (.node .nil 48 (.fn (.pair qA (.pair qf .unit)) (.pair .bool .unit)) .nil)) 49 (.st (.pair (.int .i64) (.pair (.int .i64) (.pair (.int .i64) .unit)))) (.node (.node .nil 50 tMe .nil) 52 (.fn (.pair zN (.pair qA (.pair (.int .i64) .unit))) (.pair tMe (.pair (.int .i64) .unit))) (.node .nil 53 (.fn .unit (.pair .bool .unit)) .nil))) 54 (.fn (.pair zN (.pair qA (.pair qf (.pair (.int .i64) (.pair (.int .i64) .unit))))) (.pair .bool .unit)) (.node (.node (.node .nil 55 (.fn (.pair qA .unit) (.pair qA .unit)) .nil) 56 (.sl je) (.node .nil 57 (.sl qq) .nil)) 58 (.sl qi) (.node (.node .nil 59 (.sl qB) .nil) 60 (.sl zI) (.node .nil 61 (.sl (.arr 4 (.int .u64))) .nil)))) 62 (.sl qf) (.node (.node (.node (.node .nil 63 (.arr 4 (.int .u64)) .nil) 64 (.st (.pair (.sl je) (.pair (.sl qq) (.pair (.sl qi) (.pair (.sl qB) (.pair (.sl zI) (.pair (.sl (.arr 4 (.int .u64))) (.pair (.sl qf) (.pair (.arr 4 (.int .u64)) (.pair (.arr 4 (.int .u64)) .unit)))))))))) (.node .nil 65 zl .nil)) 66 (.st (.pair .bool (.pair .str .unit))) (.node (.node .nil 67 je .nil) 68 (.st (.pair .bool (.pair qf (.pair qf (.pair (.int .i64) .unit))))) (.node .nil 69 qq .nil))) 70 (.st (.pair .bool (.pair .str (.pair (.int .i64) (.pair (.int .i64) (.pair qf .unit)))))) (.node (.node (.node .nil 71 qi .nil) 72 (.st (.pair .bool (.pair (.int .i64) (.pair (.int .i64) (.pair (.int .i64) (.pair .str .unit)))))) (.node .nil 73 qB .nil)) 74 (.st (.pair (.int .i64) (.pair (.int .u64) (.pair (.int .i64) .unit)))) (.node (.node .nil 75 zg5 .nil) 76 (.st (.pair .bool (.pair (.int .i64) (.pair (.int .i64) (.pair zg5 (.pair zg5 .unit)))))) (.node .nil 77 zI .nil)))))) 78 (.st (.pair .bool (.pair (.int .i64) (.pair (.int .i64) (.pair (.int .i64) (.pair (.int .i64) (.pair (.int .i64) (.pair (.int .u64) (.pair (.int .u64) (.pair (.int .u64) (.pair (.int .i64) .unit))))))))))) (.node (.node (.node (.node (.node (.node (.node .nil 79 zv .nil) 80 (.st (.pair (.int .u64) (.pair (.int .i64) (.pair (.int .i64) (.pair (.int .i64) (.pair (.int .i64) (.pair (.int .i64) (.pair (.int .i64) (.pair (.int .u64) (.pair (.int .u64) (.pair (.int .i64) .unit))))))))))) .nil) 81 zF (.node .nil 82 (.fn (.pair zN (.pair qf .unit)) (.pair .bool .unit)) .nil)) 83 (.fn (.pair zN (.pair qA (.pair tMe .unit))) (.pair .bool .unit)) (.node (.node .nil 84 (.fn (.pair zN (.pair tMe .unit)) (.pair .bool .unit)) .nil) 85 (.fn (.pair zN (.pair (.int .i64) (.pair (.int .i64) .unit))) (.pair .bool .unit)) (.node .nil 86 (.fn (.pair zN .unit) (.pair (.sl (.sl (.int .i64))) .unit)) .nil))) 87 (.st (.pair (.int .i64) (.pair (.int .i64) (.pair (.int .i64) (.pair (.int .i64) (.pair (.int .i64) (.pair (.int .u64) .unit))))))) (.node (.node (.node .nil 88 zhY .nil) 89 (.fn (.pair zN (.pair zhY .unit)) (.pair zl .unit)) (.node .nil 90 (.fn (.pair (.sl zS) .unit) (.pair .bool .unit)) .nil)) 91 (.fn (.pair (.sl jP) .unit) (.pair .bool .unit)) (.node (.node .nil 92 (.fn (.pair (.sl zdq) (.pair (.sl zS) (.pair (.int .i64) .unit))) (.pair .bool .unit)) .nil) 93 (.fn (.pair (.sl zhY) .unit) (.pair .bool .unit)) (.node .nil 94 (.fn (.pair (.sl (.sl (.int .i64))) (.pair (.sl (.sl (.int .i64))) .unit)) (.pair .bool .unit)) .nil)))) 95 (.fn (.pair (.sl zv) (.pair (.sl zv) .unit)) (.pair .bool .unit)) (.node (.node (.node (.node .nil 96 (.fn (.pair (.sl zF) (.pair (.sl zF) .unit)) (.pair .bool .unit)) .nil) 97 (.fn (.pair zl (.pair zl .unit)) (.pair .bool .unit)) (.node .nil 98 (.fn (.pair zN (.pair qA (.pair (.int .i64) .unit))) (.pair .bool .unit)) .nil)) 99 (.fn (.pair (.int .i64) .unit) (.pair .bool .unit)) (.node (.node .nil 100 (.fn (.pair (.sl zv) (.pair (.int .i64) .unit)) (.pair (.int .u64) (.pair (.int .i64) .unit))) .nil) 101 (.sl (.int .u64)) (.node .nil 102 (.fn (.pair (.sl zI) (.pair (.int .i64) .unit)) (.pair (.int .u64) (.pair (.int .i64) .unit))) .nil))) 103 (.fn (.pair (.sl (.int .u64)) .unit) (.pair (.int .u64) (.pair (.int .i64) .unit))) (.node (.node (.node .nil 104 (.fn (.pair (.int .u64) (.pair (.int .u64) .unit)) (.pair (.int .u64) (.pair (.int .i64) .unit))) .nil) 105 (.fn (.pair qA (.pair (.int .i64) (.pair (.fn (.pair zl .unit) (.pair (.arr 4 (.int .u64)) .unit)) .unit))) (.pair (.int .u64) (.pair (.int .i64) .unit))) (.node .nil 106 (.fn (.pair zl .unit) (.pair (.arr 4 (.int .u64)) .unit)) .nil)) 107 (.st (.pair zN (.pair qA .unit))) (.node (.node .nil 108 qF .nil) 109 (.sl (.fn .unit (.pair .bool .unit))) (.node .nil 110 (.fn (.pair zN (.pair (.sl (.sl (.int .i64))) (.pair (.int .i64) (.pair (.int .i64) .unit)))) (.pair .bool .unit)) .nil))))) 111 (.fn .unit (.pair zN .unit)) (.node (.node (.node (.node (.node (.node .nil 112 (.fn (.pair (.sl zv) .unit) (.pair (.sl zv) .unit)) .nil) 113 (.fn (.pair (.sl zF) .unit) (.pair (.sl zF) .unit)) .nil) 114 (.fn (.pair (.sl (.int .i64)) .unit) (.pair (.sl (.int .i64)) .unit)) (.node .nil 115 (.fn (.pair (.sl (.sl (.int .i64))) .unit) (.pair (.sl (.sl (.int .i64))) .unit)) .nil)) 116 (.fn (.pair (.sl zl) .unit) (.pair (.sl zl) .unit)) (.node (.node .nil 117 (.fn (.pair (.sl je) .unit) (.pair (.sl je) .unit)) .nil) 118 (.fn (.pair (.sl qq) .unit) (.pair (.sl qq) .unit)) (.node .nil 119 (.fn (.pair (.sl qi) .unit) (.pair (.sl qi) .unit)) .nil))) 120 (.fn (.pair (.sl qB) .unit) (.pair (.sl qB) .unit)) (.node (.node (.node .nil 121 (.fn (.pair (.sl zI) .unit) (.pair (.sl zI) .unit)) .nil) 122 (.fn (.pair (.sl (.arr 4 (.int .u64))) .unit) (.pair (.sl (.arr 4 (.int .u64))) .unit)) (.node .nil 123 (.fn (.pair (.sl qf) .unit) (.pair (.sl qf) .unit)) .nil)) 124 (.fn (.pair (.sl zl) (.pair (.sl zl) (.pair (.fn (.pair zl (.pair zl .unit)) (.pair .bool .unit)) .unit))) (.pair .bool .unit)) (.node (.node .nil 125 (.fn (.pair (.sl (.sl (.int .i64))) (.pair (.sl (.sl (.int .i64))) (.pair (.fn (.pair (.sl (.int .i64)) (.pair (.sl (.int .i64)) .unit)) (.pair .bool .unit)) .unit))) (.pair .bool .unit)) .nil) 126 (.fn (.pair (.sl (.int .i64)) (.pair (.sl (.int .i64)) .unit)) (.pair .bool .unit)) (.node .nil 127 (.sl (.fn (.pair zN .unit) (.pair .bool .unit))) .nil)))) 128 (.fn (.pair zN (.pair (.int .i64) .unit)) (.pair .bool .unit)) (.node (.node (.node (.node .nil 129 (.fn (.pair zS (.pair zS .unit)) (.pair .bool .unit)) .nil) 130 (.st (.pair (.int .i64) (.pair (.int .u64) .unit))) (.node .nil 131 zS .nil)) 132 (.st (.pair (.int .i64) (.pair (.int .i64) .unit))) (.node (.node .nil 133 zdq .nil) 134 (.fn (.pair zS .unit) (.pair .bool .unit)) (.node .nil 135 (.fn (.pair zS (.pair zS .unit)) (.pair (.int .i64) .unit)) .nil))) 136 (.fn (.pair .str .unit) (.pair .bool .unit)) (.node (.node (.node .nil 137 (.st (.pair .str (.pair .str (.pair (.int .i64) (.pair .bool .unit))))) .nil) 138 jP (.node .nil 139 (.fn (.pair (.sl zS) (.pair zS .unit)) (.pair (.int .i64) .unit)) .nil)) 140 (.fn (.pair (.int .i64) .unit) (.pair zS .unit)) (.node (.node .nil 141 (.fn (.pair zS (.pair (.int .i64) .unit)) (.pair .bool .unit)) .nil) 142 (.fn (.pair (.sl zdq) (.pair (.int .i64) .unit)) (.pair .bool .unit)) (.node .nil 143 (.fn (.pair (.sl je) (.pair (.sl je) .unit)) (.pair .bool .unit)) .nil))))))) 144 (.fn (.pair (.sl qq) (.pair (.sl qq) .unit)) (.pair .bool .unit)) (.node (.node (.node (.node (.node (.node (.node (.node .nil 145 (.fn (.pair (.sl qi) (.pair (.sl qi) .unit)) (.pair .bool .unit)) .nil) 146 (.fn (.pair (.sl qB) (.pair (.sl qB) .unit)) (.pair .bool .unit)) .nil) 147 (.fn (.pair (.sl zI) (.pair (.sl zI) .unit)) (.pair .bool .unit)) (.node .nil 148 (.fn (.pair zN (.pair (.sl (.sl (.int .i64))) .unit)) (.pair .bool .unit)) .nil)) 149 (.fn (.pair (.sl zv) .unit) (.pair .bool .unit)) (.node (.node .nil 150 (.fn (.pair (.sl zF) .unit) (.pair .bool .unit)) .nil) 151 (.fn (.pair (.sl je) .unit) (.pair .bool .unit)) (.node .nil 152 (.fn (.pair (.sl qq) .unit) (.pair .bool .unit)) .nil))) 153 (.fn (.pair (.sl qi) .unit) (.pair .bool .unit)) (.node (.node (.node .nil 154 (.fn (.pair (.sl qB) .unit) (.pair .bool .unit)) .nil) 155 (.fn (.pair (.sl zI) .unit) (.pair .bool .unit)) (.node .nil 156 (.fn (.pair zN (.pair qA (.pair qf (.pair (.int .i64) .unit)))) (.pair .bool .unit)) .nil)) 157 (.fn (.pair zN (.pair qA (.pair (.int .i64) (.pair (.int .i64) .unit)))) (.pair .bool .unit)) (.node (.node .nil 158 (.fn (.pair zN (.pair zl (.pair (.int .i64) .unit))) (.pair .bool .unit)) .nil) 159 (.fn (.pair (.sl zv) .unit) (.pair (.sl (.int .i64)) .unit)) (.node .nil 160 (.fn (.pair zv .unit) (.pair (.int .i64) .unit)) .nil)))) 161 (.ptr zaC) (.node (.node (.node (.node .nil 162 (.fn (.pair (.sl zI) .unit) (.pair (.ptr zaC) .unit)) .nil) 163 (.fn .unit (.pair (.sl (.int .i64)) .unit)) (.node .nil 164 (.fn (.pair zv (.pair (.int .i64) .unit)) (.pair (.int .u64) .unit)) .nil)) 166 (.fn (.pair (.int .u64) (.pair (.int .u64) (.pair (.int .u64) .unit))) (.pair (.int .u64) (.pair (.int .u64) .unit))) (.node (.node .nil 167 (.fn (.pair (.sl zl) (.pair (.fn (.pair zl .unit) (.pair .bool .unit)) .unit)) (.pair .bool .unit)) .nil) 168 (.fn (.pair zl .unit) (.pair .bool .unit)) (.node .nil 169 (.fn (.pair (.sl zv) (.pair (.fn (.pair zv .unit) (.pair .bool .unit)) .unit)) (.pair .bool .unit)) .nil))) 170 (.fn (.pair zv .unit) (.pair .bool .unit)) (.node (.node (.node .nil 171 (.fn (.pair (.sl zF) (.pair (.fn (.pair zF .unit) (.pair .bool .unit)) .unit)) (.pair .bool .unit)) .nil) 172 (.fn (.pair zF .unit) (.pair .bool .unit)) (.node .nil 173 (.fn (.pair (.sl (.int .i64)) (.pair (.fn (.pair (.int .i64) .unit) (.pair .bool .unit)) .unit)) (.pair .bool .unit)) .nil)) 174 (.fn (.pair qf .unit) (.pair .bool .unit)) (.node (.node .nil 175 (.fn (.pair (.int .i64) .unit) (.pair (.fn (.pair qf .unit) (.pair .bool .unit)) .unit)) .nil) 176 (.fn (.pair (.sl qq) (.pair (.fn (.pair qq .unit) (.pair .bool .unit)) .unit)) (.pair .bool .unit)) (.node .nil 177 (.fn (.pair qq .unit) (.pair .bool .unit)) .nil))))) 178 (.fn (.pair (.sl qi) (.pair (.fn (.pair qi .unit) (.pair .bool .unit)) .unit)) (.pair .bool .unit)) (.node (.node (.node (.node (.node (.node .nil 179 (.fn (.pair qi .unit) (.pair .bool .unit)) .nil) 180 (.fn (.pair (.sl qf) (.pair (.fn (.pair qf .unit) (.pair .bool .unit)) .unit)) (.pair .bool .unit)) .nil) 181 (.fn (.pair (.sl qB) (.pair (.fn (.pair qB .unit) (.pair .bool .unit)) .unit)) (.pair .bool .unit)) (.node .nil 182 (.fn (.pair (.int .i64) (.pair (.int .i64) .unit)) (.pair .bool .unit)) .nil)) 183 (.fn (.pair qB .unit) (.pair .bool .unit)) (.node (.node .nil 184 (.fn (.pair (.sl zI) (.pair (.fn (.pair zI .unit) (.pair .bool .unit)) .unit)) (.pair .bool .unit)) .nil) 185 (.fn (.pair zI .unit) (.pair .bool .unit)) (.node .nil 186 (.fn (.pair (.sl zI) (.pair (.fn (.pair zI .unit) (.pair .bool .unit)) .unit)) (.pair (.ptr zaC) .unit)) .nil))) 187 (.fn (.pair zN (.pair (.int .i64) .unit)) (.pair (.sl (.int .i64)) .unit)) (.node (.node (.node .nil 188 (.fn (.pair (.sl (.arr 4 (.int .u64))) (.pair (.sl (.arr 4 (.int .u64))) .unit)) (.pair .bool .unit)) .nil) 189 (.fn (.pair (.sl qf) (.pair (.sl qf) .unit)) (.pair .bool .unit)) (.node .nil 190 (.fn (.pair (.int .i64) (.pair (.int .i64) (.pair (.int .i64) .unit))) (.pair .bool .unit)) .nil)) 191 (.fn (.pair (.sl zS) (.pair (.fn (.pair zS .unit) (.pair .bool .unit)) .unit)) (.pair .bool .unit)) (.node (.node .nil 192 (.fn (.pair jP .unit) (.pair .bool .unit)) .nil) 193 (.fn (.pair (.sl jP) (.pair (.fn (.pair jP .unit) (.pair .bool .unit)) .unit)) (.pair .bool .unit)) (.node .nil 194 (.fn (.pair (.sl .str) .unit) (.pair .bool .unit)) .nil)))) 195 (.sl .str) (.node (.node (.node (.node .nil 196 (.fn (.pair zN .unit) (.pair (.sl .str) .unit)) .nil) 198 (.fn (.pair (.int .i64) .unit) (.pair zS (.pair (.int .i64) .unit))) (.node .nil 199 (.fn (.pair (.sl zS) (.pair zS .unit)) (.pair .bool .unit)) .nil)) 200 (.fn (.pair zhY .unit) (.pair (.sl (.int .i64)) .unit)) (.node (.node .nil 201 (.int .u64) .nil) 202 (.fn (.pair (.sl zv) (.pair (.int .i64) (.pair (.int .i64) .unit))) (.pair .bool .unit)) (.node .nil 203 (.fn (.pair zF (.pair zF .unit)) (.pair .bool .unit)) .nil))) 204 (.ptr zbG) (.node (.node (.node .nil 205 (.fn (.pair (.sl zv) .unit) (.pair (.ptr zbG) .unit)) .nil) 206 (.st (.pair (.sl zI) (.pair (.fn (.pair zI .unit) (.pair .bool .unit)) .unit))) (.node .nil 207 zaC .nil)) 208 (.fn (.pair (.sl je) (.pair (.fn (.pair je .unit) (.pair .bool .unit)) .unit)) (.pair .bool .unit)) (.node (.node .nil 209 (.fn (.pair je .unit) (.pair .bool .unit)) .nil) 210 (.fn (.pair (.sl qq) (.pair qf (.pair (.int .i64) .unit))) (.pair (.int .i64) .unit)) (.node .nil 211 (.pair (.int .i64) (.int .i64)) .nil)))))) 212 (.fn (.pair zF (.pair zF .unit)) (.pair (.int .i64) .unit)) (.node (.node (.node (.node (.node (.node (.node .nil 213 (.fn (.pair (.sl (.int .i64)) (.pair (.fn (.pair (.int .i64) .unit) (.pair .bool .unit)) .unit)) (.pair (.int .i64) .unit)) .nil) 214 (.fn (.pair (.sl (.int .i64)) (.pair (.int .i64) .unit)) (.pair .bool .unit)) .nil) 215 (.fn (.pair zS .unit) (.pair (.sl (.int .i64)) .unit)) (.node .nil 216 (.fn (.pair (.sl zS) (.pair (.fn (.pair zS .unit) (.pair .bool .unit)) .unit)) (.pair (.int .i64) .unit)) .nil)) 217 (.fn (.pair (.sl (.int .i64)) .unit) (.pair (.int .i64) .unit)) (.node (.node .nil 218 (.fn (.pair (.int .i64) (.pair (.int .i64) .unit)) (.pair (.int .i64) .unit)) .nil) 219 (.fn (.pair (.int .u64) (.pair (.int .u64) .unit)) (.pair (.int .i64) .unit)) (.node .nil 220 (.fn (.pair (.int .u8) .unit) (.pair .bool .unit)) .nil))) 221 (.fn (.pair .str (.pair (.fn (.pair (.int .u8) .unit) (.pair .bool .unit)) .unit)) (.pair .bool .unit)) (.node (.node (.node .nil 222 (.fn (.pair (.sl jP) (.pair (.fn (.pair jP .unit) (.pair .bool .unit)) .unit)) (.pair (.int .i64) .unit)) .nil) 223 (.pair .str (.int .i64)) (.node .nil 224 (.fn (.pair (.int .i64) (.pair (.int .u64) (.pair (.int .u64) .unit))) (.pair (.int .u64) (.pair (.int .i64) .unit))) .nil)) 225 (.fn (.pair zg5 .unit) (.pair .bool .unit)) (.node (.node .nil 226 (.fn (.pair (.sl zv) (.pair (.fn (.pair zv .unit) (.pair .bool .unit)) .unit)) (.pair (.ptr zbG) .unit)) .nil) 227 (.st (.pair (.sl zv) (.pair (.fn (.pair zv .unit) (.pair .bool .unit)) .unit))) (.node .nil 228 zbG .nil)))) 229 (.fn (.pair (.sl zl) (.pair (.fn (.pair zl .unit) (.pair .bool .unit)) .unit)) (.pair (.int .i64) .unit)) (.node (.node (.node (.node .nil 230 (.fn (.pair (.sl je) (.pair (.fn (.pair je .unit) (.pair .bool .unit)) .unit)) (.pair (.int .i64) .unit)) .nil) 231 (.fn (.pair (.sl qq) (.pair (.fn (.pair qq .unit) (.pair .bool .unit)) .unit)) (.pair (.int .i64) .unit)) (.node .nil 232 (.fn (.pair (.sl qi) (.pair (.fn (.pair qi .unit) (.pair .bool .unit)) .unit)) (.pair (.int .i64) .unit)) .nil)) 233 (.st (.pair (.int .i64) (.pair (.int .i64) (.pair qf .unit)))) (.node (.node .nil 234 zHH .nil) 235 (.fn (.pair qi .unit) (.pair zHH .unit)) (.node .nil 236 (.fn (.pair (.sl qB) (.pair (.fn (.pair qB .unit) (.pair .bool .unit)) .unit)) (.pair (.int .i64) .unit)) .nil))) 237 (.fn (.pair (.sl zI) (.pair (.fn (.pair zI .unit) (.pair .bool .unit)) .unit)) (.pair (.int .i64) .unit)) (.node (.node (.node .nil 238 (.fn (.pair (.sl zv) (.pair (.fn (.pair zv .unit) (.pair .bool .unit)) .unit)) (.pair (.int .i64) .unit)) .nil) 239 (.fn (.pair (.sl zF) (.pair (.fn (.pair zF .unit) (.pair .bool .unit)) .unit)) (.pair (.int .i64) .unit)) (.node .nil 240 (.fn (.pair (.sl qf) (.pair (.fn (.pair qf .unit) (.pair .bool .unit)) .unit)) (.pair (.int .i64) .unit)) .nil)) 241 (.fn (.pair (.sl (.int .i64)) (.pair (.int .i64) .unit)) (.pair (.int .i64) .unit)) (.node (.node .nil 242 (.fn (.pair (.fn (.pair (.int .i64) .unit) (.pair .bool .unit)) .unit) .unit) .nil) 243 (.fn (.pair (.fn (.pair (.int .i64) .unit) (.pair .bool .unit)) .unit) .unit) (.node .nil 244 (.fn (.pair zS .unit) (.pair (.fn (.pair (.fn (.pair (.int .i64) .unit) (.pair .bool .unit)) .unit) .unit) .unit)) .nil))))) 245 (.fn (.pair (.int .u64) .unit) (.pair .bool .unit)) (.node (.node (.node (.node (.node (.node .nil 246 (.fn (.pair (.sl (.int .u8)) (.pair (.fn (.pair (.int .u8) .unit) (.pair .bool .unit)) .unit)) (.pair .bool .unit)) .nil) 247 (.sl (.int .u8)) .nil) 248 (.fn (.pair .str (.pair .str .unit)) (.pair .str .unit)) (.node .nil 249 (.fn (.pair (.int .u64) .unit) (.pair (.int .i64) .unit)) .nil)) 250 (.fn (.pair (.sl (.int .u8)) (.pair (.fn (.pair (.int .u8) .unit) (.pair .bool .unit)) .unit)) (.pair (.int .i64) .unit)) (.node (.node .nil 251 (.fn (.pair .str (.pair (.int .u8) .unit)) (.pair .str .unit)) .nil) 252 (.arr 256 .bool) (.node .nil 253 (.arr 256 .bool) .nil))) 255 (.fn (.pair .str .unit) (.pair (.arr 256 .bool) (.pair .bool .unit))) (.node (.node (.node .nil 256 (.fn (.pair .str (.pair (.ptr (.arr 256 .bool)) .unit)) (.pair .str .unit)) .nil) 257 (.ptr (.arr 256 .bool)) (.node .nil 258 (.fn (.pair (.int .u64) (.pair (.int .u64) .unit)) (.pair (.int .u64) (.pair (.int .u64) .unit))) .nil)) 259 (.arr 64 (.int .u8)) (.node (.node .nil 261 (.fn (.pair .str .unit) (.pair (.int .i32) (.pair (.int .i64) .unit))) .nil) 262 (.fn (.pair .str (.pair (.int .i32) .unit)) (.pair .bool .unit)) (.node .nil 263 (.fn (.pair .str (.pair (.int .i32) .unit)) (.pair (.int .i64) .unit)) .nil)))) 264 (.arr 256 (.int .u8)) (.node (.node (.node (.node .nil 265 (.st (.pair (.int .u8) (.pair (.int .u8) .unit))) .nil) 266 zvh (.node .nil 267 (.arr 16 zvh) .nil)) 268 (.fn (.pair .str (.pair (.int .u8) .unit)) (.pair (.int .i64) .unit)) (.node (.node .nil 269 (.fn (.pair (.int .i32) .unit) (.pair .bool .unit)) .nil) 270 (.fn (.pair (.int .i64) .unit) (.pair (.int .i64) .unit)) (.node .nil 271 (.fn (.pair .str (.pair .str .unit)) (.pair (.int .i64) .unit)) .nil))) 272 (.fn .unit (.pair .str .unit)) (.node (.node (.node .nil 278 (.fn .unit (.pair (.int .i64) .unit)) .nil) 279 (.int .u32) (.node .nil 280 (.int .u8) .nil)) 281 (.int .u8) (.node (.node .nil 283 (.ptr (.int .u8)) .nil) 284 (.int .i32) (.node .nil 285 (.int .i32) .nil))))))))
def glob : List (Nat × AV) := [(0, .dat (.ptr (.arr 64 (.int .u8))) (some [0, 1, 56, 2, 57, 49, 28, 3, 61, 58, 42, 50, 38, 29, 17, 4, 62, 47, 59, 36, 45, 43, 51, 22, 53, 39, 33, 30, 24, 18, 12, 5, 63, 55, 48, 27, 60, 41, 37, 16, 46, 35, 44, 21, 52, 32, 23, 11, 54, 26, 40, 15, 34, 20, 31, 10, 25, 14, 19, 9, 13, 8, 7, 6]))]
abbrev zeQ : Ty := (.pair zN (.pair qA .unit))
abbrev zw : Ty := (.pair .bool .unit)
abbrev zF7 : Type := (zf × (zr × Unit)) → Option (Bool × Unit)
abbrev zFn (g : Fnc zeQ zw) : Fun := ⟨7, zeQ, zw, 0, g⟩
abbrev zAH : Ty := (.pair zN .unit)
abbrev zig : Ty := (.pair qA (.pair (.int .i64) .unit))
abbrev zIE : Type := (zf × Unit) → Option (zr × (Int × Unit))
abbrev zwo (g : Fnc zAH zig) : Fun := ⟨8, zAH, zig, 3, g⟩
abbrev zwp : Ty := (.pair qA (.pair (.int .i64) .unit))
abbrev zdr : Ty := (.pair (.int .u64) (.pair (.int .i64) .unit))
abbrev zoN : Type := (zr × (Int × Unit)) → Option (Int × (Int × Unit))
abbrev zcq (g : Fnc zwp zdr) : Fun := ⟨13, zwp, zdr, 0, g⟩
abbrev zwq : Ty := (.pair qA (.pair (.int .i64) .unit))
abbrev zwr : Ty := (.pair (.int .u64) (.pair (.int .i64) .unit))
abbrev zoO : Type := (zr × (Int × Unit)) → Option (Int × (Int × Unit))
abbrev zcr (g : Fnc zwq zwr) : Fun := ⟨15, zwq, zwr, 0, g⟩
abbrev ztE : Ty := (.pair zN (.pair qA .unit))
abbrev zmt : Ty := (.pair .bool .unit)
abbrev zhZ : Type := (zf × (zr × Unit)) → Option (Bool × Unit)
abbrev vU (g : Fnc ztE zmt) : Fun := ⟨17, ztE, zmt, 0, g⟩
abbrev zro : Ty := (.pair zN (.pair qA (.pair qf .unit)))
abbrev zrp : Ty := (.pair .bool .unit)
abbrev zrq : Type := (zf × (zr × (jC × Unit))) → Option (Bool × Unit)
abbrev zeR (g : Fnc zro zrp) : Fun := ⟨18, zro, zrp, 0, g⟩
abbrev zDp : Ty := (.pair zN (.pair qA (.pair (.int .i64) .unit)))
abbrev zDq : Ty := (.pair tMe (.pair (.int .i64) .unit))
abbrev zK5 : Type := (zf × (zr × (Int × Unit))) → Option (pMe × (Int × Unit))
abbrev zAI (g : Fnc zDp zDq) : Fun := ⟨20, zDp, zDq, 0, g⟩
abbrev ztF : Ty := .unit
abbrev ztG : Ty := (.pair .bool .unit)
abbrev zEH : Type := Unit → Option (Bool × Unit)
abbrev zrr (g : Fnc ztF ztG) : Fun := ⟨21, ztF, ztG, 0, g⟩
abbrev ztH : Ty := (.pair qA .unit)
abbrev zes : Ty := (.pair qA .unit)
abbrev ztI : Type := (zr × Unit) → Option (zr × Unit)
abbrev zrs (g : Fnc ztH zes) : Fun := ⟨23, ztH, zes, 3, g⟩
abbrev zws : Ty := (.pair qA (.pair qA .unit))
abbrev zwt : Ty := (.pair .bool .unit)
abbrev zF8 : Type := (zr × (zr × Unit)) → Option (Bool × Unit)
abbrev ztJ (g : Fnc zws zwt) : Fun := ⟨24, zws, zwt, 0, g⟩
abbrev ztK : Ty := (.pair zN .unit)
abbrev zmu : Ty := (.pair .bool .unit)
abbrev zet : Type := (zf × Unit) → Option (Bool × Unit)
abbrev j8 (g : Fnc ztK zmu) : Fun := ⟨25, ztK, zmu, 0, g⟩
abbrev zAJ : Ty := (.pair zN (.pair (.int .i64) (.pair (.int .i64) .unit)))
abbrev zAK : Ty := (.pair .bool .unit)
abbrev zIF : Type := (zf × (Int × (Int × Unit))) → Option (Bool × Unit)
abbrev zwu (g : Fnc zAJ zAK) : Fun := ⟨28, zAJ, zAK, 0, g⟩
abbrev zDr : Ty := (.pair zN .unit)
abbrev zvQ : Ty := (.pair (.sl (.sl (.int .i64))) .unit)
abbrev zK6 : Type := (zf × Unit) → Option ((List (List Int)) × Unit)
abbrev zAL (g : Fnc zDr zvQ) : Fun := ⟨29, zDr, zvQ, 4, g⟩
abbrev ztL : Ty := (.pair zN (.pair zhY .unit))
abbrev ztM : Ty := (.pair zl .unit)
abbrev zEI : Type := (zf × (zga × Unit)) → Option (zm × Unit)
abbrev zrt (g : Fnc ztL ztM) : Fun := ⟨30, ztL, ztM, 3, g⟩
abbrev zwv : Ty := (.pair (.int .i64) .unit)
abbrev zww : Ty := (.pair .bool .unit)
abbrev zbS : Type := (Int × Unit) → Option (Bool × Unit)
abbrev jb (g : Fnc zwv zww) : Fun := ⟨43, zwv, zww, 0, g⟩
abbrev zAM : Ty := (.pair (.sl zv) (.pair (.int .i64) .unit))
abbrev zsW : Ty := (.pair (.int .u64) (.pair (.int .i64) .unit))
abbrev zIG : Type := ((List zp) × (Int × Unit)) → Option (Int × (Int × Unit))
abbrev zwx (g : Fnc zAM zsW) : Fun := ⟨44, zAM, zsW, 0, g⟩
abbrev zwy : Ty := (.pair (.sl zI) (.pair (.int .i64) .unit))
abbrev zoP : Ty := (.pair (.int .u64) (.pair (.int .i64) .unit))
abbrev zF9 : Type := ((List zq) × (Int × Unit)) → Option (Int × (Int × Unit))
abbrev ztN (g : Fnc zwy zoP) : Fun := ⟨45, zwy, zoP, 0, g⟩
abbrev zDs : Ty := (.pair (.sl (.int .u64)) .unit)
abbrev zvR : Ty := (.pair (.int .u64) (.pair (.int .i64) .unit))
abbrev zoQ : Type := ((List Int) × Unit) → Option (Int × (Int × Unit))
abbrev zbH (g : Fnc zDs zvR) : Fun := ⟨46, zDs, zvR, 0, g⟩
abbrev zru : Ty := (.pair qA (.pair (.int .i64) (.pair (.fn (.pair zl .unit) (.pair (.arr 4 (.int .u64)) .unit)) .unit)))
abbrev zkr : Ty := (.pair (.int .u64) (.pair (.int .i64) .unit))
abbrev zB3 : Type := (zr × (Int × ((Option ((zm × Unit) → Option ((List Int) × Unit))) × Unit))) → Option (Int × (Int × Unit))
abbrev zoR (g : Fnc zru zkr) : Fun := ⟨50, zru, zkr, 0, g⟩
abbrev zrv : Ty := (.pair zl .unit)
abbrev zrw : Ty := (.pair (.arr 4 (.int .u64)) .unit)
abbrev zB4 : Type := (zm × Unit) → Option ((List Int) × Unit)
abbrev zoS (g : Fnc zrv zrw) : Fun := ⟨51, zrv, zrw, 0, g⟩
abbrev zrx : Ty := (.pair zl .unit)
abbrev zry : Ty := (.pair (.arr 4 (.int .u64)) .unit)
abbrev zB5 : Type := (zm × Unit) → Option ((List Int) × Unit)
abbrev zoT (g : Fnc zrx zry) : Fun := ⟨52, zrx, zry, 0, g⟩
abbrev zwz : Ty := (.pair (.int .u64) (.pair (.int .u64) .unit))
abbrev zwA : Ty := (.pair (.int .u64) (.pair (.int .i64) .unit))
abbrev zGa : Type := (Int × (Int × Unit)) → Option (Int × (Int × Unit))
abbrev ztO (g : Fnc zwz zwA) : Fun := ⟨53, zwz, zwA, 0, g⟩
abbrev ztP : Ty := (.pair qF .unit)
abbrev zmv : Ty := (.pair .bool .unit)
abbrev zEJ : Type := (qv × Unit) → Option (Bool × Unit)
abbrev zrz (g : Fnc ztP zmv) : Fun := ⟨55, ztP, zmv, 0, g⟩
abbrev ztQ : Ty := (.pair qF .unit)
abbrev ztR : Ty := (.pair .bool .unit)
abbrev zEK : Type := (qv × Unit) → Option (Bool × Unit)
abbrev zrA (g : Fnc ztQ ztR) : Fun := ⟨56, ztQ, ztR, 0, g⟩
abbrev zrB : Ty := (.pair qF .unit)
abbrev zrC : Ty := (.pair .bool .unit)
abbrev zB6 : Type := (qv × Unit) → Option (Bool × Unit)
abbrev zoU (g : Fnc zrB zrC) : Fun := ⟨57, zrB, zrC, 0, g⟩
abbrev ztS : Ty := (.pair qF .unit)
abbrev zmw : Ty := (.pair .bool .unit)
abbrev zEL : Type := (qv × Unit) → Option (Bool × Unit)
abbrev zrD (g : Fnc ztS zmw) : Fun := ⟨58, ztS, zmw, 0, g⟩
abbrev zrE : Ty := (.pair qF .unit)
abbrev zgb : Ty := (.pair .bool .unit)
abbrev zB7 : Type := (qv × Unit) → Option (Bool × Unit)
abbrev zoV (g : Fnc zrE zgb) : Fun := ⟨59, zrE, zgb, 0, g⟩
abbrev ztT : Ty := (.pair qF .unit)
abbrev jJ : Ty := (.pair .bool .unit)
abbrev zEM : Type := (qv × Unit) → Option (Bool × Unit)
abbrev zrF (g : Fnc ztT jJ) : Fun := ⟨60, ztT, jJ, 0, g⟩
abbrev ztU : Ty := (.pair qF .unit)
abbrev zcs : Ty := (.pair .bool .unit)
abbrev zEN : Type := (qv × Unit) → Option (Bool × Unit)
abbrev zrG (g : Fnc ztU zcs) : Fun := ⟨61, ztU, zcs, 0, g⟩
abbrev ztV : Ty := (.pair qA (.pair qf .unit))
abbrev ztW : Ty := (.pair .bool .unit)
abbrev zmx : Type := (zr × (jC × Unit)) → Option (Bool × Unit)
abbrev zbp (g : Fnc ztV ztW) : Fun := ⟨62, ztV, ztW, 0, g⟩
abbrev zrH : Ty := (.pair zN (.pair (.sl (.sl (.int .i64))) (.pair (.int .i64) (.pair (.int .i64) .unit))))
abbrev zrI : Ty := (.pair .bool .unit)
abbrev zB8 : Type := (zf × ((List (List Int)) × (Int × (Int × Unit)))) → Option (Bool × Unit)
abbrev zoW (g : Fnc zrH zrI) : Fun := ⟨63, zrH, zrI, 0, g⟩
abbrev ztX : Ty := .unit
abbrev ztY : Ty := (.pair zN .unit)
abbrev zEO : Type := Unit → Option (zf × Unit)
abbrev zrJ (g : Fnc ztX ztY) : Fun := ⟨64, ztX, ztY, 0, g⟩
abbrev zmK : Ty := (.pair (.sl zv) .unit)
abbrev zmL : Ty := (.pair (.sl zv) .unit)
abbrev zmM : Type := ((List zp) × Unit) → Option ((List zp) × Unit)
abbrev zcD (g : Fnc zmK zmL) : Fun := ⟨66, zmK, zmL, 1, g⟩
abbrev zmN : Ty := (.pair (.sl zF) .unit)
abbrev zmO : Ty := (.pair (.sl zF) .unit)
abbrev zwB : Type := ((List zK) × Unit) → Option ((List zK) × Unit)
abbrev zk4 (g : Fnc zmN zmO) : Fun := ⟨67, zmN, zmO, 1, g⟩
abbrev zrK : Ty := (.pair (.sl (.int .i64)) .unit)
abbrev zrL : Ty := (.pair (.sl (.int .i64)) .unit)
abbrev zB9 : Type := ((List Int) × Unit) → Option ((List Int) × Unit)
abbrev zoX (g : Fnc zrK zrL) : Fun := ⟨68, zrK, zrL, 1, g⟩
abbrev zoY : Ty := (.pair (.sl (.sl (.int .i64))) .unit)
abbrev zoZ : Ty := (.pair (.sl (.sl (.int .i64))) .unit)
abbrev zzC : Type := ((List (List Int)) × Unit) → Option ((List (List Int)) × Unit)
abbrev zmP (g : Fnc zoY zoZ) : Fun := ⟨69, zoY, zoZ, 1, g⟩
abbrev zmQ : Ty := (.pair (.sl zl) .unit)
abbrev zmR : Ty := (.pair (.sl zl) .unit)
abbrev zwC : Type := ((List zm) × Unit) → Option ((List zm) × Unit)
abbrev zk5 (g : Fnc zmQ zmR) : Fun := ⟨70, zmQ, zmR, 1, g⟩
abbrev zo0 : Ty := (.pair (.sl je) .unit)
abbrev zo1 : Ty := (.pair (.sl je) .unit)
abbrev zzD : Type := ((List jM) × Unit) → Option ((List jM) × Unit)
abbrev zmS (g : Fnc zo0 zo1) : Fun := ⟨71, zo0, zo1, 1, g⟩
abbrev zo2 : Ty := (.pair (.sl qq) .unit)
abbrev zo3 : Ty := (.pair (.sl qq) .unit)
abbrev zzE : Type := ((List z9) × Unit) → Option ((List z9) × Unit)
abbrev zmT (g : Fnc zo2 zo3) : Fun := ⟨72, zo2, zo3, 1, g⟩
abbrev zo4 : Ty := (.pair (.sl qi) .unit)
abbrev zo5 : Ty := (.pair (.sl qi) .unit)
abbrev zzF : Type := ((List zW) × Unit) → Option ((List zW) × Unit)
abbrev zmU (g : Fnc zo4 zo5) : Fun := ⟨73, zo4, zo5, 1, g⟩
abbrev zo6 : Ty := (.pair (.sl qB) .unit)
abbrev zo7 : Ty := (.pair (.sl qB) .unit)
abbrev zzG : Type := ((List qr) × Unit) → Option ((List qr) × Unit)
abbrev zmV (g : Fnc zo6 zo7) : Fun := ⟨74, zo6, zo7, 1, g⟩
abbrev zmW : Ty := (.pair (.sl zI) .unit)
abbrev zmX : Ty := (.pair (.sl zI) .unit)
abbrev zmY : Type := ((List zq) × Unit) → Option ((List zq) × Unit)
abbrev zcE (g : Fnc zmW zmX) : Fun := ⟨75, zmW, zmX, 1, g⟩
abbrev ztZ : Ty := (.pair (.sl (.arr 4 (.int .u64))) .unit)
abbrev zt0 : Ty := (.pair (.sl (.arr 4 (.int .u64))) .unit)
abbrev zEP : Type := ((List (List Int)) × Unit) → Option ((List (List Int)) × Unit)
abbrev zrM (g : Fnc ztZ zt0) : Fun := ⟨76, ztZ, zt0, 1, g⟩
abbrev zrN : Ty := (.pair (.sl qf) .unit)
abbrev zrO : Ty := (.pair (.sl qf) .unit)
abbrev zCa : Type := ((List jC) × Unit) → Option ((List jC) × Unit)
abbrev zo8 (g : Fnc zrN zrO) : Fun := ⟨77, zrN, zrO, 1, g⟩
abbrev zg6 : Ty := (.pair (.sl zl) (.pair (.sl zl) (.pair (.fn (.pair zl (.pair zl .unit)) (.pair .bool .unit)) .unit)))
abbrev zcW : Ty := (.pair .bool .unit)
abbrev zo9 : Type := ((List zm) × ((List zm) × ((Option ((zm × (zm × Unit)) → Option (Bool × Unit))) × Unit))) → Option (Bool × Unit)
abbrev zgc (g : Fnc zg6 zcW) : Fun := ⟨78, zg6, zcW, 0, g⟩
abbrev zk6 : Ty := (.pair zl (.pair zl .unit))
abbrev zk7 : Ty := (.pair .bool .unit)
abbrev zvi : Type := (zm × (zm × Unit)) → Option (Bool × Unit)
abbrev zjr (g : Fnc zk6 zk7) : Fun := ⟨79, zk6, zk7, 0, g⟩
abbrev zio : Ty := (.pair (.sl (.sl (.int .i64))) (.pair (.sl (.sl (.int .i64))) (.pair (.fn (.pair (.sl (.int .i64)) (.pair (.sl (.int .i64)) .unit)) (.pair .bool .unit)) .unit)))
abbrev zdV : Ty := (.pair .bool .unit)
abbrev zqV : Type := ((List (List Int)) × ((List (List Int)) × ((Option (((List Int) × ((List Int) × Unit)) → Option (Bool × Unit))) × Unit))) → Option (Bool × Unit)
abbrev zg7 (g : Fnc zio zdV) : Fun := ⟨80, zio, zdV, 0, g⟩
abbrev zrP : Ty := (.pair (.sl (.int .i64)) (.pair (.sl (.int .i64)) .unit))
abbrev zks : Ty := (.pair .bool .unit)
abbrev zCb : Type := ((List Int) × ((List Int) × Unit)) → Option (Bool × Unit)
abbrev zpa (g : Fnc zrP zks) : Fun := ⟨81, zrP, zks, 0, g⟩
abbrev zmZ : Ty := (.pair (.sl zv) (.pair (.sl zv) .unit))
abbrev zg8 : Ty := (.pair .bool .unit)
abbrev zwD : Type := ((List zp) × ((List zp) × Unit)) → Option (Bool × Unit)
abbrev zk8 (g : Fnc zmZ zg8) : Fun := ⟨82, zmZ, zg8, 0, g⟩
abbrev zm0 : Ty := (.pair (.sl zF) (.pair (.sl zF) .unit))
abbrev zg9 : Ty := (.pair .bool .unit)
abbrev zwE : Type := ((List zK) × ((List zK) × Unit)) → Option (Bool × Unit)
abbrev zk9 (g : Fnc zm0 zg9) : Fun := ⟨83, zm0, zg9, 0, g⟩
abbrev zrQ : Ty := (.pair zN .unit)
abbrev zkt : Ty := (.pair .bool .unit)
abbrev zCc : Type := (zf × Unit) → Option (Bool × Unit)
abbrev zpb (g : Fnc zrQ zkt) : Fun := ⟨84, zrQ, zkt, 0, g⟩
abbrev zt1 : Ty := (.pair zN .unit)
abbrev zt2 : Ty := (.pair .bool .unit)
abbrev zEQ : Type := (zf × Unit) → Option (Bool × Unit)
abbrev zrR (g : Fnc zt1 zt2) : Fun := ⟨85, zt1, zt2, 0, g⟩
abbrev zm1 : Ty := (.pair zN .unit)
abbrev zm2 : Ty := (.pair .bool .unit)
abbrev zwF : Type := (zf × Unit) → Option (Bool × Unit)
abbrev zla (g : Fnc zm1 zm2) : Fun := ⟨86, zm1, zm2, 0, g⟩
abbrev zrS : Ty := (.pair zN .unit)
abbrev zku : Ty := (.pair .bool .unit)
abbrev zCd : Type := (zf × Unit) → Option (Bool × Unit)
abbrev zpc (g : Fnc zrS zku) : Fun := ⟨87, zrS, zku, 0, g⟩
abbrev zrT : Ty := (.pair zN .unit)
abbrev zkv : Ty := (.pair .bool .unit)
abbrev zCe : Type := (zf × Unit) → Option (Bool × Unit)
abbrev zpd (g : Fnc zrT zkv) : Fun := ⟨88, zrT, zkv, 0, g⟩
abbrev zwG : Ty := (.pair zN .unit)
abbrev zwH : Ty := (.pair .bool .unit)
abbrev zGb : Type := (zf × Unit) → Option (Bool × Unit)
abbrev zt3 (g : Fnc zwG zwH) : Fun := ⟨89, zwG, zwH, 0, g⟩
abbrev zpe : Ty := (.pair zN (.pair (.int .i64) .unit))
abbrev zpf : Ty := (.pair .bool .unit)
abbrev zpg : Type := (zf × (Int × Unit)) → Option (Bool × Unit)
abbrev zds (g : Fnc zpe zpf) : Fun := ⟨91, zpe, zpf, 0, g⟩
abbrev zAN : Ty := (.pair zS (.pair zS .unit))
abbrev zAO : Ty := (.pair .bool .unit)
abbrev zAP : Type := (zM × (zM × Unit)) → Option (Bool × Unit)
abbrev zjs (g : Fnc zAN zAO) : Fun := ⟨92, zAN, zAO, 0, g⟩
abbrev zwI : Ty := (.pair (.sl zv) .unit)
abbrev zwJ : Ty := (.pair (.sl (.int .i64)) .unit)
abbrev zGc : Type := ((List zp) × Unit) → Option ((List Int) × Unit)
abbrev zt4 (g : Fnc zwI zwJ) : Fun := ⟨118, zwI, zwJ, 0, g⟩
abbrev zt5 : Ty := (.pair zv .unit)
abbrev zt6 : Ty := (.pair (.int .i64) .unit)
abbrev zER : Type := (zp × Unit) → Option (Int × Unit)
abbrev zrU (g : Fnc zt5 zt6) : Fun := ⟨119, zt5, zt6, 0, g⟩
abbrev zAQ : Ty := (.pair (.sl zI) .unit)
abbrev zAR : Ty := (.pair (.ptr zaC) .unit)
abbrev zIH : Type := ((List zq) × Unit) → Option ((Option yU) × Unit)
abbrev zwK (g : Fnc zAQ zAR) : Fun := ⟨120, zAQ, zAR, 0, g⟩
abbrev zlb : Ty := (.pair (.ptr zaC) .unit)
abbrev zfY : Ty := (.pair (.sl (.int .i64)) .unit)
abbrev zlc : Type := ((Option yU) × Unit) → Option ((List Int) × Unit)
abbrev zbT (g : Fnc zlb zfY) : Fun := ⟨121, zlb, zfY, 0, g⟩
abbrev zAS : Ty := (.pair (.int .u64) (.pair (.int .u64) .unit))
abbrev zAT : Ty := (.pair (.int .u64) (.pair (.int .i64) .unit))
abbrev zII : Type := (Int × (Int × Unit)) → Option (Int × (Int × Unit))
abbrev zwL (g : Fnc zAS zAT) : Fun := ⟨122, zAS, zAT, 0, g⟩
abbrev zld : Ty := (.pair (.sl zl) (.pair (.fn (.pair zl .unit) (.pair .bool .unit)) .unit))
abbrev zle : Ty := (.pair .bool .unit)
abbrev zvj : Type := ((List zm) × ((Option ((zm × Unit) → Option (Bool × Unit))) × Unit)) → Option (Bool × Unit)
abbrev zjt (g : Fnc zld zle) : Fun := ⟨125, zld, zle, 0, g⟩
abbrev zph : Ty := (.pair zl .unit)
abbrev zpi : Ty := (.pair .bool .unit)
abbrev zzH : Type := (zm × Unit) → Option (Bool × Unit)
abbrev zm3 (g : Fnc zph zpi) : Fun := ⟨126, zph, zpi, 0, g⟩
abbrev zwM : Ty := (.pair (.sl je) .unit)
abbrev zwN : Ty := (.pair .bool .unit)
abbrev zGd : Type := ((List jM) × Unit) → Option (Bool × Unit)
abbrev zt7 (g : Fnc zwM zwN) : Fun := ⟨127, zwM, zwN, 0, g⟩
abbrev zwO : Ty := (.pair (.sl qq) .unit)
abbrev zpj : Ty := (.pair .bool .unit)
abbrev zGe : Type := ((List z9) × Unit) → Option (Bool × Unit)
abbrev zt8 (g : Fnc zwO zpj) : Fun := ⟨128, zwO, zpj, 0, g⟩
abbrev zt9 : Ty := (.pair (.sl qi) .unit)
abbrev zua : Ty := (.pair .bool .unit)
abbrev zES : Type := ((List zW) × Unit) → Option (Bool × Unit)
abbrev zrV (g : Fnc zt9 zua) : Fun := ⟨129, zt9, zua, 0, g⟩
abbrev zwP : Ty := (.pair (.sl qB) .unit)
abbrev zwQ : Ty := (.pair .bool .unit)
abbrev zGf : Type := ((List qr) × Unit) → Option (Bool × Unit)
abbrev zub (g : Fnc zwP zwQ) : Fun := ⟨130, zwP, zwQ, 0, g⟩
abbrev zuc : Ty := (.pair (.sl zI) .unit)
abbrev zud : Ty := (.pair .bool .unit)
abbrev zET : Type := ((List zq) × Unit) → Option (Bool × Unit)
abbrev zrW (g : Fnc zuc zud) : Fun := ⟨131, zuc, zud, 0, g⟩
abbrev zwR : Ty := (.pair zN (.pair (.sl (.sl (.int .i64))) .unit))
abbrev zpk : Ty := (.pair .bool .unit)
abbrev zwS : Type := (zf × ((List (List Int)) × Unit)) → Option (Bool × Unit)
abbrev zh0 (g : Fnc zwR zpk) : Fun := ⟨132, zwR, zpk, 0, g⟩
abbrev zwT : Ty := (.pair (.sl zv) .unit)
abbrev zpl : Ty := (.pair .bool .unit)
abbrev zGg : Type := ((List zp) × Unit) → Option (Bool × Unit)
abbrev zue (g : Fnc zwT zpl) : Fun := ⟨133, zwT, zpl, 0, g⟩
abbrev zuf : Ty := (.pair (.sl zF) .unit)
abbrev zmy : Ty := (.pair .bool .unit)
abbrev zEU : Type := ((List zK) × Unit) → Option (Bool × Unit)
abbrev zrX (g : Fnc zuf zmy) : Fun := ⟨134, zuf, zmy, 0, g⟩
abbrev zlf : Ty := (.pair (.sl zv) (.pair (.fn (.pair zv .unit) (.pair .bool .unit)) .unit))
abbrev zlg : Ty := (.pair .bool .unit)
abbrev zvk : Type := ((List zp) × ((Option ((zp × Unit) → Option (Bool × Unit))) × Unit)) → Option (Bool × Unit)
abbrev zju (g : Fnc zlf zlg) : Fun := ⟨135, zlf, zlg, 0, g⟩
abbrev zm4 : Ty := (.pair zv (.pair (.ptr qF) .unit))
abbrev zm5 : Ty := (.pair .bool .unit)
abbrev zwU : Type := (zp × ((Option qv) × Unit)) → Option (Bool × Unit)
abbrev zlh (g : Fnc zm4 zm5) : Fun := ⟨136, zm4, zm5, 0, g⟩
abbrev zug : Ty := (.pair qF (.pair (.int .i64) .unit))
abbrev zuh : Ty := (.pair .bool .unit)
abbrev zui : Type := (qv × (Int × Unit)) → Option (Bool × Unit)
abbrev zgd (g : Fnc zug zuh) : Fun := ⟨137, zug, zuh, 0, g⟩
abbrev zpm : Ty := (.pair qF (.pair (.int .i64) .unit))
abbrev zpn : Ty := (.pair .bool .unit)
abbrev zaE : Type := (qv × (Int × Unit)) → Option (Bool × Unit)
abbrev qW (g : Fnc zpm zpn) : Fun := ⟨138, zpm, zpn, 0, g⟩
abbrev zli : Ty := (.pair (.sl zF) (.pair (.fn (.pair zF .unit) (.pair .bool .unit)) .unit))
abbrev zlj : Ty := (.pair .bool .unit)
abbrev zvl : Type := ((List zK) × ((Option ((zK × Unit) → Option (Bool × Unit))) × Unit)) → Option (Bool × Unit)
abbrev zjv (g : Fnc zli zlj) : Fun := ⟨139, zli, zlj, 0, g⟩
abbrev zm6 : Ty := (.pair zF (.pair (.ptr qF) .unit))
abbrev zm7 : Ty := (.pair .bool .unit)
abbrev zwV : Type := (zK × ((Option qv) × Unit)) → Option (Bool × Unit)
abbrev zlk (g : Fnc zm6 zm7) : Fun := ⟨140, zm6, zm7, 0, g⟩
abbrev zpo : Ty := (.pair (.sl (.int .i64)) (.pair (.fn (.pair (.int .i64) .unit) (.pair .bool .unit)) .unit))
abbrev zpp : Ty := (.pair .bool .unit)
abbrev zzI : Type := ((List Int) × ((Option ((Int × Unit) → Option (Bool × Unit))) × Unit)) → Option (Bool × Unit)
abbrev zm8 (g : Fnc zpo zpp) : Fun := ⟨141, zpo, zpp, 0, g⟩
abbrev zm9 : Ty := (.pair (.int .i64) (.pair (.ptr qF) .unit))
abbrev zna : Ty := (.pair .bool .unit)
abbrev zwW : Type := (Int × ((Option qv) × Unit)) → Option (Bool × Unit)
abbrev zll (g : Fnc zm9 zna) : Fun := ⟨142, zm9, zna, 0, g⟩
abbrev zuj : Ty := (.pair qF (.pair (.int .i64) .unit))
abbrev zuk : Ty := (.pair (.fn (.pair qf .unit) (.pair .bool .unit)) .unit)
abbrev zEV : Type := (qv × (Int × Unit)) → Option ((Option ((jC × Unit) → Option (Bool × Unit))) × Unit)
abbrev zrY (g : Fnc zuj zuk) : Fun := ⟨143, zuj, zuk, 0, g⟩
abbrev znb : Ty := (.pair (.sl qq) (.pair (.fn (.pair qq .unit) (.pair .bool .unit)) .unit))
abbrev znc : Ty := (.pair .bool .unit)
abbrev zwX : Type := ((List z9) × ((Option ((z9 × Unit) → Option (Bool × Unit))) × Unit)) → Option (Bool × Unit)
abbrev zlm (g : Fnc znb znc) : Fun := ⟨144, znb, znc, 0, g⟩
abbrev zpq : Ty := (.pair qq (.pair (.ptr (.fn (.pair qf .unit) (.pair .bool .unit))) .unit))
abbrev zpr : Ty := (.pair .bool .unit)
abbrev zzJ : Type := (z9 × ((Option (Option ((jC × Unit) → Option (Bool × Unit)))) × Unit)) → Option (Bool × Unit)
abbrev znd (g : Fnc zpq zpr) : Fun := ⟨145, zpq, zpr, 0, g⟩
abbrev zne : Ty := (.pair (.sl qi) (.pair (.fn (.pair qi .unit) (.pair .bool .unit)) .unit))
abbrev znf : Ty := (.pair .bool .unit)
abbrev zng : Type := ((List zW) × ((Option ((zW × Unit) → Option (Bool × Unit))) × Unit)) → Option (Bool × Unit)
abbrev zcF (g : Fnc zne znf) : Fun := ⟨146, zne, znf, 0, g⟩
abbrev zps : Ty := (.pair qi (.pair (.ptr (.fn (.pair qf .unit) (.pair .bool .unit))) .unit))
abbrev zpt : Ty := (.pair .bool .unit)
abbrev zzK : Type := (zW × ((Option (Option ((jC × Unit) → Option (Bool × Unit)))) × Unit)) → Option (Bool × Unit)
abbrev znh (g : Fnc zps zpt) : Fun := ⟨147, zps, zpt, 0, g⟩
abbrev zpu : Ty := (.pair (.sl qf) (.pair (.fn (.pair qf .unit) (.pair .bool .unit)) .unit))
abbrev zpv : Ty := (.pair .bool .unit)
abbrev zzL : Type := ((List jC) × ((Option ((jC × Unit) → Option (Bool × Unit))) × Unit)) → Option (Bool × Unit)
abbrev zni (g : Fnc zpu zpv) : Fun := ⟨148, zpu, zpv, 0, g⟩
abbrev znj : Ty := (.pair qi (.pair (.ptr qF) .unit))
abbrev znk : Ty := (.pair .bool .unit)
abbrev zwY : Type := (zW × ((Option qv) × Unit)) → Option (Bool × Unit)
abbrev zln (g : Fnc znj znk) : Fun := ⟨149, znj, znk, 0, g⟩
abbrev znl : Ty := (.pair (.sl qB) (.pair (.fn (.pair qB .unit) (.pair .bool .unit)) .unit))
abbrev znm : Ty := (.pair .bool .unit)
abbrev zwZ : Type := ((List qr) × ((Option ((qr × Unit) → Option (Bool × Unit))) × Unit)) → Option (Bool × Unit)
abbrev zlo (g : Fnc znl znm) : Fun := ⟨150, znl, znm, 0, g⟩
abbrev znn : Ty := (.pair qB (.pair (.ptr qF) (.pair (.ptr (.int .i64)) .unit)))
abbrev zno : Ty := (.pair .bool .unit)
abbrev zw0 : Type := (qr × ((Option qv) × ((Option Int) × Unit))) → Option (Bool × Unit)
abbrev zlp (g : Fnc znn zno) : Fun := ⟨151, znn, zno, 0, g⟩
abbrev zAU : Ty := (.pair qF (.pair (.int .i64) (.pair (.int .i64) .unit)))
abbrev zAV : Ty := (.pair .bool .unit)
abbrev zAW : Type := (qv × (Int × (Int × Unit))) → Option (Bool × Unit)
abbrev zjw (g : Fnc zAU zAV) : Fun := ⟨152, zAU, zAV, 0, g⟩
abbrev zlq : Ty := (.pair (.sl zI) (.pair (.fn (.pair zI .unit) (.pair .bool .unit)) .unit))
abbrev zlr : Ty := (.pair .bool .unit)
abbrev zvm : Type := ((List zq) × ((Option ((zq × Unit) → Option (Bool × Unit))) × Unit)) → Option (Bool × Unit)
abbrev zjx (g : Fnc zlq zlr) : Fun := ⟨153, zlq, zlr, 0, g⟩
abbrev znp : Ty := (.pair zI (.pair (.ptr qF) .unit))
abbrev znq : Ty := (.pair .bool .unit)
abbrev zw1 : Type := (zq × ((Option qv) × Unit)) → Option (Bool × Unit)
abbrev zls (g : Fnc znp znq) : Fun := ⟨154, znp, znq, 0, g⟩
abbrev znr : Ty := (.pair (.sl zI) (.pair (.fn (.pair zI .unit) (.pair .bool .unit)) .unit))
abbrev zns : Ty := (.pair (.ptr zaC) .unit)
abbrev znt : Type := ((List zq) × ((Option ((zq × Unit) → Option (Bool × Unit))) × Unit)) → Option ((Option yU) × Unit)
abbrev zcG (g : Fnc znr zns) : Fun := ⟨155, znr, zns, 0, g⟩
abbrev zpw : Ty := (.pair zI .unit)
abbrev zpx : Ty := (.pair .bool .unit)
abbrev zzM : Type := (zq × Unit) → Option (Bool × Unit)
abbrev znu (g : Fnc zpw zpx) : Fun := ⟨156, zpw, zpx, 0, g⟩
abbrev zpy : Ty := (.pair (.ptr zaC) (.pair (.int .i64) .unit))
abbrev zpz : Ty := (.pair .bool .unit)
abbrev zpA : Type := ((Option yU) × (Int × Unit)) → Option (Bool × Unit)
abbrev zdt (g : Fnc zpy zpz) : Fun := ⟨157, zpy, zpz, 0, g⟩
abbrev zGh : Ty := (.pair (.int .i64) (.pair (.int .i64) .unit))
abbrev zGi : Ty := (.pair .bool .unit)
abbrev zOs : Type := (Int × (Int × Unit)) → Option (Bool × Unit)
abbrev zDt (g : Fnc zGh zGi) : Fun := ⟨158, zGh, zGi, 0, g⟩
abbrev znv : Ty := (.pair (.int .i64) (.pair (.ptr (.sl (.sl (.int .i64)))) (.pair (.ptr (.int .i64)) .unit)))
abbrev znw : Ty := (.pair .bool .unit)
abbrev zw2 : Type := (Int × ((Option (List (List Int))) × ((Option Int) × Unit))) → Option (Bool × Unit)
abbrev zlt (g : Fnc znv znw) : Fun := ⟨159, znv, znw, 0, g⟩
abbrev zge : Ty := (.pair (.sl (.int .i64)) (.pair (.fn (.pair (.int .i64) .unit) (.pair .bool .unit)) .unit))
abbrev zgf : Ty := (.pair .bool .unit)
abbrev vD : Type := ((List Int) × ((Option ((Int × Unit) → Option (Bool × Unit))) × Unit)) → Option (Bool × Unit)
abbrev qt (g : Fnc zge zgf) : Fun := ⟨160, zge, zgf, 0, g⟩
abbrev zrZ : Ty := (.pair zN (.pair (.int .i64) .unit))
abbrev zkw : Ty := (.pair (.sl (.int .i64)) .unit)
abbrev zCf : Type := (zf × (Int × Unit)) → Option ((List Int) × Unit)
abbrev zpB (g : Fnc zrZ zkw) : Fun := ⟨161, zrZ, zkw, 0, g⟩
abbrev zpC : Ty := (.pair (.sl je) (.pair (.sl je) .unit))
abbrev zi5 : Ty := (.pair .bool .unit)
abbrev zzN : Type := ((List jM) × ((List jM) × Unit)) → Option (Bool × Unit)
abbrev znx (g : Fnc zpC zi5) : Fun := ⟨162, zpC, zi5, 0, g⟩
abbrev zpD : Ty := (.pair (.sl qq) (.pair (.sl qq) .unit))
abbrev zi6 : Ty := (.pair .bool .unit)
abbrev zzO : Type := ((List z9) × ((List z9) × Unit)) → Option (Bool × Unit)
abbrev zny (g : Fnc zpD zi6) : Fun := ⟨163, zpD, zi6, 0, g⟩
abbrev zpE : Ty := (.pair (.sl qi) (.pair (.sl qi) .unit))
abbrev zi7 : Ty := (.pair .bool .unit)
abbrev zzP : Type := ((List zW) × ((List zW) × Unit)) → Option (Bool × Unit)
abbrev znz (g : Fnc zpE zi7) : Fun := ⟨164, zpE, zi7, 0, g⟩
abbrev zpF : Ty := (.pair (.sl qB) (.pair (.sl qB) .unit))
abbrev zi8 : Ty := (.pair .bool .unit)
abbrev zzQ : Type := ((List qr) × ((List qr) × Unit)) → Option (Bool × Unit)
abbrev znA (g : Fnc zpF zi8) : Fun := ⟨165, zpF, zi8, 0, g⟩
abbrev znB : Ty := (.pair (.sl zI) (.pair (.sl zI) .unit))
abbrev zha : Ty := (.pair .bool .unit)
abbrev zw3 : Type := ((List zq) × ((List zq) × Unit)) → Option (Bool × Unit)
abbrev zlu (g : Fnc znB zha) : Fun := ⟨166, znB, zha, 0, g⟩
abbrev zul : Ty := (.pair (.sl (.arr 4 (.int .u64))) (.pair (.sl (.arr 4 (.int .u64))) .unit))
abbrev zmz : Ty := (.pair .bool .unit)
abbrev zEW : Type := ((List (List Int)) × ((List (List Int)) × Unit)) → Option (Bool × Unit)
abbrev zr0 (g : Fnc zul zmz) : Fun := ⟨167, zul, zmz, 0, g⟩
abbrev zr1 : Ty := (.pair (.sl qf) (.pair (.sl qf) .unit))
abbrev zkx : Ty := (.pair .bool .unit)
abbrev zCg : Type := ((List jC) × ((List jC) × Unit)) → Option (Bool × Unit)
abbrev zpG (g : Fnc zr1 zkx) : Fun := ⟨168, zr1, zkx, 0, g⟩
abbrev znC : Ty := (.pair zS .unit)
abbrev znD : Ty := (.pair .bool .unit)
abbrev zw4 : Type := (zM × Unit) → Option (Bool × Unit)
abbrev zlv (g : Fnc znC znD) : Fun := ⟨169, znC, znD, 0, g⟩
abbrev zum : Ty := (.pair zS .unit)
abbrev zun : Ty := (.pair .bool .unit)
abbrev zEX : Type := (zM × Unit) → Option (Bool × Unit)
abbrev zr2 (g : Fnc zum zun) : Fun := ⟨170, zum, zun, 0, g⟩
abbrev zr3 : Ty := (.pair (.int .i64) (.pair (.int .i64) (.pair (.int .i64) .unit)))
abbrev zr4 : Ty := (.pair .bool .unit)
abbrev vp : Type := (Int × (Int × (Int × Unit))) → Option (Bool × Unit)
abbrev qa (g : Fnc zr3 zr4) : Fun := ⟨171, zr3, zr4, 0, g⟩
abbrev zd2 : Ty := (.pair (.sl zS) (.pair (.fn (.pair zS .unit) (.pair .bool .unit)) .unit))
abbrev zd3 : Ty := (.pair .bool .unit)
abbrev zd4 : Type := ((List zM) × ((Option ((zM × Unit) → Option (Bool × Unit))) × Unit)) → Option (Bool × Unit)
abbrev vH (g : Fnc zd2 zd3) : Fun := ⟨172, zd2, zd3, 0, g⟩
abbrev zAX : Ty := (.pair zS (.pair zS .unit))
abbrev zAY : Ty := (.pair (.int .i64) .unit)
abbrev zIJ : Type := (zM × (zM × Unit)) → Option (Int × Unit)
abbrev zw5 (g : Fnc zAX zAY) : Fun := ⟨173, zAX, zAY, 0, g⟩
abbrev zpH : Ty := (.pair (.int .i64) (.pair (.ptr zN) .unit))
abbrev zpI : Ty := (.pair .bool .unit)
abbrev zzR : Type := (Int × ((Option zf) × Unit)) → Option (Bool × Unit)
abbrev znE (g : Fnc zpH zpI) : Fun := ⟨174, zpH, zpI, 0, g⟩
abbrev zjy : Ty := (.pair jP .unit)
abbrev zjz : Ty := (.pair .bool .unit)
abbrev zs9 : Type := (jg × Unit) → Option (Bool × Unit)
abbrev ziq (g : Fnc zjy zjz) : Fun := ⟨175, zjy, zjz, 0, g⟩
abbrev zw6 : Ty := (.pair .str .unit)
abbrev zw7 : Ty := (.pair .bool .unit)
abbrev zpJ : Type := (ByteArray × Unit) → Option (Bool × Unit)
abbrev zct (g : Fnc zw6 zw7) : Fun := ⟨176, zw6, zw7, 0, g⟩
abbrev zcX : Ty := (.pair (.sl jP) (.pair (.fn (.pair jP .unit) (.pair .bool .unit)) .unit))
abbrev zcY : Ty := (.pair .bool .unit)
abbrev zi9 : Type := ((List jg) × ((Option ((jg × Unit) → Option (Bool × Unit))) × Unit)) → Option (Bool × Unit)
abbrev zcu (g : Fnc zcX zcY) : Fun := ⟨177, zcX, zcY, 0, g⟩
abbrev zw8 : Ty := (.pair (.sl .str) .unit)
abbrev zpK : Ty := (.pair .bool .unit)
abbrev zGj : Type := ((List ByteArray) × Unit) → Option (Bool × Unit)
abbrev zuo (g : Fnc zw8 zpK) : Fun := ⟨178, zw8, zpK, 0, g⟩
abbrev zlw : Ty := (.pair zN .unit)
abbrev zfZ : Ty := (.pair (.sl .str) .unit)
abbrev zvn : Type := (zf × Unit) → Option ((List ByteArray) × Unit)
abbrev zjA (g : Fnc zlw zfZ) : Fun := ⟨179, zlw, zfZ, 0, g⟩
abbrev zw9 : Ty := (.pair (.int .i64) .unit)
abbrev zxa : Ty := (.pair zS (.pair (.int .i64) .unit))
abbrev zGk : Type := (Int × Unit) → Option (zM × (Int × Unit))
abbrev zup (g : Fnc zw9 zxa) : Fun := ⟨180, zw9, zxa, 0, g⟩
abbrev zir : Ty := (.pair (.sl zS) (.pair zS .unit))
abbrev zis : Ty := (.pair .bool .unit)
abbrev zqW : Type := ((List zM) × (zM × Unit)) → Option (Bool × Unit)
abbrev zhb (g : Fnc zir zis) : Fun := ⟨181, zir, zis, 0, g⟩
abbrev znF : Ty := (.pair zS (.pair (.ptr (.int .u64)) .unit))
abbrev znG : Ty := (.pair .bool .unit)
abbrev zxb : Type := (zM × ((Option Int) × Unit)) → Option (Bool × Unit)
abbrev zlx (g : Fnc znF znG) : Fun := ⟨182, znF, znG, 0, g⟩
abbrev znH : Ty := (.pair (.int .i64) .unit)
abbrev znI : Ty := (.pair .bool .unit)
abbrev zxc : Type := (Int × Unit) → Option (Bool × Unit)
abbrev zly (g : Fnc znH znI) : Fun := ⟨183, znH, znI, 0, g⟩
abbrev zpL : Ty := (.pair zhY .unit)
abbrev zpM : Ty := (.pair (.sl (.int .i64)) .unit)
abbrev zzS : Type := (zga × Unit) → Option ((List Int) × Unit)
abbrev znJ (g : Fnc zpL zpM) : Fun := ⟨184, zpL, zpM, 0, g⟩
abbrev zDu : Ty := (.pair (.sl zv) .unit)
abbrev zDv : Ty := (.pair (.ptr zbG) .unit)
abbrev zK7 : Type := ((List zp) × Unit) → Option ((Option zaD) × Unit)
abbrev zAZ (g : Fnc zDu zDv) : Fun := ⟨195, zDu, zDv, 0, g⟩
abbrev zlz : Ty := (.pair (.ptr zbG) .unit)
abbrev zf0 : Ty := (.pair (.sl (.int .i64)) .unit)
abbrev zvo : Type := ((Option zaD) × Unit) → Option ((List Int) × Unit)
abbrev zjB (g : Fnc zlz zf0) : Fun := ⟨196, zlz, zf0, 0, g⟩
abbrev zuq : Ty := (.pair zI .unit)
abbrev zur : Ty := (.pair .bool .unit)
abbrev zEY : Type := (zq × Unit) → Option (Bool × Unit)
abbrev zr5 (g : Fnc zuq zur) : Fun := ⟨197, zuq, zur, 0, g⟩
abbrev znK : Ty := (.pair (.ptr zaC) .unit)
abbrev znL : Ty := (.pair .bool .unit)
abbrev znM : Type := ((Option yU) × Unit) → Option (Bool × Unit)
abbrev zcH (g : Fnc znK znL) : Fun := ⟨198, znK, znL, 0, g⟩
abbrev zd5 : Ty := (.pair (.sl zl) (.pair (.fn (.pair zl .unit) (.pair .bool .unit)) .unit))
abbrev zd6 : Ty := (.pair .bool .unit)
abbrev zkR : Type := ((List zm) × ((Option ((zm × Unit) → Option (Bool × Unit))) × Unit)) → Option (Bool × Unit)
abbrev zdu (g : Fnc zd5 zd6) : Fun := ⟨200, zd5, zd6, 0, g⟩
abbrev zit : Ty := (.pair zl (.pair (.ptr (.fn (.pair zl .unit) (.pair .bool .unit))) .unit))
abbrev ziu : Ty := (.pair .bool .unit)
abbrev zqX : Type := (zm × ((Option (Option ((zm × Unit) → Option (Bool × Unit)))) × Unit)) → Option (Bool × Unit)
abbrev zhc (g : Fnc zit ziu) : Fun := ⟨201, zit, ziu, 0, g⟩
abbrev zfo : Ty := (.pair (.sl je) (.pair (.fn (.pair je .unit) (.pair .bool .unit)) .unit))
abbrev zfp : Ty := (.pair .bool .unit)
abbrev zl3 : Type := ((List jM) × ((Option ((jM × Unit) → Option (Bool × Unit))) × Unit)) → Option (Bool × Unit)
abbrev zd7 (g : Fnc zfo zfp) : Fun := ⟨202, zfo, zfp, 0, g⟩
abbrev zr6 : Ty := (.pair je .unit)
abbrev zr7 : Ty := (.pair .bool .unit)
abbrev zCh : Type := (jM × Unit) → Option (Bool × Unit)
abbrev zpN (g : Fnc zr6 zr7) : Fun := ⟨203, zr6, zr7, 0, g⟩
abbrev zxd : Ty := (.pair qq .unit)
abbrev zxe : Ty := (.pair .bool .unit)
abbrev zGl : Type := (z9 × Unit) → Option (Bool × Unit)
abbrev zus (g : Fnc zxd zxe) : Fun := ⟨204, zxd, zxe, 0, g⟩
abbrev zxf : Ty := (.pair (.sl qq) (.pair qf (.pair (.int .i64) .unit)))
abbrev zxg : Ty := (.pair (.int .i64) .unit)
abbrev zGm : Type := ((List z9) × (jC × (Int × Unit))) → Option (Int × Unit)
abbrev zut (g : Fnc zxf zxg) : Fun := ⟨205, zxf, zxg, 0, g⟩
abbrev zfq : Ty := (.pair (.sl qi) (.pair (.fn (.pair qi .unit) (.pair .bool .unit)) .unit))
abbrev zfr : Ty := (.pair .bool .unit)
abbrev zfs : Type := ((List zW) × ((Option ((zW × Unit) → Option (Bool × Unit))) × Unit)) → Option (Bool × Unit)
abbrev yi (g : Fnc zfq zfr) : Fun := ⟨206, zfq, zfr, 0, g⟩
abbrev zuu : Ty := (.pair qi .unit)
abbrev zuv : Ty := (.pair .bool .unit)
abbrev zEZ : Type := (zW × Unit) → Option (Bool × Unit)
abbrev zr8 (g : Fnc zuu zuv) : Fun := ⟨207, zuu, zuv, 0, g⟩
abbrev zft : Ty := (.pair (.sl qB) (.pair (.fn (.pair qB .unit) (.pair .bool .unit)) .unit))
abbrev zfu : Ty := (.pair .bool .unit)
abbrev zfv : Type := ((List qr) × ((Option ((qr × Unit) → Option (Bool × Unit))) × Unit)) → Option (Bool × Unit)
abbrev yj (g : Fnc zft zfu) : Fun := ⟨208, zft, zfu, 0, g⟩
abbrev zxh : Ty := (.pair qB .unit)
abbrev zxi : Ty := (.pair .bool .unit)
abbrev zGn : Type := (qr × Unit) → Option (Bool × Unit)
abbrev zuw (g : Fnc zxh zxi) : Fun := ⟨209, zxh, zxi, 0, g⟩
abbrev zd8 : Ty := (.pair (.sl zI) (.pair (.fn (.pair zI .unit) (.pair .bool .unit)) .unit))
abbrev zd9 : Ty := (.pair .bool .unit)
abbrev zea : Type := ((List zq) × ((Option ((zq × Unit) → Option (Bool × Unit))) × Unit)) → Option (Bool × Unit)
abbrev vI (g : Fnc zd8 zd9) : Fun := ⟨210, zd8, zd9, 0, g⟩
abbrev zpO : Ty := (.pair zI .unit)
abbrev zpP : Ty := (.pair .bool .unit)
abbrev zzT : Type := (zq × Unit) → Option (Bool × Unit)
abbrev znN (g : Fnc zpO zpP) : Fun := ⟨211, zpO, zpP, 0, g⟩
abbrev zA0 : Ty := (.pair zI .unit)
abbrev zA1 : Ty := (.pair .bool .unit)
abbrev zIK : Type := (zq × Unit) → Option (Bool × Unit)
abbrev zxj (g : Fnc zA0 zA1) : Fun := ⟨212, zA0, zA1, 0, g⟩
abbrev zr9 : Ty := (.pair (.int .i64) .unit)
abbrev zsa : Ty := (.pair .bool .unit)
abbrev zCi : Type := (Int × Unit) → Option (Bool × Unit)
abbrev zpQ (g : Fnc zr9 zsa) : Fun := ⟨213, zr9, zsa, 0, g⟩
abbrev zDw : Ty := (.pair zv .unit)
abbrev zDx : Ty := (.pair .bool .unit)
abbrev zK8 : Type := (zp × Unit) → Option (Bool × Unit)
abbrev zA2 (g : Fnc zDw zDx) : Fun := ⟨214, zDw, zDx, 0, g⟩
abbrev zA3 : Ty := (.pair zF .unit)
abbrev zA4 : Ty := (.pair .bool .unit)
abbrev zIL : Type := (zK × Unit) → Option (Bool × Unit)
abbrev zxk (g : Fnc zA3 zA4) : Fun := ⟨215, zA3, zA4, 0, g⟩
abbrev zux : Ty := (.pair zF (.pair zF .unit))
abbrev zuy : Ty := (.pair (.int .i64) .unit)
abbrev zE0 : Type := (zK × (zK × Unit)) → Option (Int × Unit)
abbrev zsb (g : Fnc zux zuy) : Fun := ⟨216, zux, zuy, 0, g⟩
abbrev zeb : Ty := (.pair (.sl zv) (.pair (.fn (.pair zv .unit) (.pair .bool .unit)) .unit))
abbrev zec : Ty := (.pair .bool .unit)
abbrev zkS : Type := ((List zp) × ((Option ((zp × Unit) → Option (Bool × Unit))) × Unit)) → Option (Bool × Unit)
abbrev zdv (g : Fnc zeb zec) : Fun := ⟨217, zeb, zec, 0, g⟩
abbrev ziv : Ty := (.pair zv (.pair (.ptr (.fn (.pair zv .unit) (.pair .bool .unit))) .unit))
abbrev ziw : Ty := (.pair .bool .unit)
abbrev zqY : Type := (zp × ((Option (Option ((zp × Unit) → Option (Bool × Unit)))) × Unit)) → Option (Bool × Unit)
abbrev zhd (g : Fnc ziv ziw) : Fun := ⟨218, ziv, ziw, 0, g⟩
abbrev zed : Ty := (.pair (.sl zF) (.pair (.fn (.pair zF .unit) (.pair .bool .unit)) .unit))
abbrev zee : Ty := (.pair .bool .unit)
abbrev zkT : Type := ((List zK) × ((Option ((zK × Unit) → Option (Bool × Unit))) × Unit)) → Option (Bool × Unit)
abbrev zdw (g : Fnc zed zee) : Fun := ⟨219, zed, zee, 0, g⟩
abbrev zix : Ty := (.pair zF (.pair (.ptr (.fn (.pair zF .unit) (.pair .bool .unit))) .unit))
abbrev ziy : Ty := (.pair .bool .unit)
abbrev zqZ : Type := (zK × ((Option (Option ((zK × Unit) → Option (Bool × Unit)))) × Unit)) → Option (Bool × Unit)
abbrev zhe (g : Fnc zix ziy) : Fun := ⟨220, zix, ziy, 0, g⟩
abbrev zlA : Ty := (.pair (.int .i64) (.pair (.ptr (.fn (.pair (.int .i64) .unit) (.pair .bool .unit))) .unit))
abbrev zlB : Ty := (.pair .bool .unit)
abbrev zvp : Type := (Int × ((Option (Option ((Int × Unit) → Option (Bool × Unit)))) × Unit)) → Option (Bool × Unit)
abbrev zjC (g : Fnc zlA zlB) : Fun := ⟨221, zlA, zlB, 0, g⟩
abbrev zpR : Ty := (.pair qf (.pair (.ptr qF) (.pair (.ptr (.int .i64)) .unit)))
abbrev zpS : Ty := (.pair .bool .unit)
abbrev zzU : Type := (jC × ((Option qv) × ((Option Int) × Unit))) → Option (Bool × Unit)
abbrev znO (g : Fnc zpR zpS) : Fun := ⟨222, zpR, zpS, 0, g⟩
abbrev zfw : Ty := (.pair (.sl qq) (.pair (.fn (.pair qq .unit) (.pair .bool .unit)) .unit))
abbrev zfx : Ty := (.pair .bool .unit)
abbrev zl4 : Type := ((List z9) × ((Option ((z9 × Unit) → Option (Bool × Unit))) × Unit)) → Option (Bool × Unit)
abbrev zef (g : Fnc zfw zfx) : Fun := ⟨223, zfw, zfx, 0, g⟩
abbrev zjD : Ty := (.pair qq (.pair (.ptr (.fn (.pair qq .unit) (.pair .bool .unit))) .unit))
abbrev zjE : Ty := (.pair .bool .unit)
abbrev zta : Type := (z9 × ((Option (Option ((z9 × Unit) → Option (Bool × Unit)))) × Unit)) → Option (Bool × Unit)
abbrev ziz (g : Fnc zjD zjE) : Fun := ⟨224, zjD, zjE, 0, g⟩
abbrev zjF : Ty := (.pair qi (.pair (.ptr (.fn (.pair qi .unit) (.pair .bool .unit))) .unit))
abbrev zjG : Ty := (.pair .bool .unit)
abbrev ztb : Type := (zW × ((Option (Option ((zW × Unit) → Option (Bool × Unit)))) × Unit)) → Option (Bool × Unit)
abbrev ziA (g : Fnc zjF zjG) : Fun := ⟨225, zjF, zjG, 0, g⟩
abbrev zgg : Ty := (.pair (.sl qf) (.pair (.fn (.pair qf .unit) (.pair .bool .unit)) .unit))
abbrev zgh : Ty := (.pair .bool .unit)
abbrev zon : Type := ((List jC) × ((Option ((jC × Unit) → Option (Bool × Unit))) × Unit)) → Option (Bool × Unit)
abbrev zfy (g : Fnc zgg zgh) : Fun := ⟨226, zgg, zgh, 0, g⟩
abbrev zlC : Ty := (.pair qf (.pair (.ptr (.fn (.pair qf .unit) (.pair .bool .unit))) .unit))
abbrev zlD : Ty := (.pair .bool .unit)
abbrev zvq : Type := (jC × ((Option (Option ((jC × Unit) → Option (Bool × Unit)))) × Unit)) → Option (Bool × Unit)
abbrev zjH (g : Fnc zlC zlD) : Fun := ⟨227, zlC, zlD, 0, g⟩
abbrev zjI : Ty := (.pair qB (.pair (.ptr (.fn (.pair qB .unit) (.pair .bool .unit))) .unit))
abbrev zjJ : Ty := (.pair .bool .unit)
abbrev ztc : Type := (qr × ((Option (Option ((qr × Unit) → Option (Bool × Unit)))) × Unit)) → Option (Bool × Unit)
abbrev ziB (g : Fnc zjI zjJ) : Fun := ⟨228, zjI, zjJ, 0, g⟩
abbrev ziC : Ty := (.pair zI (.pair (.ptr (.fn (.pair zI .unit) (.pair .bool .unit))) .unit))
abbrev ziD : Ty := (.pair .bool .unit)
abbrev zq0 : Type := (zq × ((Option (Option ((zq × Unit) → Option (Bool × Unit)))) × Unit)) → Option (Bool × Unit)
abbrev zhf (g : Fnc ziC ziD) : Fun := ⟨229, ziC, ziD, 0, g⟩
abbrev zjK : Ty := (.pair (.sl (.int .i64)) (.pair (.fn (.pair (.int .i64) .unit) (.pair .bool .unit)) .unit))
abbrev zeS : Ty := (.pair (.int .i64) .unit)
abbrev ztd : Type := ((List Int) × ((Option ((Int × Unit) → Option (Bool × Unit))) × Unit)) → Option (Int × Unit)
abbrev ziE (g : Fnc zjK zeS) : Fun := ⟨230, zjK, zeS, 0, g⟩
abbrev zlE : Ty := (.pair (.sl (.int .i64)) (.pair (.int .i64) .unit))
abbrev zlF : Ty := (.pair .bool .unit)
abbrev zvr : Type := ((List Int) × (Int × Unit)) → Option (Bool × Unit)
abbrev zjL (g : Fnc zlE zlF) : Fun := ⟨231, zlE, zlF, 0, g⟩
abbrev zGo : Ty := (.pair zS .unit)
abbrev zGp : Ty := (.pair (.sl (.int .i64)) .unit)
abbrev zGq : Type := (zM × Unit) → Option ((List Int) × Unit)
abbrev zuz (g : Fnc zGo zGp) : Fun := ⟨232, zGo, zGp, 0, g⟩
abbrev zhg : Ty := (.pair (.sl zS) (.pair (.fn (.pair zS .unit) (.pair .bool .unit)) .unit))
abbrev zcZ : Ty := (.pair (.int .i64) .unit)
abbrev zpT : Type := ((List zM) × ((Option ((zM × Unit) → Option (Bool × Unit))) × Unit)) → Option (Int × Unit)
abbrev zgi (g : Fnc zhg zcZ) : Fun := ⟨233, zhg, zcZ, 0, g⟩
abbrev zxl : Ty := (.pair (.sl (.int .i64)) .unit)
abbrev zpU : Ty := (.pair (.int .i64) .unit)
abbrev zxm : Type := ((List Int) × Unit) → Option (Int × Unit)
abbrev zh1 (g : Fnc zxl zpU) : Fun := ⟨234, zxl, zpU, 0, g⟩
abbrev zlG : Ty := (.pair (.int .i64) (.pair (.int .i64) .unit))
abbrev zlH : Ty := (.pair (.int .i64) .unit)
abbrev zlI : Type := (Int × (Int × Unit)) → Option (Int × Unit)
abbrev zbU (g : Fnc zlG zlH) : Fun := ⟨235, zlG, zlH, 0, g⟩
abbrev zhh : Ty := (.pair (.int .u64) (.pair (.int .u64) .unit))
abbrev zhi : Ty := (.pair (.int .i64) .unit)
abbrev zhj : Type := (Int × (Int × Unit)) → Option (Int × Unit)
abbrev y6 (g : Fnc zhh zhi) : Fun := ⟨236, zhh, zhi, 0, g⟩
abbrev zxn : Ty := (.pair (.int .u8) .unit)
abbrev zxo : Ty := (.pair .bool .unit)
abbrev zxp : Type := (Int × Unit) → Option (Bool × Unit)
abbrev zh2 (g : Fnc zxn zxo) : Fun := ⟨237, zxn, zxo, 0, g⟩
abbrev zDy : Ty := (.pair .str (.pair (.fn (.pair (.int .u8) .unit) (.pair .bool .unit)) .unit))
abbrev zDz : Ty := (.pair .bool .unit)
abbrev zDA : Type := (ByteArray × ((Option ((Int × Unit) → Option (Bool × Unit))) × Unit)) → Option (Bool × Unit)
abbrev zl5 (g : Fnc zDy zDz) : Fun := ⟨238, zDy, zDz, 0, g⟩
abbrev zsc : Ty := (.pair (.int .u8) .unit)
abbrev zsd : Ty := (.pair .bool .unit)
abbrev zCj : Type := (Int × Unit) → Option (Bool × Unit)
abbrev zpV (g : Fnc zsc zsd) : Fun := ⟨239, zsc, zsd, 0, g⟩
abbrev zxq : Ty := (.pair (.int .u8) .unit)
abbrev zxr : Ty := (.pair .bool .unit)
abbrev zGr : Type := (Int × Unit) → Option (Bool × Unit)
abbrev zuA (g : Fnc zxq zxr) : Fun := ⟨240, zxq, zxr, 0, g⟩
abbrev zfz : Ty := (.pair (.sl jP) (.pair (.fn (.pair jP .unit) (.pair .bool .unit)) .unit))
abbrev zbI : Ty := (.pair (.int .i64) .unit)
abbrev zl6 : Type := ((List jg) × ((Option ((jg × Unit) → Option (Bool × Unit))) × Unit)) → Option (Int × Unit)
abbrev zeg (g : Fnc zfz zbI) : Fun := ⟨241, zfz, zbI, 0, g⟩
abbrev znP : Ty := (.pair (.sl zS) (.pair zS .unit))
abbrev zhk : Ty := (.pair (.int .i64) .unit)
abbrev zxs : Type := ((List zM) × (zM × Unit)) → Option (Int × Unit)
abbrev zlJ (g : Fnc znP zhk) : Fun := ⟨242, znP, zhk, 0, g⟩
abbrev znQ : Ty := (.pair (.sl zv) (.pair (.fn (.pair zv .unit) (.pair .bool .unit)) .unit))
abbrev znR : Ty := (.pair (.ptr zbG) .unit)
abbrev zxt : Type := ((List zp) × ((Option ((zp × Unit) → Option (Bool × Unit))) × Unit)) → Option ((Option zaD) × Unit)
abbrev zlK (g : Fnc znQ znR) : Fun := ⟨249, znQ, znR, 0, g⟩
abbrev zxu : Ty := (.pair zv .unit)
abbrev zxv : Ty := (.pair .bool .unit)
abbrev zGs : Type := (zp × Unit) → Option (Bool × Unit)
abbrev zuB (g : Fnc zxu zxv) : Fun := ⟨250, zxu, zxv, 0, g⟩
abbrev znS : Ty := (.pair (.ptr zbG) .unit)
abbrev znT : Ty := (.pair .bool .unit)
abbrev znU : Type := ((Option zaD) × Unit) → Option (Bool × Unit)
abbrev zcI (g : Fnc znS znT) : Fun := ⟨251, znS, znT, 0, g⟩
abbrev zpW : Ty := (.pair (.ptr zbG) (.pair (.int .i64) .unit))
abbrev zpX : Ty := (.pair .bool .unit)
abbrev zzV : Type := ((Option zaD) × (Int × Unit)) → Option (Bool × Unit)
abbrev znV (g : Fnc zpW zpX) : Fun := ⟨252, zpW, zpX, 0, g⟩
abbrev zhl : Ty := (.pair (.sl zl) (.pair (.fn (.pair zl .unit) (.pair .bool .unit)) .unit))
abbrev zc0 : Ty := (.pair (.int .i64) .unit)
abbrev zpY : Type := ((List zm) × ((Option ((zm × Unit) → Option (Bool × Unit))) × Unit)) → Option (Int × Unit)
abbrev zgj (g : Fnc zhl zc0) : Fun := ⟨253, zhl, zc0, 0, g⟩
abbrev ziF : Ty := (.pair (.sl je) (.pair (.fn (.pair je .unit) (.pair .bool .unit)) .unit))
abbrev zdW : Ty := (.pair (.int .i64) .unit)
abbrev zq1 : Type := ((List jM) × ((Option ((jM × Unit) → Option (Bool × Unit))) × Unit)) → Option (Int × Unit)
abbrev zhm (g : Fnc ziF zdW) : Fun := ⟨254, ziF, zdW, 0, g⟩
abbrev zxw : Ty := (.pair qf .unit)
abbrev zxx : Ty := (.pair .bool .unit)
abbrev zGt : Type := (jC × Unit) → Option (Bool × Unit)
abbrev zuC (g : Fnc zxw zxx) : Fun := ⟨255, zxw, zxx, 0, g⟩
abbrev zxy : Ty := (.pair (.int .i64) .unit)
abbrev zxz : Ty := (.pair .bool .unit)
abbrev zGu : Type := (Int × Unit) → Option (Bool × Unit)
abbrev zuD (g : Fnc zxy zxz) : Fun := ⟨256, zxy, zxz, 0, g⟩
abbrev ziG : Ty := (.pair (.sl qq) (.pair (.fn (.pair qq .unit) (.pair .bool .unit)) .unit))
abbrev zdX : Ty := (.pair (.int .i64) .unit)
abbrev ziH : Type := ((List z9) × ((Option ((z9 × Unit) → Option (Bool × Unit))) × Unit)) → Option (Int × Unit)
abbrev zaF (g : Fnc ziG zdX) : Fun := ⟨257, ziG, zdX, 0, g⟩
abbrev zse : Ty := (.pair qq (.pair (.ptr qf) (.pair (.ptr (.int .i64)) .unit)))
abbrev zsf : Ty := (.pair .bool .unit)
abbrev zCk : Type := (z9 × ((Option jC) × ((Option Int) × Unit))) → Option (Bool × Unit)
abbrev zpZ (g : Fnc zse zsf) : Fun := ⟨258, zse, zsf, 0, g⟩
abbrev ziI : Ty := (.pair (.sl qi) (.pair (.fn (.pair qi .unit) (.pair .bool .unit)) .unit))
abbrev zdY : Ty := (.pair (.int .i64) .unit)
abbrev zq2 : Type := ((List zW) × ((Option ((zW × Unit) → Option (Bool × Unit))) × Unit)) → Option (Int × Unit)
abbrev zhn (g : Fnc ziI zdY) : Fun := ⟨259, ziI, zdY, 0, g⟩
abbrev zDB : Ty := (.pair qi .unit)
abbrev zDC : Ty := (.pair zHH .unit)
abbrev zK9 : Type := (zW × Unit) → Option (zB2 × Unit)
abbrev zA5 (g : Fnc zDB zDC) : Fun := ⟨260, zDB, zDC, 0, g⟩
abbrev zjM : Ty := (.pair zHH .unit)
abbrev zjN : Ty := (.pair .bool .unit)
abbrev zte : Type := (zB2 × Unit) → Option (Bool × Unit)
abbrev ziJ (g : Fnc zjM zjN) : Fun := ⟨261, zjM, zjN, 0, g⟩
abbrev ziK : Ty := (.pair (.sl qB) (.pair (.fn (.pair qB .unit) (.pair .bool .unit)) .unit))
abbrev zdZ : Ty := (.pair (.int .i64) .unit)
abbrev zq3 : Type := ((List qr) × ((Option ((qr × Unit) → Option (Bool × Unit))) × Unit)) → Option (Int × Unit)
abbrev zho (g : Fnc ziK zdZ) : Fun := ⟨262, ziK, zdZ, 0, g⟩
abbrev zsg : Ty := (.pair qB .unit)
abbrev zsh : Ty := (.pair .bool .unit)
abbrev zCl : Type := (qr × Unit) → Option (Bool × Unit)
abbrev zp0 (g : Fnc zsg zsh) : Fun := ⟨263, zsg, zsh, 0, g⟩
abbrev zA6 : Ty := (.pair .str .unit)
abbrev zA7 : Ty := (.pair .bool .unit)
abbrev zIM : Type := (ByteArray × Unit) → Option (Bool × Unit)
abbrev zxA (g : Fnc zA6 zA7) : Fun := ⟨264, zA6, zA7, 0, g⟩
abbrev zhp : Ty := (.pair (.sl zI) (.pair (.fn (.pair zI .unit) (.pair .bool .unit)) .unit))
abbrev zc1 : Ty := (.pair (.int .i64) .unit)
abbrev zp1 : Type := ((List zq) × ((Option ((zq × Unit) → Option (Bool × Unit))) × Unit)) → Option (Int × Unit)
abbrev zgk (g : Fnc zhp zc1) : Fun := ⟨265, zhp, zc1, 0, g⟩
abbrev zDD : Ty := (.pair (.int .i64) .unit)
abbrev zDE : Ty := (.pair .bool .unit)
abbrev zDF : Type := (Int × Unit) → Option (Bool × Unit)
abbrev zl7 (g : Fnc zDD zDE) : Fun := ⟨266, zDD, zDE, 0, g⟩
abbrev zA8 : Ty := (.pair zg5 .unit)
abbrev zA9 : Ty := (.pair .bool .unit)
abbrev zIN : Type := (zoL × Unit) → Option (Bool × Unit)
abbrev zxB (g : Fnc zA8 zA9) : Fun := ⟨267, zA8, zA9, 0, g⟩
abbrev zxC : Ty := (.pair zg5 .unit)
abbrev zxD : Ty := (.pair .bool .unit)
abbrev zGv : Type := (zoL × Unit) → Option (Bool × Unit)
abbrev zuE (g : Fnc zxC zxD) : Fun := ⟨268, zxC, zxD, 0, g⟩
abbrev zBa : Ty := (.pair (.int .i64) (.pair (.int .u64) (.pair (.int .u64) .unit)))
abbrev zBb : Ty := (.pair (.int .u64) (.pair (.int .i64) .unit))
abbrev zBc : Type := (Int × (Int × (Int × Unit))) → Option (Int × (Int × Unit))
abbrev zjO (g : Fnc zBa zBb) : Fun := ⟨269, zBa, zBb, 0, g⟩
abbrev zGw : Ty := (.pair (.int .i64) .unit)
abbrev zGx : Ty := (.pair .bool .unit)
abbrev zOt : Type := (Int × Unit) → Option (Bool × Unit)
abbrev zDG (g : Fnc zGw zGx) : Fun := ⟨270, zGw, zGx, 0, g⟩
abbrev zDH : Ty := (.pair (.int .i64) .unit)
abbrev zDI : Ty := (.pair .bool .unit)
abbrev zLa : Type := (Int × Unit) → Option (Bool × Unit)
abbrev zBd (g : Fnc zDH zDI) : Fun := ⟨271, zDH, zDI, 0, g⟩
abbrev zhq : Ty := (.pair (.sl zv) (.pair (.fn (.pair zv .unit) (.pair .bool .unit)) .unit))
abbrev zc2 : Ty := (.pair (.int .i64) .unit)
abbrev zp2 : Type := ((List zp) × ((Option ((zp × Unit) → Option (Bool × Unit))) × Unit)) → Option (Int × Unit)
abbrev zgl (g : Fnc zhq zc2) : Fun := ⟨272, zhq, zc2, 0, g⟩
abbrev zhr : Ty := (.pair (.sl zF) (.pair (.fn (.pair zF .unit) (.pair .bool .unit)) .unit))
abbrev zc3 : Ty := (.pair (.int .i64) .unit)
abbrev zp3 : Type := ((List zK) × ((Option ((zK × Unit) → Option (Bool × Unit))) × Unit)) → Option (Int × Unit)
abbrev zgm (g : Fnc zhr zc3) : Fun := ⟨273, zhr, zc3, 0, g⟩
abbrev zjP : Ty := (.pair (.sl qf) (.pair (.fn (.pair qf .unit) (.pair .bool .unit)) .unit))
abbrev zeT : Ty := (.pair (.int .i64) .unit)
abbrev ztf : Type := ((List jC) × ((Option ((jC × Unit) → Option (Bool × Unit))) × Unit)) → Option (Int × Unit)
abbrev ziL (g : Fnc zjP zeT) : Fun := ⟨274, zjP, zeT, 0, g⟩
abbrev zsi : Ty := (.pair (.sl (.int .i64)) (.pair (.int .i64) .unit))
abbrev zky : Ty := (.pair (.int .i64) .unit)
abbrev zCm : Type := ((List Int) × (Int × Unit)) → Option (Int × Unit)
abbrev zp4 (g : Fnc zsi zky) : Fun := ⟨275, zsi, zky, 0, g⟩
abbrev zp5 : Ty := (.pair (.int .i64) .unit)
abbrev zp6 : Ty := (.pair .bool .unit)
abbrev zzW : Type := (Int × Unit) → Option (Bool × Unit)
abbrev znW (g : Fnc zp5 zp6) : Fun := ⟨277, zp5, zp6, 0, g⟩
abbrev zjQ : Ty := (.pair (.int .u64) .unit)
abbrev zjR : Ty := (.pair .bool .unit)
abbrev ztg : Type := (Int × Unit) → Option (Bool × Unit)
abbrev ziM (g : Fnc zjQ zjR) : Fun := ⟨278, zjQ, zjR, 0, g⟩
abbrev zxE : Ty := (.pair (.int .u8) (.pair (.ptr (.fn (.pair (.int .u8) .unit) (.pair .bool .unit))) .unit))
abbrev zxF : Ty := (.pair .bool .unit)
abbrev zGy : Type := (Int × ((Option (Option ((Int × Unit) → Option (Bool × Unit)))) × Unit)) → Option (Bool × Unit)
abbrev zuF (g : Fnc zxE zxF) : Fun := ⟨279, zxE, zxF, 0, g⟩
abbrev zfA : Ty := (.pair (.sl (.int .u8)) (.pair (.fn (.pair (.int .u8) .unit) (.pair .bool .unit)) .unit))
abbrev zfB : Ty := (.pair .bool .unit)
abbrev zl8 : Type := ((List Int) × ((Option ((Int × Unit) → Option (Bool × Unit))) × Unit)) → Option (Bool × Unit)
abbrev zeh (g : Fnc zfA zfB) : Fun := ⟨280, zfA, zfB, 0, g⟩
abbrev zDJ : Ty := (.pair (.int .i64) .unit)
abbrev zDK : Ty := (.pair .bool .unit)
abbrev zLb : Type := (Int × Unit) → Option (Bool × Unit)
abbrev zBe (g : Fnc zDJ zDK) : Fun := ⟨282, zDJ, zDK, 0, g⟩
abbrev zGz : Ty := (.pair (.int .i64) .unit)
abbrev zGA : Ty := (.pair .bool .unit)
abbrev zOu : Type := (Int × Unit) → Option (Bool × Unit)
abbrev zDL (g : Fnc zGz zGA) : Fun := ⟨283, zGz, zGA, 0, g⟩
abbrev zxG : Ty := (.pair (.int .u8) .unit)
abbrev zxH : Ty := (.pair .bool .unit)
abbrev zGB : Type := (Int × Unit) → Option (Bool × Unit)
abbrev zuG (g : Fnc zxG zxH) : Fun := ⟨284, zxG, zxH, 0, g⟩
abbrev zsj : Ty := (.pair .str (.pair .str .unit))
abbrev zsk : Ty := (.pair .str .unit)
abbrev zCn : Type := (ByteArray × (ByteArray × Unit)) → Option (ByteArray × Unit)
abbrev zp7 (g : Fnc zsj zsk) : Fun := ⟨285, zsj, zsk, 0, g⟩
abbrev zxI : Ty := (.pair (.int .u64) (.pair (.int .u64) .unit))
abbrev zxJ : Ty := (.pair (.int .u64) (.pair (.int .i64) .unit))
abbrev zGC : Type := (Int × (Int × Unit)) → Option (Int × (Int × Unit))
abbrev zuH (g : Fnc zxI zxJ) : Fun := ⟨286, zxI, zxJ, 0, g⟩
abbrev ziN : Ty := (.pair (.sl (.int .u8)) (.pair (.fn (.pair (.int .u8) .unit) (.pair .bool .unit)) .unit))
abbrev zd0 : Ty := (.pair (.int .i64) .unit)
abbrev zq4 : Type := ((List Int) × ((Option ((Int × Unit) → Option (Bool × Unit))) × Unit)) → Option (Int × Unit)
abbrev zhs (g : Fnc ziN zd0) : Fun := ⟨289, ziN, zd0, 0, g⟩
abbrev zfC : Ty := (.pair .str (.pair (.int .u8) .unit))
abbrev zbJ : Ty := (.pair .str .unit)
abbrev zl9 : Type := (ByteArray × (Int × Unit)) → Option (ByteArray × Unit)
abbrev zei (g : Fnc zfC zbJ) : Fun := ⟨290, zfC, zbJ, 0, g⟩
abbrev zej : Ty := (.pair .str (.pair (.int .u8) .unit))
abbrev zbc : Ty := (.pair .str .unit)
abbrev zkU : Type := (ByteArray × (Int × Unit)) → Option (ByteArray × Unit)
abbrev zdx (g : Fnc zej zbc) : Fun := ⟨291, zej, zbc, 0, g⟩
abbrev zlL : Ty := (.pair (.int .u64) (.pair (.int .u64) .unit))
abbrev zlM : Ty := (.pair (.int .u64) (.pair (.int .u64) .unit))
abbrev zvs : Type := (Int × (Int × Unit)) → Option (Int × (Int × Unit))
abbrev zjS (g : Fnc zlL zlM) : Fun := ⟨297, zlL, zlM, 0, g⟩
def ext : List (Nat × Bool) := [(124, false), (199, true)]
def E0 : Env := ⟨types, [], glob, 0, false, ext, []⟩
theorem mixed : Tryz.prog.follows .mixedOrders = true := by kernel_rfl
theorem mkS {l : List Fun} {d : Bool} {F : Fun} {f : Go.Func} {K : Nat} (hl : Sds Tryz.prog E0 l) (hf : Tryz.prog.funcs[F.id]? = some f) (ho : zMZ f = true) (h : evF (En E0 d l) K f F.md F.a F.r = F.spec) : Sd Tryz.prog E0 F := Sd.mk mixed hl hf ho h
theorem zXQ {l : List Fun} {d : Bool} {js : List Nat} {F : Fun} {f : Go.Func} {K : Nat} (hl : Sds Tryz.prog E0 l) (hf : Tryz.prog.funcs[F.id]? = some f) (ho : zMZ f = true) (h : evF (Ej E0 d js l) K f F.md F.a F.r = F.spec) : Sd Tryz.prog E0 F := Sd.mkJ mixed hl hf ho h
end Go.Proofs.YtaokpakfhdeiiaaGreatDoor
end
section
namespace Go.Proofs.YtaokpakfhdeiiaaGreatDoor
open Go.Ev Go.RowKit Go.Shelf Go.Proofs
set_option linter.unusedVariables false
set_option linter.unusedSimpArgs false
attribute [local go_sem] Oper.semAt_some
def zat (c : Nat) : List Nat := (List.range 64).filter c.testBit
theorem zGD (p q : Nat → Bool) (k : Nat) (hp : ∀ i, i < k → p i = false ∧ q i = false) (hk : p k = true ∧ q k = false) (hq : ∀ i, k < i → p i = q i) : ∀ n, (List.range n).filter p = (if k < n then [k] else []) ++ (List.range n).filter q
  | 0 => rfl
  | n + 1 => by
    rw [List.range_succ, List.filter_append, List.filter_append, zGD p q k hp hk hq n]
    by_cases h1 : k < n
    · rw [if_pos h1, if_pos (by omega), List.append_assoc]
      have := hq n h1
      simp [List.filter_cons, this]
    · by_cases h2 : k = n
      · subst h2
        rw [if_neg h1, if_pos (by omega)]
        have e : (List.range k).filter q = [] := by
          rw [List.filter_eq_nil_iff]
          intro i hi
          rw [(hp i (by simpa using hi)).2]; simp
        simp [hk.1, hk.2, e]
      · rw [if_neg h1, if_neg (by omega)]
        have := hp n (by omega)
        simp [this.1, this.2]
theorem zxK {k m i : Nat} : (2 ^ k * (2 * m + 1)).testBit i = (decide (k ≤ i) && (decide (i = k) || (2 ^ k * (2 * m)).testBit i)) ∧ ((2 ^ k * (2 * m)).testBit i = true → k < i) := by
  rw [Nat.mul_comm (2 ^ k), Nat.mul_comm (2 ^ k), Nat.testBit_mul_two_pow, Nat.testBit_mul_two_pow]
  by_cases h : k ≤ i
  · by_cases e : i = k
    · subst e
      simp [Nat.testBit_zero]
    · obtain ⟨j, rfl⟩ : ∃ j, i = k + (j + 1) := ⟨i - k - 1, by omega⟩
      rw [show k + (j + 1) - k = j + 1 by omega, Nat.testBit_succ, Nat.testBit_succ, show (2 * m + 1) / 2 = m by omega, show 2 * m / 2 = m by omega]
      simp
  · simp [h]
theorem zWi {k m : Nat} : (2 ^ k * (2 * m + 1)) &&& (2 ^ k * (2 * m + 1) - 1) = 2 ^ k * (2 * m) := by
  have e : 2 ^ k * (2 * m + 1) - 1 = 2 ^ k * (2 * m) + (2 ^ k - 1) := by
    have := Nat.two_pow_pos k
    rw [Nat.mul_add, Nat.mul_one]; omega
  apply Nat.eq_of_testBit_eq
  intro i
  rw [Nat.testBit_and, e, Nat.testBit_two_pow_mul_add _ (by have := Nat.two_pow_pos k; omega)]
  have := @zxK k m i
  rw [this.1]
  by_cases h : i < k
  · have h2 : (2 ^ k * (2 * m)).testBit i = false := by
      cases hb : (2 ^ k * (2 * m)).testBit i with
      | false => rfl
      | true => have := this.2 hb; omega
    simp [h2, h]
    omega
  · have h3 : (2 ^ k * (2 * m)).testBit i = (2 * m).testBit (i - k) := by
      rw [Nat.mul_comm, Nat.testBit_mul_two_pow]; simp; omega
    rw [if_neg h, h3]
    by_cases e : i = k
    · subst e; simp [Nat.testBit_zero]
    · simp [e]; omega
theorem zVs {c : Nat} (h0 : c ≠ 0) (h : c < 18446744073709551616) : zat c = Lib.ctz 64 c :: zat (c &&& (c - 1)) := by
  obtain ⟨m, hm, hk⟩ := Lib.ctzFrom_spec 64 c (by omega) h
  have e : Lib.ctz 64 c = Lib.ctzFrom 64 c := by simp [Lib.ctz, h0]
  rw [e]
  generalize Lib.ctzFrom 64 c = k at hm hk
  subst hm
  rw [zWi]
  unfold zat
  have hlow : ∀ i, i ≤ k → (2 ^ k * (2 * m)).testBit i = false := by
    intro i hi
    cases hb : (2 ^ k * (2 * m)).testBit i with
    | false => rfl
    | true => have := zxK.2 hb; omega
  rw [zGD (2 ^ k * (2 * m + 1)).testBit (2 ^ k * (2 * m)).testBit k (fun i hi => ⟨by rw [zxK.1]; simp; omega, hlow i (by omega)⟩) ⟨by rw [zxK.1]; simp, hlow k (Nat.le_refl _)⟩ (fun i hi => by rw [zxK.1]; simp [show k ≤ i by omega, show i ≠ k by omega]) 64, if_pos hk]
  rfl
theorem zVt : zat 0 = [] := by
  unfold zat
  rw [List.filter_eq_nil_iff]
  intro i _
  simp
end Go.Proofs.YtaokpakfhdeiiaaGreatDoor
end
