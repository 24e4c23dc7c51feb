import Derived.Test.YtaokpakfhdeiiaaGreatDoorNeb
import Derived.Orders
import Derived.Scope
import Derived.Carry
import Derived.OpenShut
import Derived.Test.YtaokpakfhdeiiaaGreatDoorProg
import Derived.RangeFuncBox
import Derived.RangeFuncLeaves
import Derived.Shelf.Abstract
import Derived.WalkKit
import Derived.OwnWalkIn
import Derived.TacticsInMore
import Derived.LoopNIn
import Derived.LoopIn
import Derived.Maps.AppendAt
import Derived.Laws.Bits64b
import Derived.Lib.TrailingZeros
section
namespace Go.Ev
open Go.RowKit
set_option linter.unusedSimpArgs false
set_option linter.unusedVariables false
section
variable {P : Program} {nt : Nat} {F0 F F' : FH} {w0 w w' : World} {st : St} {m m' : MM} {a : Act} {fr fr' : List (Nat × AV)} {H h' : List Obj}
theorem Rel.start (h : Rel P nt F0 w0 st m F a w) (hf : ∀ t v, look fr' t = some v → v.pure = true ∧ zf P st.h m F v (a.tmps.getD t undef)) : Rel P nt F w ⟨fr', []⟩ .emp F a w :=
  ⟨h.nt, fun t v ht => (hf t v ht).2.pure (hf t v ht).1, fun i o ho => (by simp [atN] at ho), fun _ _ _ _ _ h => (nomatch h), fun _ _ _ h => (nomatch h), fun _ _ _ _ _ h => (nomatch h), fun _ _ _ _ _ _ _ _ _ h => (nomatch h), h.fok, ⟨.refl F, fun _ _ => rfl⟩, ⟨rfl, rfl, rfl, Nat.le_refl _, fun _ _ => rfl⟩, h.dfr⟩
def MM.cat (m : MM) (n : Nat) (m' : MM) : MM := ⟨fun i => if i < n then m i else m' (i - n), fun i => if i < n then m.d i else m'.d (i - n)⟩
theorem MM.cat_f (m : MM) {n i : Nat} (m' : MM) (h : i < n) : (m.cat n m') i = m i := by show (if i < n then m i else m' (i - n)) = m i; rw [if_pos h]
theorem MM.cat_d (m : MM) {n i : Nat} (m' : MM) (h : i < n) : (m.cat n m').d i = m.d i := by show (if i < n then m.d i else m'.d (i - n)) = m.d i; rw [if_pos h]
theorem MM.cat_f2 (m : MM) (n i : Nat) (m' : MM) : (m.cat n m') (n + i) = m' i := by show (if n + i < n then m (n + i) else m' (n + i - n)) = m' i; rw [if_neg (by omega), Nat.add_sub_cancel_left]
theorem MM.cat_d2 (m : MM) (n i : Nat) (m' : MM) : (m.cat n m').d (n + i) = m'.d i := by show (if n + i < n then m.d (n + i) else m'.d (n + i - n)) = m'.d i; rw [if_neg (by omega), Nat.add_sub_cancel_left]
theorem zfP {n j : Nat} (h : ¬ j < n) : ∃ i, j = n + i := ⟨j - n, by omega⟩
theorem zMC {H h' : List Obj} {i : Nat} {o : Obj} (ho : atN h' i = some o) : atN (H ++ h'.map (Obj.sh H.length)) (H.length + i) = some (o.rn (H.length + ·)) := by
  rw [ql, List.getElem?_append_right (by omega), Nat.add_sub_cancel_left, List.getElem?_map, ← ql, ho, Option.map_some, Obj.sh_rn]
theorem Rel.cat (h : Rel P nt F0 w0 ⟨fr, H⟩ m F a w) (h2 : Rel P nt F w ⟨fr', h'⟩ m' F' a w') (hle : F.le F') : Rel P nt F0 w0 ⟨fr, H ++ h'.map (Obj.sh H.length)⟩ (m.cat H.length m') F' a w' := by
  have h1 := h.step (F' := F') h2.bel h2.gro h2.fok
  have hm : ∀ j u, atN H j = some u → Same (H ++ h'.map (Obj.sh H.length)) m (m.cat H.length m') j u := fun j u hu => ⟨MM.cat_f m m' (va hu), fun _ _ _ _ => by rw [MM.cat_d m m' (va hu)]⟩
  have hh : HLe H (H ++ h'.map (Obj.sh H.length)) := HLe.append _ _
  have hR : ∀ i o, atN h' i = some o → atN (H ++ h'.map (Obj.sh H.length)) (H.length + i) = some (o.rn (H.length + ·)) ∧ (m.cat H.length m') (H.length + i) = m' i ∧ (m.cat H.length m').d (H.length + i) = m'.d i := fun i o ho => ⟨zMC ho, MM.cat_f2 _ _ _ _, MM.cat_d2 _ _ _ _⟩
  have hlast : ∀ i b n, m' i = some (b, n) → w.heap.size ≤ b := fun i b n hi => (h2.rng _ _ _ hi).2.1
  have hlastd : ∀ i j p b n, m'.d i j p = some (b, n) → w.heap.size ≤ b := fun i j p b n hi => (h2.dok _ _ _ _ _ hi).2.1
  have hfst : ∀ i b n, m i = some (b, n) → b < w.heap.size := fun i b n hi => (h.rng _ _ _ hi).2.2
  have hfstd : ∀ i j p b n, m.d i j p = some (b, n) → b < w.heap.size := fun i j p b n hi => (h.dok _ _ _ _ _ hi).2.2.1
  refine ⟨h.nt, fun t v ht => (h1.fr t v ht).mono hh hm (.refl F'), fun j u hu => ?_, fun i j b n n' hi hj => ?_, fun j b n hj => ?_, fun i j p b n hp => ?_, fun i1 j1 p1 b n i2 j2 p2 n' q1 q2 => ?_, h2.fok, h1.gro, h1.bel, h.dfr⟩
  · by_cases hj : j < H.length
    · have hu' : atN H j = some u := by rw [zao hj] at hu; exact hu
      exact (h1.obs j u hu').mono hh hm (.refl F') hu' hu (fun _ _ _ => rfl) (fun _ _ _ hn => hn) (fun _ _ _ _ _ _ => ⟨rfl, fun hn => hn⟩)
    · obtain ⟨i, rfl⟩ := zfP hj
      rw [ql, List.getElem?_append_right (by omega), Nat.add_sub_cancel_left, List.getElem?_map, ← ql] at hu
      obtain ⟨o, ho, rfl⟩ := Option.map_eq_some_iff.1 hu
      rw [Obj.sh_rn]
      exact (h2.obs i o ho).rn (fun _ _ _ i _ o' ho' => hR i o' ho') (hR i o ho).2.1 (hR i o ho).2.2
  · by_cases e1 : i < H.length <;> by_cases e2 : j < H.length
    · rw [MM.cat_f _ _ e1] at hi; rw [MM.cat_f _ _ e2] at hj; exact h.inj _ _ _ _ _ hi hj
    · obtain ⟨j, rfl⟩ := zfP e2
      rw [MM.cat_f _ _ e1] at hi; rw [MM.cat_f2] at hj
      have := hfst _ _ _ hi; have := hlast _ _ _ hj; omega
    · obtain ⟨i, rfl⟩ := zfP e1
      rw [MM.cat_f2] at hi; rw [MM.cat_f _ _ e2] at hj
      have := hfst _ _ _ hj; have := hlast _ _ _ hi; omega
    · obtain ⟨i, rfl⟩ := zfP e1
      obtain ⟨j, rfl⟩ := zfP e2
      rw [MM.cat_f2] at hi hj
      have := h2.inj _ _ _ _ _ hi hj; omega
  · have hs := h.bel.size
    simp only [List.length_append, List.length_map]
    by_cases e : j < H.length
    · rw [MM.cat_f _ _ e] at hj
      have := h1.rng _ _ _ hj
      simp only at this
      omega
    · obtain ⟨j, rfl⟩ := zfP e
      rw [MM.cat_f2] at hj
      have := h2.rng _ _ _ hj
      simp only at this
      omega
  · have hs := h.bel.size
    by_cases e : i < H.length
    · rw [MM.cat_d _ _ e] at hp
      obtain ⟨⟨o, g1, g2⟩, g3, g4, g5, g6⟩ := h1.dok _ _ _ _ _ hp
      refine ⟨⟨o, by rw [zao e]; exact g1, g2⟩, g3, g4, g5, fun i' n' => ?_⟩
      by_cases e' : i' < H.length
      · rw [MM.cat_f _ _ e']; exact g6 _ _
      · obtain ⟨i', rfl⟩ := zfP e'
        rw [MM.cat_f2]
        intro hi'
        have := hfstd _ _ _ _ _ hp; have := hlast _ _ _ hi'; omega
    · obtain ⟨i, rfl⟩ := zfP e
      rw [MM.cat_d2] at hp
      obtain ⟨⟨o, g1, g2⟩, g3, g4, g5, g6⟩ := h2.dok _ _ _ _ _ hp
      refine ⟨⟨_, zMC g1, by rw [zFI]; exact g2⟩, by omega, g4, g5, fun i' n' => ?_⟩
      by_cases e' : i' < H.length
      · rw [MM.cat_f _ _ e']
        intro hi'
        have := hfst _ _ _ hi'; omega
      · obtain ⟨i', rfl⟩ := zfP e'
        rw [MM.cat_f2]; exact g6 _ _
  · by_cases e1 : i1 < H.length <;> by_cases e2 : i2 < H.length
    · rw [MM.cat_d _ _ e1] at q1; rw [MM.cat_d _ _ e2] at q2; exact h.din _ _ _ _ _ _ _ _ _ q1 q2
    · obtain ⟨i2, rfl⟩ := zfP e2
      rw [MM.cat_d _ _ e1] at q1; rw [MM.cat_d2] at q2
      have := hfstd _ _ _ _ _ q1; have := hlastd _ _ _ _ _ q2; omega
    · obtain ⟨i1, rfl⟩ := zfP e1
      rw [MM.cat_d2] at q1; rw [MM.cat_d _ _ e2] at q2
      have := hfstd _ _ _ _ _ q2; have := hlastd _ _ _ _ _ q1; omega
    · obtain ⟨i1, rfl⟩ := zfP e1
      obtain ⟨i2, rfl⟩ := zfP e2
      rw [MM.cat_d2] at q1 q2
      have := h2.din _ _ _ _ _ _ _ _ _ q1 q2
      exact ⟨by omega, this.2⟩
theorem Rel.holes (h : Rel P nt F0 w0 ⟨fr, H⟩ m F a w) (n : Nat) : Rel P nt F0 w0 ⟨fr, H ++ List.replicate n .hole⟩ m F a w := by
  have hk : zP7 H (H ++ List.replicate n .hole) m m := fun i o ho _ => ⟨by rw [zao (va ho)]; exact ho, rfl, rfl⟩
  refine ⟨h.nt, fun t v ht => (h.fr t v ht).keep hk, fun j u hu => ?_, h.inj, fun i b n' hi => ?_, fun i j p b n' hp => ?_, h.din, h.fok, h.gro, h.bel, h.dfr⟩
  · by_cases hj : j < H.length
    · have hu' : atN H j = some u := by rw [zao hj] at hu; exact hu
      exact (h.obs j u hu').keep hk rfl rfl
    · rw [ql, List.getElem?_append_right (by omega)] at hu
      have hm := List.mem_of_getElem? hu
      rw [List.mem_replicate] at hm
      obtain ⟨_, rfl⟩ := hm
      show m j = none
      cases hmj : m j with
      | none => rfl
      | some bn =>
        obtain ⟨b, n'⟩ := bn
        have := (h.rng _ _ _ hmj).1
        exact absurd this hj
  · have := h.rng _ _ _ hi
    simp only [List.length_append] at this ⊢
    omega
  · obtain ⟨⟨o, g1, g2⟩, g3⟩ := h.dok _ _ _ _ _ hp
    exact ⟨⟨o, by rw [zao (va g1)]; exact g1, g2⟩, g3⟩
def MM.fill (m : MM) (s n : Nat) (m' : MM) : MM := ⟨fun i => if s ≤ i ∧ i < s + n then m' (i - s) else m i, fun i => if s ≤ i ∧ i < s + n then m'.d (i - s) else m.d i⟩
theorem MM.fill_f (m : MM) {s n i : Nat} (m' : MM) (h : ¬(s ≤ i ∧ i < s + n)) : (m.fill s n m') i = m i := by show (if s ≤ i ∧ i < s + n then m' (i - s) else m i) = m i; rw [if_neg h]
theorem MM.fill_d (m : MM) {s n i : Nat} (m' : MM) (h : ¬(s ≤ i ∧ i < s + n)) : (m.fill s n m').d i = m.d i := by show (if s ≤ i ∧ i < s + n then m'.d (i - s) else m.d i) = m.d i; rw [if_neg h]
theorem MM.fill_f2 (m : MM) {s n i : Nat} (m' : MM) (h : i < n) : (m.fill s n m') (s + i) = m' i := by show (if s ≤ s + i ∧ s + i < s + n then m' (s + i - s) else m (s + i)) = m' i; rw [if_pos (by omega), Nat.add_sub_cancel_left]
theorem MM.fill_d2 (m : MM) {s n i : Nat} (m' : MM) (h : i < n) : (m.fill s n m').d (s + i) = m'.d i := by show (if s ≤ s + i ∧ s + i < s + n then m'.d (s + i - s) else m.d (s + i)) = m'.d i; rw [if_pos (by omega), Nat.add_sub_cancel_left]
theorem Rel.fill (h : Rel P nt F0 w0 ⟨fr, H⟩ m F a w) (h2 : Rel P nt F w ⟨fr', h'⟩ m' F' a w') {s : Nat} {H2 : List Obj} (hlen : H2.length = H.length)
    (hs : ∀ i o, atN h' i = some o → atN H (s + i) = some .hole ∧ atN H2 (s + i) = some (o.rn (s + ·))) (hn : ∀ i, ¬(s ≤ i ∧ i < s + h'.length) → atN H2 i = atN H i) :
    Rel P nt F0 w0 ⟨fr, H2⟩ (m.fill s h'.length m') F' a w' := by
  have h1 := h.step (F' := F') h2.bel h2.gro h2.fok
  have hin : ∀ i, i < h'.length → atN H (s + i) = some .hole := fun i hi => (hs i h'[i] (by rw [ql, List.getElem?_eq_getElem hi])).1
  have hmh : ∀ i, i < h'.length → m (s + i) = none := fun i hi => h.obs _ _ (hin i hi)
  have seg : ∀ {i : Nat}, (s ≤ i ∧ i < s + h'.length) → ∃ j, j < h'.length ∧ i = s + j := fun {i} hi => ⟨i - s, by omega, by omega⟩
  have hk : zP7 H H2 m (m.fill s h'.length m') := fun i o ho hne => by
    by_cases e : s ≤ i ∧ i < s + h'.length
    · obtain ⟨j, hj, rfl⟩ := seg e
      rw [hin j hj] at ho; cases ho; exact absurd rfl hne
    · exact ⟨by rw [hn i e]; exact ho, MM.fill_f m m' e, MM.fill_d m m' e⟩
  have hlast : ∀ i b n, m' i = some (b, n) → w.heap.size ≤ b := fun i b n hi => (h2.rng _ _ _ hi).2.1
  have hlastd : ∀ i j p b n, m'.d i j p = some (b, n) → w.heap.size ≤ b := fun i j p b n hi => (h2.dok _ _ _ _ _ hi).2.1
  have hfst : ∀ i b n, m i = some (b, n) → b < w.heap.size := fun i b n hi => (h.rng _ _ _ hi).2.2
  have hfstd : ∀ i j p b n, m.d i j p = some (b, n) → b < w.heap.size := fun i j p b n hi => (h.dok _ _ _ _ _ hi).2.2.1
  have hnd : ∀ {i j p b n}, i < h'.length → m.d (s + i) j p ≠ some (b, n) := fun hi hp => by
    obtain ⟨⟨o, g1, g2⟩, _⟩ := h.dok _ _ _ _ _ hp
    simp only at g1
    rw [hin _ hi] at g1; cases g1; cases g2
  have hR : ∀ i o, atN h' i = some o → atN H2 (s + i) = some (o.rn (s + ·)) ∧ (m.fill s h'.length m') (s + i) = m' i ∧ (m.fill s h'.length m').d (s + i) = m'.d i := fun i o ho => ⟨(hs i o ho).2, MM.fill_f2 _ _ (va ho), MM.fill_d2 _ _ (va ho)⟩
  refine ⟨h.nt, fun t v ht => (h1.fr t v ht).keep hk, fun j u hu => ?_, fun i j b n n' hi hj => ?_, fun j b n hj => ?_, fun i j p b n hp => ?_, fun i1 j1 p1 b n i2 j2 p2 n' q1 q2 => ?_, h2.fok, h1.gro, h1.bel, h.dfr⟩
  · by_cases e : s ≤ j ∧ j < s + h'.length
    · obtain ⟨i, hi, rfl⟩ := seg e
      obtain ⟨o, ho⟩ : ∃ o, atN h' i = some o := ⟨h'[i], by rw [ql, List.getElem?_eq_getElem hi]⟩
      have := (hR i o ho).1
      simp only at hu
      rw [this] at hu
      cases hu
      exact (h2.obs i o ho).rn (fun _ _ _ i _ o' ho' => hR i o' ho') (hR i o ho).2.1 (hR i o ho).2.2
    · simp only at hu
      rw [hn j e] at hu
      exact (h1.obs j u hu).keep hk (MM.fill_f m m' e) (MM.fill_d m m' e)
  · by_cases e1 : s ≤ i ∧ i < s + h'.length <;> by_cases e2 : s ≤ j ∧ j < s + h'.length
    · obtain ⟨i, l1, rfl⟩ := seg e1
      obtain ⟨j, l2, rfl⟩ := seg e2
      rw [MM.fill_f2 _ _ l1] at hi; rw [MM.fill_f2 _ _ l2] at hj
      have := h2.inj _ _ _ _ _ hi hj; omega
    · obtain ⟨i, l1, rfl⟩ := seg e1
      rw [MM.fill_f2 _ _ l1] at hi; rw [MM.fill_f _ _ e2] at hj
      have := hfst _ _ _ hj; have := hlast _ _ _ hi; omega
    · obtain ⟨j, l2, rfl⟩ := seg e2
      rw [MM.fill_f _ _ e1] at hi; rw [MM.fill_f2 _ _ l2] at hj
      have := hfst _ _ _ hi; have := hlast _ _ _ hj; omega
    · rw [MM.fill_f _ _ e1] at hi; rw [MM.fill_f _ _ e2] at hj; exact h.inj _ _ _ _ _ hi hj
  · have hsz := h.bel.size
    by_cases e : s ≤ j ∧ j < s + h'.length
    · obtain ⟨i, l1, rfl⟩ := seg e
      rw [MM.fill_f2 _ _ l1] at hj
      have := h2.rng _ _ _ hj
      have := va (hin i l1)
      simp only at *
      omega
    · rw [MM.fill_f _ _ e] at hj
      have := h1.rng _ _ _ hj
      simp only at *
      omega
  · have hsz := h.bel.size
    by_cases e : s ≤ i ∧ i < s + h'.length
    · obtain ⟨i, l1, rfl⟩ := seg e
      rw [MM.fill_d2 _ _ l1] at hp
      obtain ⟨⟨o, g1, g2⟩, g3, g4, g5, g6⟩ := h2.dok _ _ _ _ _ hp
      refine ⟨⟨_, (hR i o g1).1, by rw [zFI]; exact g2⟩, by omega, g4, g5, fun i' n' => ?_⟩
      by_cases e' : s ≤ i' ∧ i' < s + h'.length
      · obtain ⟨i', l2, rfl⟩ := seg e'
        rw [MM.fill_f2 _ _ l2]; exact g6 _ _
      · rw [MM.fill_f _ _ e']
        intro hi'
        have := hfst _ _ _ hi'; omega
    · rw [MM.fill_d _ _ e] at hp
      obtain ⟨⟨o, g1, g2⟩, g3, g4, g5, g6⟩ := h1.dok _ _ _ _ _ hp
      refine ⟨⟨o, by simp only at g1 ⊢; rw [hn i e]; exact g1, g2⟩, g3, g4, g5, fun i' n' => ?_⟩
      by_cases e' : s ≤ i' ∧ i' < s + h'.length
      · obtain ⟨i', l2, rfl⟩ := seg e'
        rw [MM.fill_f2 _ _ l2]
        intro hi'
        have := hfstd _ _ _ _ _ hp; have := hlast _ _ _ hi'; omega
      · rw [MM.fill_f _ _ e']; exact g6 _ _
  · by_cases e1 : s ≤ i1 ∧ i1 < s + h'.length <;> by_cases e2 : s ≤ i2 ∧ i2 < s + h'.length
    · obtain ⟨i1, l1, rfl⟩ := seg e1
      obtain ⟨i2, l2, rfl⟩ := seg e2
      rw [MM.fill_d2 _ _ l1] at q1; rw [MM.fill_d2 _ _ l2] at q2
      have := h2.din _ _ _ _ _ _ _ _ _ q1 q2
      exact ⟨by omega, this.2⟩
    · obtain ⟨i1, l1, rfl⟩ := seg e1
      rw [MM.fill_d2 _ _ l1] at q1; rw [MM.fill_d _ _ e2] at q2
      have := hfstd _ _ _ _ _ q2; have := hlastd _ _ _ _ _ q1; omega
    · obtain ⟨i2, l2, rfl⟩ := seg e2
      rw [MM.fill_d _ _ e1] at q1; rw [MM.fill_d2 _ _ l2] at q2
      have := hfstd _ _ _ _ _ q1; have := hlastd _ _ _ _ _ q2; omega
    · rw [MM.fill_d _ _ e1] at q1; rw [MM.fill_d _ _ e2] at q2; exact h.din _ _ _ _ _ _ _ _ _ q1 q2
theorem zf.fill {v : AV} {u : Value} {s : Nat} {H2 : List Obj} (hs : ∀ i o, atN h' i = some o → atN H2 (s + i) = some (o.rn (s + ·))) (hv : zf P h' m' F' v u) : zf P H2 (m.fill s h'.length m') F' (v.shT s) u := by
  have hR : ∀ i o, atN h' i = some o → atN H2 (s + i) = some (o.rn (s + ·)) ∧ (m.fill s h'.length m') (s + i) = m' i ∧ (m.fill s h'.length m').d (s + i) = m'.d i := fun i o ho => ⟨hs i o ho, MM.fill_f2 _ _ (va ho), MM.fill_d2 _ _ (va ho)⟩
  cases v with
  | tup vs =>
    obtain ⟨arr, e, h1, h3⟩ := hv
    refine ⟨arr, e, by simpa using h1, fun i x hx => ?_⟩
    rw [List.getElem?_map] at hx
    obtain ⟨y, hy, rfl⟩ := Option.map_eq_some_iff.1 hx
    obtain ⟨z, hz, hyz⟩ := h3 i y hy
    refine ⟨z, hz, ?_⟩
    rw [AV.sh_rn]
    exact hyz.rn fun i _ o ho => hR i o ho
  | _ =>
    rw [zf.eq1 (by intro vs e; cases e)] at hv
    refine zf.of1 ?_
    simp only [AV.shT]
    rw [AV.sh_rn]
    exact hv.rn fun i _ o ho => hR i o ho
theorem zf.cat {v : AV} {u : Value} (hv : zf P h' m' F' v u) : zf P (H ++ h'.map (Obj.sh H.length)) (m.cat H.length m') F' (v.shT H.length) u := by
  have hR : ∀ i o, atN h' i = some o → atN (H ++ h'.map (Obj.sh H.length)) (H.length + i) = some (o.rn (H.length + ·)) ∧ (m.cat H.length m') (H.length + i) = m' i ∧ (m.cat H.length m').d (H.length + i) = m'.d i := fun i o ho => ⟨zMC ho, MM.cat_f2 _ _ _ _, MM.cat_d2 _ _ _ _⟩
  cases v with
  | tup vs =>
    obtain ⟨arr, e, h1, h3⟩ := hv
    refine ⟨arr, e, by simpa using h1, fun i x hx => ?_⟩
    rw [List.getElem?_map] at hx
    obtain ⟨y, hy, rfl⟩ := Option.map_eq_some_iff.1 hx
    obtain ⟨z, hz, hyz⟩ := h3 i y hy
    refine ⟨z, hz, ?_⟩
    rw [AV.sh_rn]
    exact hyz.rn fun i _ o ho => hR i o ho
  | _ =>
    rw [zf.eq1 (by intro vs e; cases e)] at hv
    refine zf.of1 ?_
    simp only [AV.shT]
    rw [AV.sh_rn]
    exact hv.rn fun i _ o ho => hR i o ho
end
end Go.Ev
end
section
namespace Go.Ev
open Go.RowKit
set_option linter.unusedSimpArgs false
set_option linter.unusedVariables false
section
variable {P : Program} {nt : Nat} {F0 F G : FH} {w0 w : World} {st st' : St} {m : MM} {a : Act} {E : Env} {v : AV} {u : Value}
theorem zKA {R : Type} {q : Bool} {args : Array Operand} {ts : Array TypeId} {k : AV → St → Option R} : zlT q E ⟨.builtin .len, args, ts⟩ st k = match args.toList, ts.toList with | [x], [t] => (match rd E st none x with | some v => zfC E t v st k | none => none) | _, _ => none := rfl
theorem zTA {q : Bool} {o : Oper} (hE : zQ P G E) (hG : G.le F0) (h : Rel P nt F0 w0 st m F a w) (hs : zhW o.op = true) (he : zaW q E o.op o.type st pk = some (v, st')) :
    st' = st ∧ ∃ u, (execOp a.eval o).run P w = .ok (.value u) w ∧ zf P st.h m F v u := by
  obtain ⟨dst, op, ty, pos, after, guard⟩ := o
  simp only at he hs
  cases op <;> (try (simp only [zhW] at hs; cases hs; done)) <;> simp only [zaW] at he
  case load t x =>
    split at he
    · rename_i av hav
      obtain ⟨u, h1, rfl, h2⟩ := zC4 hE h (zv hE hG h hav) he
      exact ⟨rfl, u, by simp only [execOp]; exact zU h1, h2⟩
    · cases he
  case nilCheck x =>
    split at he
    · rename_i τ y hx
      obtain ⟨y, rfl, he⟩ := Option.bind_eq_some_iff.1 he
      cases he
      have hr := zv hE hG h hx
      obtain ⟨d, cc, hp, _⟩ := hr.ptr
      exact ⟨rfl, a.eval x, by simp only [execOp, hp]; rfl, hr⟩
    · rename_i τ σ y hx
      obtain ⟨y, rfl, he⟩ := Option.bind_eq_some_iff.1 he
      cases he
      have hr := zv hE hG h hx
      obtain ⟨f, first, caps, hp, _⟩ := zf.one rfl hr
      simp only [List.cons.injEq, and_true] at hp
      exact ⟨rfl, a.eval x, by simp only [execOp, hp]; rfl, hr⟩
    · rename_i id p hx
      obtain ⟨hlive, he⟩ := zd he
      cases he
      have hr := zv hE hG h hx
      obtain ⟨b, n, o, off, _, _, hp, _⟩ := (show zZ P st.h m F (.bp id p) _ from hr).resolve_left (zrc hlive)
      exact ⟨rfl, a.eval x, by simp only [execOp, hp]; rfl, hr⟩
    · rename_i id i p hx
      obtain ⟨hlive, he⟩ := zd he
      cases he
      have hr := zv hE hG h hx
      obtain ⟨b, n, o, τ, len, off, σ, _, _, _, _, _, hp⟩ := (show zZ P st.h m F (.rp id i p) _ from hr).resolve_left (zrc hlive)
      exact ⟨rfl, a.eval x, by simp only [execOp, hp]; rfl, hr⟩
    · rename_i id i p j q hx
      split at he
      · rename_i τ xs k ho
        cases he
        have hr := zv hE hG h hx
        obtain ⟨o, ho', _, hr'⟩ := (show zZ P st.h m F (.dp id i p j q) _ from hr)
        rw [ho] at ho'
        cases ho'
        obtain ⟨_, σ, len, off, ρ, b, n, _, _, _, _, hp⟩ := hr' _ _ _ rfl
        exact ⟨rfl, a.eval x, by simp only [execOp, hp]; rfl, hr⟩
      · cases he
    · cases he
  case binOp op t x y ty' =>
    split at he
    · rename_i av au hav hau
      obtain ⟨u, h1, rfl, h2⟩ := zKk (X := x) (Y := y) (w := w) hE zAs (zv hE hG h hav) (zv hE hG h hau) he
      exact ⟨rfl, u, by simp only [execOp]; exact zU h1, h2⟩
    · cases he
  case fieldAddr t x f =>
    split at he
    · rename_i av hav
      obtain ⟨u, h1, rfl, h2⟩ := zzj hE h (zv hE hG h hav) he
      exact ⟨rfl, u, by simp only [execOp]; exact zU h1, h2⟩
    · cases he
  case indexAddr t x i =>
    split at he
    · rename_i av au hav hau
      obtain ⟨u, h1, rfl, h2⟩ := zzk hE h (zv hE hG h hav) (zv hE hG h hau) he
      exact ⟨rfl, u, by simp only [execOp]; exact zU h1, h2⟩
    · cases he
  case lookup t x i ok =>
    split at he
    · rename_i av au hav hau
      obtain ⟨u, h1, rfl, h2⟩ := zFG hE h (zv hE hG h hav) (zv hE hG h hau) he
      exact ⟨rfl, u, by simp only [execOp]; exact zU h1, h2⟩
    · cases he
  case call c =>
    obtain ⟨callee, args, argTypes⟩ := c
    simp only [zhW] at hs
    split at hs
    · rw [zKA] at he
      split at he
      · rename_i x t hx ht
        split at he
        · rename_i av hav
          obtain ⟨u, h1, rfl, h2⟩ := zN0 (ty := ty) hE h (zv hE hG h hav) ht he
          have hargs : args.map a.eval = #[a.eval x] := by apply Array.ext'; simp [hx]
          refine ⟨rfl, u, ?_, h2⟩
          simp only [execOp, resolve, Sem.run_bind, Sem.run_pure, Result.andThen_ok, invoke, builtin, hargs]
          simp [h1]
        · cases he
      · cases he
    · cases hs
theorem zvX {α : Type} {h k : List α} {i : Nat} {o : α} (ho : atN h i = some o) : atN (h ++ k) i = some o := by
  rw [ql] at ho ⊢
  rw [List.getElem?_append_left (List.getElem?_eq_some_iff.1 ho).1]
  exact ho
theorem zP8 {h k : List Obj} {i : Nat} (hk : ∀ o, atN h i = some o → atN k i = some o) (ho : live h i = true) : live k i = true := by
  unfold live at ho ⊢
  cases hi : atN h i with
  | none => rw [hi] at ho; cases ho
  | some o => rw [hi] at ho; rw [hk _ hi]; exact ho
def more (k : List Obj) (st : St) : St := ⟨st.fr, k⟩
def zrd (h k : List Obj) (v : AV) : Prop := ∀ i, v.has1 i = true → ∀ o, atN h i = some o → atN k i = some o
def Sup (h k : List Obj) (v : AV) : Prop := ∀ i, v.has i = true → ∀ o, atN h i = some o → atN k i = some o
theorem zrd.refl (h : List Obj) (v : AV) : zrd h h v := fun _ _ _ h => h
theorem Sup.refl (h : List Obj) (v : AV) : Sup h h v := fun _ _ _ h => h
variable {k : List Obj}
theorem zs0 {x : (τ : Ty) × τ.I × St} (hk : zrd st.h k v) (h : jW true st v = some x) : jW true (more k st) v = some ⟨x.1, x.2.1, more k x.2.2⟩ ∧ x.2.2 = st := by
  cases v with
  | dat τ y => simp only [jW, Option.some.injEq] at h ⊢; subst h; exact ⟨rfl, rfl⟩
  | clip τ y => simp only [jW, Option.some.injEq] at h ⊢; subst h; exact ⟨rfl, rfl⟩
  | ow id =>
    simp only [jW] at h ⊢
    split at h
    · rename_i τ xs ho
      cases h
      rw [show atN (more k st).h id = some (.row τ xs true) from hk _ (Nat.beq_refl _) _ ho]
      exact ⟨rfl, rfl⟩
    · cases h
    · cases h
    · cases h
  | bp id p =>
    cases p with
    | cons _ _ => cases h
    | nil =>
      simp only [jW] at h ⊢
      split at h
      · rename_i τ xs ho
        cases h
        rw [show atN (more k st).h id = some (.bx (.dat τ xs) true) from hk _ (Nat.beq_refl _) _ ho]
        exact ⟨rfl, rfl⟩
      · cases h
      · cases h
  | _ => cases h
theorem zIa {σ : Ty} {x : σ.I × St} (hk : zrd st.h k v) (h : zco true σ st v = some x) : zco true σ (more k st) v = some (x.1, more k x.2) ∧ x.2 = st := by
  unfold zco at h ⊢
  split at h
  · rename_i τ y st1 hz
    obtain ⟨h1, h2⟩ := zs0 (k := k) hk hz
    simp only at h1 h2
    subst h2
    rw [h1]
    split at h
    · rename_i z hc
      cases h
      simp only [hc, and_self]
    · cases h
  · cases h
theorem zP9 : ∀ {τ : Ty} {vs : List AV} {st : St} {x : τ.I × St}, (∀ v ∈ vs, zrd st.h k v) → vh true τ vs st = some x → vh true τ vs (more k st) = some (x.1, more k x.2) ∧ x.2 = st := by
  intro τ
  induction τ with
  | unit => intro vs st x _ h; cases vs <;> first | (cases h; exact ⟨rfl, rfl⟩) | cases h
  | pair a b _ ihb =>
    intro vs st x hk h
    cases vs with
    | nil => cases h
    | cons v vs =>
      simp only [vh] at h ⊢
      split at h
      · rename_i y st1 hy
        split at h
        · rename_i ys st2 hys
          cases h
          obtain ⟨h1, h2⟩ := zIa (k := k) (hk v (by simp)) hy
          simp only at h1 h2
          subst h2
          obtain ⟨h3, h4⟩ := ihb (fun v hv => hk v (by simp [hv])) hys
          simp only at h3 h4
          subst h4
          rw [h1]
          simp only [h3, and_self]
        · cases h
      · cases h
  | _ => intro vs st x _ h; cases vs <;> cases h
theorem zVR {x : (τ : Ty) × τ.I × St} (hk : Sup st.h k v) (h : frz true st v = some x) : frz true (more k st) v = some ⟨x.1, x.2.1, more k x.2.2⟩ ∧ x.2.2 = st := by
  cases v with
  | fld b vs =>
    simp only [frz] at h ⊢
    split at h
    · rename_i y st1 hy
      cases h
      obtain ⟨h1, h2⟩ := zP9 (k := k) (fun v hv i hi => hk i (by simp only [AV.has, List.any_eq_true]; exact ⟨v, hv, hi⟩)) hy
      simp only at h1 h2
      subst h2
      simp only [h1, and_self]
    · cases h
  | dat τ x => exact zs0 (v := .dat τ x) hk h
  | clip τ x => exact zs0 (v := .clip τ x) hk h
  | bp id p => exact zs0 (v := .bp id p) hk h
  | ow id => exact zs0 (v := .ow id) hk h
  | _ => cases h
theorem zXd {v' : AV} {s s' : St} (h : kAV v' s pk = some (v, st')) : kAV v' s' pk = some (v, s') := by
  obtain ⟨rfl, rfl⟩ := zaZ h
  unfold kAV at h ⊢
  split
  · rename_i b; cases b <;> rfl
  · rfl
theorem zUT {R : Type} {k : AV → St → Option R} {s s2 : St} {t : TypeId} {x : AV} (hat : ∀ i, x.has1 i = true → atN s.h i = atN s2.h i) : yR E t x s k = yR E t x s2 (fun v _ => k v s) := by
  unfold yR
  cases x with
  | bp id p =>
    have hh : atN s.h id = atN s2.h id := hat id (Nat.beq_refl _)
    first | (simp only [hh]; done) | (simp only [hh]; rfl)
  | rp id i' p =>
    have hh : atN s.h id = atN s2.h id := hat id (Nat.beq_refl _)
    first | (simp only [hh]; done) | (simp only [hh]; rfl)
  | dp id i' p j' q =>
    have hh : atN s.h id = atN s2.h id := hat id (Nat.beq_refl _)
    first | (simp only [hh]; done) | (simp only [hh]; rfl)
  | dat τ y => cases τ <;> rfl
  | _ => rfl
theorem zQa {t : TypeId} {x : AV} (he : yR E t x st pk = some (v, st')) {i0 : Nat} (hx : x.has1 i0 = true) : ∃ o, atN st.h i0 = some o := by
  cases ho : atN st.h i0 with
  | some o => exact ⟨o, rfl⟩
  | none =>
    exfalso
    unfold yR at he
    cases x with
    | bp id p =>
      obtain rfl : id = i0 := Nat.eq_of_beq_eq_true hx
      first | (cases he; done) | (simp only [ho] at he; cases he)
    | rp id i' p =>
      obtain rfl : id = i0 := Nat.eq_of_beq_eq_true hx
      first | (cases he; done) | (simp only [ho] at he; cases he)
    | dp id i' p j' q =>
      obtain rfl : id = i0 := Nat.eq_of_beq_eq_true hx
      first | (cases he; done) | (simp only [ho] at he; cases he)
    | ds id i' p =>
      obtain rfl : id = i0 := Nat.eq_of_beq_eq_true hx
      first | (cases he; done) | (simp only [ho] at he; cases he)
    | ow id =>
      obtain rfl : id = i0 := Nat.eq_of_beq_eq_true hx
      first | (cases he; done) | (simp only [ho] at he; cases he)
    | om id =>
      obtain rfl : id = i0 := Nat.eq_of_beq_eq_true hx
      first | (cases he; done) | (simp only [ho] at he; cases he)
    | _ => cases hx
theorem zR1 {t : TypeId} {x : AV} (hk : zrd st.h k x) (he : yR E t x st pk = some (v, st')) : yR E t x (more k st) pk = some (v, more k st) := by
  have hat : ∀ i, x.has1 i = true → atN (more k st).h i = atN st.h i := fun i hi => by
    obtain ⟨o, ho⟩ := zQa he hi
    rw [ho]; exact hk i hi o ho
  rw [zUT hat, zKd, he]
  rfl
theorem zMD {R : Type} {k : AV → St → Option R} {s s2 : St} {t : TypeId} {x i : AV} (hat : ∀ i, x.has1 i = true → atN s.h i = atN s2.h i) : jE E t x i s k = jE E t x i s2 (fun v _ => k v s) := by
  unfold jE
  cases x with
  | bp id p =>
    have hh : atN s.h id = atN s2.h id := hat id (Nat.beq_refl _)
    cases i with
    | dat τ n => cases τ <;> first | rfl | (simp only [hh]; done) | (simp only [hh]; rfl)
    | _ => rfl
  | rp id i' p =>
    have hh : atN s.h id = atN s2.h id := hat id (Nat.beq_refl _)
    cases i with
    | dat τ n => cases τ <;> first | rfl | (simp only [hh]; done) | (simp only [hh]; rfl)
    | _ => rfl
  | dp id i' p j' q =>
    have hh : atN s.h id = atN s2.h id := hat id (Nat.beq_refl _)
    cases i with
    | dat τ n => cases τ <;> first | rfl | (simp only [hh]; done) | (simp only [hh]; rfl)
    | _ => rfl
  | ds id i' p =>
    have hh : atN s.h id = atN s2.h id := hat id (Nat.beq_refl _)
    cases i with
    | dat τ n => cases τ <;> first | rfl | (simp only [hh]; done) | (simp only [hh]; rfl)
    | _ => rfl
  | ow id =>
    have hh : atN s.h id = atN s2.h id := hat id (Nat.beq_refl _)
    cases i with
    | dat τ n => cases τ <;> first | rfl | (simp only [hh]; done) | (simp only [hh]; rfl)
    | _ => rfl
  | dat τ y =>
    cases i with
    | dat τ' n => cases τ with
      | ptr a => cases a <;> cases τ' <;> rfl
      | _ => cases τ' <;> rfl
    | _ => cases τ with
      | ptr a => cases a <;> rfl
      | _ => rfl
  | clip τ y => cases i with
    | dat τ' n => cases τ' <;> rfl
    | _ => rfl
  | _ => rfl
theorem zHs {t : TypeId} {x i : AV} (he : jE E t x i st pk = some (v, st')) {i0 : Nat} (hx : x.has1 i0 = true) : ∃ o, atN st.h i0 = some o := by
  cases ho : atN st.h i0 with
  | some o => exact ⟨o, rfl⟩
  | none =>
    exfalso
    unfold jE at he
    cases x with
    | bp id p =>
      obtain rfl : id = i0 := Nat.eq_of_beq_eq_true hx
      cases i with
      | dat τ n => cases τ <;> first | (cases he; done) | (simp only [ho] at he; cases he)
      | _ => cases he
    | rp id i' p =>
      obtain rfl : id = i0 := Nat.eq_of_beq_eq_true hx
      cases i with
      | dat τ n => cases τ <;> first | (cases he; done) | (simp only [ho] at he; cases he)
      | _ => cases he
    | dp id i' p j' q =>
      obtain rfl : id = i0 := Nat.eq_of_beq_eq_true hx
      cases i with
      | dat τ n => cases τ <;> first | (cases he; done) | (simp only [ho] at he; cases he)
      | _ => cases he
    | ds id i' p =>
      obtain rfl : id = i0 := Nat.eq_of_beq_eq_true hx
      cases i with
      | dat τ n => cases τ <;> first | (cases he; done) | (simp only [ho] at he; cases he)
      | _ => cases he
    | ow id =>
      obtain rfl : id = i0 := Nat.eq_of_beq_eq_true hx
      cases i with
      | dat τ n => cases τ <;> first | (cases he; done) | (simp only [ho] at he; cases he)
      | _ => cases he
    | om id =>
      obtain rfl : id = i0 := Nat.eq_of_beq_eq_true hx
      cases i with
      | dat τ n => cases τ <;> first | (cases he; done) | (simp only [ho] at he; cases he)
      | _ => cases he
    | _ => cases hx
theorem zIE {t : TypeId} {x i : AV} (hk : zrd st.h k x) (he : jE E t x i st pk = some (v, st')) : jE E t x i (more k st) pk = some (v, more k st) := by
  have hat : ∀ i, x.has1 i = true → atN (more k st).h i = atN st.h i := fun i hi => by
    obtain ⟨o, ho⟩ := zHs he hi
    rw [ho]; exact hk i hi o ho
  rw [zMD hat, zzf, he]
  rfl
theorem zME {R : Type} {k : AV → St → Option R} {s s2 : St} {t : TypeId} {x : AV} {f : Nat} (hat : ∀ i, x.has1 i = true → atN s.h i = atN s2.h i) : jF E t x f s k = jF E t x f s2 (fun v _ => k v s) := by
  unfold jF
  cases x with
  | bp id p =>
    have hh : atN s.h id = atN s2.h id := hat id (Nat.beq_refl _)
    first | (simp only [hh]; done) | (simp only [hh]; rfl)
  | rp id i' p =>
    have hh : atN s.h id = atN s2.h id := hat id (Nat.beq_refl _)
    first | (simp only [hh]; done) | (simp only [hh]; rfl)
  | dp id i' p j' q =>
    have hh : atN s.h id = atN s2.h id := hat id (Nat.beq_refl _)
    first | (simp only [hh]; done) | (simp only [hh]; rfl)
  | dat τ y => cases τ with
    | ptr a => cases a <;> rfl
    | _ => rfl
  | _ => rfl
theorem zHt {t : TypeId} {x : AV} {f : Nat} (he : jF E t x f st pk = some (v, st')) {i0 : Nat} (hx : x.has1 i0 = true) : ∃ o, atN st.h i0 = some o := by
  cases ho : atN st.h i0 with
  | some o => exact ⟨o, rfl⟩
  | none =>
    exfalso
    unfold jF at he
    cases x with
    | bp id p =>
      obtain rfl : id = i0 := Nat.eq_of_beq_eq_true hx
      first | (cases he; done) | (simp only [ho] at he; cases he)
    | rp id i' p =>
      obtain rfl : id = i0 := Nat.eq_of_beq_eq_true hx
      first | (cases he; done) | (simp only [ho] at he; cases he)
    | dp id i' p j' q =>
      obtain rfl : id = i0 := Nat.eq_of_beq_eq_true hx
      first | (cases he; done) | (simp only [ho] at he; cases he)
    | ds id i' p =>
      obtain rfl : id = i0 := Nat.eq_of_beq_eq_true hx
      first | (cases he; done) | (simp only [ho] at he; cases he)
    | ow id =>
      obtain rfl : id = i0 := Nat.eq_of_beq_eq_true hx
      first | (cases he; done) | (simp only [ho] at he; cases he)
    | om id =>
      obtain rfl : id = i0 := Nat.eq_of_beq_eq_true hx
      first | (cases he; done) | (simp only [ho] at he; cases he)
    | _ => cases hx
theorem zIF {t : TypeId} {x : AV} {f : Nat} (hk : zrd st.h k x) (he : jF E t x f st pk = some (v, st')) : jF E t x f (more k st) pk = some (v, more k st) := by
  have hat : ∀ i, x.has1 i = true → atN (more k st).h i = atN st.h i := fun i hi => by
    obtain ⟨o, ho⟩ := zHt he hi
    rw [ho]; exact hk i hi o ho
  rw [zME hat, zzg, he]
  rfl
theorem zVS {R : Type} {k : AV → St → Option R} {s s2 : St} {t : TypeId} {x : AV} (hat : ∀ i, x.has1 i = true → atN s.h i = atN s2.h i) : zfC E t x s k = zfC E t x s2 (fun v _ => k v s) := by
  unfold zfC
  cases x with
  | ds id i' p =>
    have hh : atN s.h id = atN s2.h id := hat id (Nat.beq_refl _)
    first | (simp only [hh]; done) | (simp only [hh]; rfl)
  | ow id =>
    have hh : atN s.h id = atN s2.h id := hat id (Nat.beq_refl _)
    first | (simp only [hh]; done) | (simp only [hh]; rfl)
  | om id =>
    have hh : atN s.h id = atN s2.h id := hat id (Nat.beq_refl _)
    first | (simp only [hh]; done) | (simp only [hh]; rfl)
  | dat τ y => cases τ <;> rfl
  | _ => rfl
theorem zR2 {t : TypeId} {x : AV} (he : zfC E t x st pk = some (v, st')) {i0 : Nat} (hx : x.has1 i0 = true) : ∃ o, atN st.h i0 = some o := by
  cases ho : atN st.h i0 with
  | some o => exact ⟨o, rfl⟩
  | none =>
    exfalso
    unfold zfC at he
    cases x with
    | bp id p =>
      obtain rfl : id = i0 := Nat.eq_of_beq_eq_true hx
      first | (cases he; done) | (simp only [ho] at he; cases he)
    | rp id i' p =>
      obtain rfl : id = i0 := Nat.eq_of_beq_eq_true hx
      first | (cases he; done) | (simp only [ho] at he; cases he)
    | dp id i' p j' q =>
      obtain rfl : id = i0 := Nat.eq_of_beq_eq_true hx
      first | (cases he; done) | (simp only [ho] at he; cases he)
    | ds id i' p =>
      obtain rfl : id = i0 := Nat.eq_of_beq_eq_true hx
      first | (cases he; done) | (simp only [ho] at he; cases he)
    | ow id =>
      obtain rfl : id = i0 := Nat.eq_of_beq_eq_true hx
      first | (cases he; done) | (simp only [ho] at he; cases he)
    | om id =>
      obtain rfl : id = i0 := Nat.eq_of_beq_eq_true hx
      first | (cases he; done) | (simp only [ho] at he; cases he)
    | _ => cases hx
theorem zTB {t : TypeId} {x : AV} (hk : zrd st.h k x) (he : zfC E t x st pk = some (v, st')) : zfC E t x (more k st) pk = some (v, more k st) := by
  have hat : ∀ i, x.has1 i = true → atN (more k st).h i = atN st.h i := fun i hi => by
    obtain ⟨o, ho⟩ := zR2 he hi
    rw [ho]; exact hk i hi o ho
  rw [zVS hat, zNO, he]
  rfl
theorem zOs {t : TypeId} {x i : AV} {ok : Bool} (hk : zrd st.h k x) (he : zb9 E t x i ok st pk = some (v, st')) : zb9 E t x i ok (more k st) pk = some (v, more k st) := by
  unfold zb9 at he ⊢
  split at he
  · split at he
    · rename_i ho
      split at he
      · split at he
        · rename_i hc
          obtain ⟨h1, h2⟩ := zd he
          simp only [show atN (more k st).h _ = _ from hk _ (Nat.beq_refl _) _ ho, hc, h1, cond_true]
          cases ok with
          | false => exact zXd h2
          | true => cases h2; rfl
        · cases he
      · cases he
    · cases he
  · cases he
theorem zR3 {nil : Bool} {op : BinOp} {t : TypeId} {x y : AV} {st2 : St} (he : zhF nil E op t x y st pk = some (v, st')) : zhF nil E op t x y st2 pk = some (v, st2) := by
  have hst : ∀ {R : Type} {s s2 : St} {k : AV → St → Option R}, zhF nil E op t x y s k = zhF nil E op t x y s2 (fun v _ => k v s) := rfl
  rw [hst (s2 := st), zKc, he]
  rfl
theorem zN6 {q : Bool} {op : Op} {ty : TypeId} (hs : zhW op = true) (hk : ∀ x θ v, x ∈ op.operands → rd E st θ x = some v → zrd st.h k v) (he : zaW q E op ty st pk = some (v, st')) : zaW q E op ty (more k st) pk = some (v, more k st) := by
  have hrd : ∀ θ x, rd E (more k st) θ x = rd E st θ x := fun θ x => by cases x <;> rfl
  cases op <;> (try (simp only [zhW] at hs; cases hs; done)) <;> simp only [zaW, hrd] at he ⊢
  case load t x =>
    split at he
    · rename_i hx; exact zR1 (hk _ _ _ (by simp [Op.operands]) hx) he
    · cases he
  case nilCheck x =>
    split at he
    · obtain ⟨y, rfl, he⟩ := Option.bind_eq_some_iff.1 he
      cases he; rfl
    · obtain ⟨y, rfl, he⟩ := Option.bind_eq_some_iff.1 he
      cases he; rfl
    · rename_i hx
      obtain ⟨h1, h2⟩ := zd he
      cases h2
      simp only [show live (more k st).h _ = true from zP8 (hk _ _ _ (by simp [Op.operands]) hx _ (Nat.beq_refl _)) h1, cond_true]
    · rename_i hx
      obtain ⟨h1, h2⟩ := zd he
      cases h2
      simp only [show live (more k st).h _ = true from zP8 (hk _ _ _ (by simp [Op.operands]) hx _ (Nat.beq_refl _)) h1, cond_true]
    · rename_i hx
      split at he
      · rename_i ho
        cases he
        simp only [show atN (more k st).h _ = _ from hk _ _ _ (by simp [Op.operands]) hx _ (Nat.beq_refl _) _ ho]
      · cases he
    · cases he
  case binOp op t x y ty' =>
    split at he
    · exact zR3 he
    · cases he
  case fieldAddr t x f =>
    split at he
    · rename_i hx; exact zIF (hk _ _ _ (by simp [Op.operands]) hx) he
    · cases he
  case indexAddr t x i =>
    split at he
    · rename_i hx _; exact zIE (hk _ _ _ (by simp [Op.operands]) hx) he
    · cases he
  case lookup t x i ok =>
    split at he
    · rename_i hx _; exact zOs (hk _ _ _ (by simp [Op.operands]) hx) he
    · cases he
  case call c =>
    obtain ⟨callee, args, argTypes⟩ := c
    simp only [zhW] at hs
    split at hs
    · rw [zKA] at he ⊢
      simp only [hrd] at he ⊢
      split at he
      · split at he
        · rename_i hx
          exact zTB (hk _ _ _ (by
            rename_i e1 _ _ _
            simp only [Op.operands, Call.operands]
            have : args = #[_] := Array.toList_inj.1 e1
            simp [this]) hx) he
        · cases he
      · cases he
    · cases hs
end
end Go.Ev
end
section
namespace Go.Ev
open Go.RowKit
set_option linter.unusedSimpArgs false
set_option linter.unusedVariables false
section
variable {P : Program} {nt : Nat} {F0 F G : FH} {w0 w : World} {st st' : St} {m : MM} {a : Act} {E : Env} {v : AV} {u : Value} {R : Type}
def Inv (P : Program) (nt : Nat) (F0 : FH) (w0 : World) (st : St) (a : Act) (w : World) : Prop := ∃ m F, Rel P nt F0 w0 st m F a w
theorem zv9 {ops : Array Oper} {o : Oper} {b : Bool} (h : Rel P nt F0 w0 st m F a w) (hg : zi7 ops.toList st.fr o = some b) : Region.wanted o (yielded ops a.tmps) = b := by
  unfold zi7 at hg
  unfold Region.wanted
  cases hgd : o.guard with
  | none => rw [hgd] at hg; simpa using hg
  | some gw =>
    obtain ⟨g, want⟩ := gw
    rw [hgd] at hg
    simp only at hg ⊢
    have hd : zzb ops.toList g = (ops[g]?).bind (·.dst) := by unfold zzb; rw [ql, Array.getElem?_toList]
    rw [hd] at hg
    unfold yielded
    cases ht : (ops[g]?).bind (·.dst) with
    | none => rw [ht] at hg; cases hg
    | some d =>
      rw [ht] at hg
      simp only [Option.bind_some] at hg ⊢
      cases hl : look st.fr d with
      | none => rw [hl] at hg; cases hg
      | some x =>
        rw [hl] at hg
        have hr := h.fr d x hl
        split at hg
        · rename_i y hy
          cases hy
          cases hg
          have := zf.bool (st := st) hr
          cases hT : a.tmps[d]? with
          | none => simp [hT, undef] at this
          | some z => simp [hT] at this; subst this; simp
        · rename_i hy
          cases hy
          cases hg
          obtain ⟨arr, e, _⟩ := hr
          cases hT : a.tmps[d]? with
          | none => simp
          | some z => simp [hT] at e; subst e; simp
        · cases hg
theorem zKB {o : Oper} (h : zJ6 E o = true) : ∀ d, o.dst = some d → d < E.nt := by
  intro d hd
  unfold zJ6 at h
  rw [hd] at h
  simp only [Nat.blt_eq] at h
  exact h
theorem zUU {x y : Option R} {r : R} (h : both x y = some r) : x = some r ∧ y = some r := by
  unfold both at h
  split at h
  · rename_i e; exact ⟨h, e ▸ h⟩
  · cases h
theorem zUV (x : Option R) : both x x = x := by unfold both; rw [if_pos rfl]
theorem zUW {o : Oper} {k : AV → St → Option R} {r : R} (hE : zQ P G E) (hG : G.le F0) (h : Rel P nt F0 w0 st m F a w) (he : zS5 E o.op o.type st k = some r) :
    (∃ p, zaW false E o.op o.type st pk = some p ∧ k p.1 p.2 = some r) ∨ ∃ b : Bool, (execOp a.eval o).run P w = .ok (.value (.bool b)) w ∧ k (.dat .bool b) st = some r := by
  obtain ⟨dst, op, ty, pos, after, guard⟩ := o
  simp only at he ⊢
  unfold zS5 at he
  split at he
  · split at he
    · rename_i t X Y ty' _ _ τ xs hY hX
      right
      obtain ⟨h1, he⟩ := zd he
      have hr := zv hE hG h hX
      obtain ⟨e, hu, _⟩ := (hE.types t _ (Env.is_spec h1)).sl
      obtain ⟨ad, cap, hp, _, hm⟩ := hr.sl
      have hq : a.eval Y = .slice none 0 0 := zAs hY
      have hb : ∀ b : Bool, (ad.isNone = b) → (execOp a.eval ⟨dst, .binOp .eql t X Y ty', ty, pos, after, guard⟩).run P w = .ok (.value (.bool b)) w := by
        intro b hb
        simp only [execOp]
        refine zU ?_
        rw [hp, hq]
        simp only [Sem.run_bind, vk .eql t X Y (p := .slice ad (List.length xs) cap) rfl, Result.andThen_ok]
        have h : ∀ k, (Op.equalIn (k + 1) t (.slice ad (List.length xs) cap) (.slice none 0 0)).run P w = .ok b w := fun k => by
          subst hb
          cases ad <;> simp [Op.equalIn, zh hu]
        have hrun : (Op.equal t (.slice ad (List.length xs) cap) (.slice none 0 0)).run P w = .ok b w := h 9999
        simp [binOp, hrun]
      cases hxs : List.isEmpty xs with
      | true =>
        rw [hxs] at he
        obtain ⟨e1, e2⟩ := zUU he
        refine ⟨ad.isNone, hb _ rfl, ?_⟩
        cases ad.isNone
        · exact e2
        · exact e1
      | false =>
        rw [hxs] at he
        obtain ⟨d, cc, rfl, _⟩ := hm (by rintro rfl; simp at hxs)
        exact ⟨false, hb _ rfl, he⟩
    · left
      rw [zmz] at he
      exact Option.bind_eq_some_iff.1 he
  · left
    rw [zmz] at he
    exact Option.bind_eq_some_iff.1 he
theorem zUX {ops : Array Oper} {Q : Exit → Act → World → Prop} {k : St → Option R} {r : R} (hE : zQ P G E) (hG : G.le F0) (hnt : E.nt = nt)
    (hQ : ∀ st a w, Inv P nt F0 w0 st a w → k st = some r → Q .normal a w) :
    ∀ (rest pre : List Oper) (st : St) (a : Act) (w : World), ops.toList = pre ++ rest → Inv P nt F0 w0 st a w → zJ7 E ops.toList rest st k = some r → wpOps P ops Q (List.range' pre.length rest.length) a w := by
  intro rest
  induction rest with
  | nil => intro pre st a w _ hi he; exact hQ st a w hi he
  | cons o rest ih =>
    intro pre st a w hp ⟨m, F, h⟩ he
    have hget : ops[pre.length]? = some o := by rw [← Array.getElem?_toList, hp]; simp
    simp only [zJ7] at he
    obtain ⟨hd, he⟩ := zd he
    have hd' : ∀ d, o.dst = some d → d < nt := fun d h => hnt ▸ zKB hd d h
    cases hg : zi7 ops.toList st.fr o with
    | none => rw [hg] at he; cases he
    | some b =>
      rw [hg] at he
      have hw := zv9 h hg
      simp only [List.length_cons, List.range'_succ]
      unfold wpOps
      simp only [hget, hw]
      have hnext := ih (pre ++ [o])
      simp only [List.length_append, List.length_cons, List.length_nil, List.append_assoc, List.singleton_append] at hnext
      cases b with
      | false =>
        simp only [Bool.false_eq_true, if_false]
        exact hnext _ _ _ hp ⟨m, F, h.put hd' yN⟩ he
      | true =>
        simp only [if_true]
        left
        simp only [cond_true] at he
        rcases zUW hE hG h he with ⟨⟨v, st'⟩, h1, h2⟩ | ⟨b, h1, h2⟩
        · refine zIB hE hG h h1 _ _ ?_
          rintro u w' ⟨m', F', _, h3, h4⟩
          exact hnext _ _ _ hp ⟨m', F', h3.put hd' h4⟩ h2
        · refine qs.val (R := fun u' w' => u' = .bool b ∧ w' = w) h1 ⟨rfl, rfl⟩ _ _ ?_
          rintro u' w' ⟨rfl, rfl⟩
          exact hnext _ _ _ hp ⟨m, F, h.put (v := .dat .bool b) hd' (show zY P F .bool b (.bool b) from ⟨rfl, rfl⟩)⟩ h2
end
end Go.Ev
end
section
namespace Go.Ev
open Go.RowKit
set_option linter.unusedSimpArgs false
set_option linter.unusedVariables false
section
variable {R : Type} {E : Env}
def zKC (E : Env) (all : List Oper) (s s1 : St) (o : Oper) (v : AV) (d : Did) : Prop :=
  zJ6 E o = true ∧ s1.fr = (s.put o.dst v).fr ∧
  ((zi7 all s.fr o = some false ∧ v = .tup [] ∧ s1.h = s.h ∧ d.rd = false ∧ d.wr = false ∧ d.ch = false) ∨
   (zi7 all s.fr o = some true ∧
    ((∃ fr' v0 st', zj6 s (zhG o) = (fr', true, d.rd) ∧ zaW false E o.op o.type ⟨fr', []⟩ pk = some (v0, st') ∧ v = v0.shT s.h.length ∧ s1.h = s.h ++ st'.h.map (Obj.sh s.h.length) ∧ d.wr = !isNil st'.h ∧ d.ch = false ∧ d.lk = zox s o) ∨
     (∃ st', zhW o.op = true ∧ zaW false E o.op o.type s pk = some (v, st') ∧ s1.h = st'.h ∧ d.rd = true ∧ d.wr = false ∧ d.ch = false ∧ d.lk = zox s o) ∨
     (∃ st', zaW false E o.op o.type s pk = some (v, st') ∧ s1.h = st'.h ∧ d.rd = true ∧ d.wr = true ∧ d.ch = true ∧ d.cg = zMp E s o.op) ∨
     (∃ a vs z, zPA E o.op s = some (a, vs, z) ∧ v = .fld a vs ∧ s1.h = s.h ++ z ∧ d.rd = true ∧ d.wr = !isNil z ∧ d.ch = false ∧ d.lk = zox s o))))
def Apt (e d : Did) : Prop := (e.ch = true → d.wr = false ∧ (d.rd = true → apart e.cg d.lk = true)) ∧ (d.ch = true → e.wr = false ∧ (e.rd = true → apart d.cg e.lk = true))
def Ok (bs : List Nat) (e d : Did) : Prop := Nat.testBit ((atN bs d.i).getD 0) e.i = true ∨ Apt e d
theorem zkc {bj : Nat} {d : Did} : ∀ {l : List Did}, zzd bj d l = true → ∀ e ∈ l, Nat.testBit bj e.i = true ∨ Apt e d
  | [], _, e, he => by simp at he
  | x :: l, h, e, he => by
    simp only [zzd] at h
    cases hb : Nat.testBit bj x.i with
    | true =>
      rw [hb] at h
      rcases List.mem_cons.1 he with rfl | he
      · exact .inl hb
      · exact zkc h e he
    | false =>
      rw [hb] at h
      simp only [cond_false] at h
      cases h1 : (x.ch && (d.wr || (d.rd && !apart x.cg d.lk))) with
      | true => rw [h1] at h; cases h
      | false =>
        rw [h1] at h
        simp only [cond_false] at h
        cases h2 : (d.ch && (x.wr || (x.rd && !apart d.cg x.lk))) with
        | true => rw [h2] at h; cases h
        | false =>
          rw [h2] at h
          rcases List.mem_cons.1 he with rfl | he
          · refine .inr ⟨fun hx => ?_, fun hx => ?_⟩
            · rw [hx] at h1
              simp only [Bool.true_and, Bool.or_eq_false_iff, Bool.and_eq_false_iff, Bool.not_eq_false'] at h1
              exact ⟨h1.1, fun hr => by rw [hr] at h1; simpa using h1.2⟩
            · rw [hx] at h2
              simp only [Bool.true_and, Bool.or_eq_false_iff, Bool.and_eq_false_iff, Bool.not_eq_false'] at h2
              exact ⟨h2.1, fun hr => by rw [hr] at h2; simpa using h2.2⟩
          · exact zkc h e he
theorem Apt.idle {e d : Did} (h1 : d.rd = false) (h2 : d.wr = false) (h3 : d.ch = false) : Apt e d := ⟨fun _ => ⟨h2, fun h => (by rw [h1] at h; cases h)⟩, fun h => (by rw [h3] at h; cases h)⟩
theorem Apt.idle' {e d : Did} (h1 : d.rd = false) (h2 : d.wr = false) (h3 : d.ch = false) : Apt d e := ⟨fun h => (by rw [h3] at h; cases h), fun _ => ⟨h2, fun h => (by rw [h1] at h; cases h)⟩⟩
theorem zN7 {all : List Oper} {bs : List Nat} {k : St → Option R} {r : R} : ∀ (rest : List Oper) (j : Nat) (seen : List Did) (st : St), evD E all bs rest j seen st k = some r →
    ∃ (S : Nat → St) (V : Nat → AV) (D : Nat → Did), S j = st ∧ k (S (j + rest.length)) = some r ∧ (∀ i, (D i).i = i) ∧
      (∀ i o, rest[i]? = some o → zKC E all (S (j + i)) (S (j + i + 1)) o (V (j + i)) (D (j + i))) ∧
      (∀ i, i < rest.length → ∀ e ∈ seen, Ok bs e (D (j + i))) ∧
      (∀ i i', i < i' → i' < rest.length → Ok bs (D (j + i)) (D (j + i')))
  | [], j, seen, st, h => ⟨fun _ => st, fun _ => .dead, fun i => ⟨i, false, false, false, [], none⟩, rfl, h, fun _ => rfl, by simp, by simp, by simp⟩
  | o :: rest, j, seen, st, h => by
    have key : ∀ (s1 : St) (v : AV) (d : Did) (seen' : List Did), zKC E all st s1 o v d → d.i = j → (∀ e ∈ seen, Ok bs e d) → (seen' = d :: seen ∨ (seen' = seen ∧ d.rd = false ∧ d.wr = false ∧ d.ch = false)) → evD E all bs rest (j + 1) seen' s1 k = some r →
        ∃ (S : Nat → St) (V : Nat → AV) (D : Nat → Did), S j = st ∧ k (S (j + (o :: rest).length)) = some r ∧ (∀ i, (D i).i = i) ∧
          (∀ i o', (o :: rest)[i]? = some o' → zKC E all (S (j + i)) (S (j + i + 1)) o' (V (j + i)) (D (j + i))) ∧
          (∀ i, i < (o :: rest).length → ∀ e ∈ seen, Ok bs e (D (j + i))) ∧
          (∀ i i', i < i' → i' < (o :: rest).length → Ok bs (D (j + i)) (D (j + i'))) := by
      intro s1 v d seen' hs hd ho hse he
      obtain ⟨S, V, D, h1, h2, h3, h4, h5, h6⟩ := zN7 rest (j + 1) seen' s1 he
      have hne : ∀ i, j + 1 + i ≠ j := fun i => by omega
      have hS : ∀ i, (if j + (i + 1) = j then st else S (j + (i + 1))) = S (j + 1 + i) := fun i => by rw [if_neg (by omega), show j + (i + 1) = j + 1 + i by omega]
      have hV : ∀ i, (if j + (i + 1) = j then v else V (j + (i + 1))) = V (j + 1 + i) := fun i => by rw [if_neg (by omega), show j + (i + 1) = j + 1 + i by omega]
      have hD : ∀ i, (if j + (i + 1) = j then d else D (j + (i + 1))) = D (j + 1 + i) := fun i => by rw [if_neg (by omega), show j + (i + 1) = j + 1 + i by omega]
      refine ⟨fun i => if i = j then st else S i, fun i => if i = j then v else V i, fun i => if i = j then d else D i, by simp, ?_, ?_, ?_, ?_, ?_⟩
      · simp only [List.length_cons, hS]; exact h2
      · intro i
        by_cases e : i = j
        · subst e; simp [hd]
        · simp [e, h3]
      · intro i o' hi
        cases i with
        | zero =>
          simp only [List.getElem?_cons_zero, Option.some.injEq] at hi
          subst hi
          simp only [Nat.add_zero, if_true]
          rw [if_neg (by omega), h1]
          exact hs
        | succ i =>
          rw [List.getElem?_cons_succ] at hi
          have := h4 i o' hi
          simp only [hS, hV, hD]
          rw [if_neg (by omega), show j + (i + 1) + 1 = j + 1 + i + 1 by omega]
          exact this
      · intro i hi e hes
        cases i with
        | zero => simp only [Nat.add_zero, if_true]; exact ho e hes
        | succ i =>
          simp only [hD]
          refine h5 i (by simpa using hi) e ?_
          rcases hse with rfl | ⟨rfl, _⟩
          · exact List.mem_cons_of_mem _ hes
          · exact hes
      · intro i i' hii hi'
        cases i' with
        | zero => omega
        | succ i' =>
          simp only [hD]
          cases i with
          | zero =>
            simp only [Nat.add_zero, if_true]
            rcases hse with rfl | ⟨_, g1, g2, g3⟩
            · exact h5 i' (by simpa using hi') d (by simp)
            · exact .inr (Apt.idle' g1 g2 g3)
          | succ i =>
            simp only [hD]
            exact h6 i i' (by omega) (by simpa using hi')
    simp only [evD] at h
    obtain ⟨hdst, h⟩ := zd h
    cases hg : zi7 all st.fr o with
    | none => rw [hg] at h; cases h
    | some b =>
      rw [hg] at h
      simp only at h
      cases b with
      | false =>
        simp only [cond_false] at h
        refine key _ (.tup []) ⟨j, false, false, false, [], none⟩ seen ⟨hdst, rfl, .inl ⟨hg, rfl, ?_, rfl, rfl, rfl⟩⟩ rfl (fun e _ => .inr (Apt.idle rfl rfl rfl)) (.inr ⟨rfl, rfl, rfl, rfl⟩) h
        cases o.dst <;> rfl
      | true =>
        simp only [cond_true] at h
        cases hpu : (zj6 st (zhG o)).2.1 with
        | true =>
          rw [hpu] at h
          simp only [cond_true] at h
          rw [zmz] at h
          obtain ⟨⟨v0, st'⟩, h1, h2⟩ := Option.bind_eq_some_iff.1 h
          obtain ⟨h3, h4⟩ := zd h2
          have hord := zkc h3
          refine key _ (v0.shT st.h.length) ⟨j, (zj6 st (zhG o)).2.2, !isNil st'.h, false, zox st o, none⟩ _ ⟨hdst, ?_, .inr ⟨hg, .inl ⟨(zj6 st (zhG o)).1, v0, st', by rw [← hpu], h1, rfl, ?_, rfl, rfl, rfl⟩⟩⟩ rfl hord (.inl rfl) h4
          · cases o.dst <;> rfl
          · cases o.dst <;> rfl
        | false =>
          rw [hpu] at h
          simp only [cond_false] at h
          cases hb : zPA E o.op st with
          | some q =>
            obtain ⟨a, vs, z⟩ := q
            rw [hb] at h
            simp only at h
            obtain ⟨h3, h⟩ := zd h
            have hord := zkc h3
            refine key _ (.fld a vs) ⟨j, true, !isNil z, false, zox st o, none⟩ _ ⟨hdst, ?_, .inr ⟨hg, .inr (.inr (.inr ⟨a, vs, z, hb, rfl, ?_, rfl, rfl, rfl, rfl⟩))⟩⟩ rfl hord (.inl rfl) h
            · cases o.dst <;> rfl
            · cases o.dst <;> rfl
          | none =>
          rw [hb] at h
          simp only at h
          cases hs : zhW o.op with
          | true =>
            rw [hs] at h
            simp only [cond_true] at h
            obtain ⟨h3, h⟩ := zd h
            have hord := zkc h3
            rw [zmz] at h
            obtain ⟨⟨v0, st'⟩, h1, h2⟩ := Option.bind_eq_some_iff.1 h
            have hf := zKz h1
            refine key _ v0 ⟨j, true, false, false, zox st o, none⟩ _ ⟨hdst, ?_, .inr ⟨hg, .inr (.inl ⟨st', hs, h1, ?_, rfl, rfl, rfl, rfl⟩)⟩⟩ rfl hord (.inl rfl) h2
            · cases o.dst <;> simp [St.put, hf]
            · cases o.dst <;> rfl
          | false =>
            rw [hs] at h
            simp only [cond_false] at h
            obtain ⟨h3, h⟩ := zd h
            have hord := zkc h3
            rw [zmz] at h
            obtain ⟨⟨v0, st'⟩, h1, h2⟩ := Option.bind_eq_some_iff.1 h
            have hf := zKz h1
            refine key _ v0 ⟨j, true, true, true, [], zMp E st o.op⟩ _ ⟨hdst, ?_, .inr ⟨hg, .inr (.inr (.inl ⟨st', h1, ?_, rfl, rfl, rfl, rfl⟩))⟩⟩ rfl hord (.inl rfl) h2
            · cases o.dst <;> simp [St.put, hf]
            · cases o.dst <;> rfl
theorem zUY {x : Nat} {u : Obj} : ∀ {b : Ty} {vs : List AV} {h : List Obj} {r : b.I × List Obj}, zMn b vs h = some r → atN h x = some u → x ∉ vs.flatMap AV.ids1 → atN r.2 x = some u := by
  intro b
  induction b with
  | unit => intro vs h r hz hx _; cases vs with
    | nil => cases hz; exact hx
    | cons _ _ => cases hz
  | pair a b _ ihb =>
    intro vs h r hz hx hn
    cases vs with
    | nil => cases hz
    | cons v vs =>
      simp only [zMn] at hz
      split at hz
      · rename_i y h1 hy
        split at hz
        · rename_i ys h2 hys
          cases hz
          simp only [List.flatMap_cons, List.mem_append, not_or] at hn
          refine ihb hys ?_ hn.2
          unfold zFy at hy
          split at hy
          · obtain ⟨_, hy⟩ := zbz hy
            split at hy
            · cases hy; exact hx
            · cases hy
          · rename_i id
            split at hy
            · split at hy
              · cases hy
                have : id ≠ x := fun e => hn.1 (by simp [AV.ids1, e])
                rw [qQ this]; exact hx
              · cases hy
            · cases hy
          · cases hy
        · cases hz
      · cases hz
  | _ => intro vs h r hz; cases vs <;> cases hz
theorem zUZ {x : Nat} {u : Obj} {σ : Ty} {v : AV} {h : List Obj} {r : σ.I × List Obj} (hz : zIu σ v h = some r) (hx : atN h x = some u) (hn : x ∉ v.ids) : atN r.2 x = some u := by
  unfold zIu at hz
  split at hz
  · rename_i a b vs
    obtain ⟨_, hz⟩ := zd hz
    exact zUY (b := a) (r := r) hz hx hn
  · rename_i τ id
    unfold zFy at hz
    simp only at hz
    split at hz
    · split at hz
      · cases hz
        have : id ≠ x := fun e => hn (by simp [AV.ids, AV.ids1, e])
        rw [qQ this]; exact hx
      · cases hz
    · cases hz
  · cases hz
theorem zWE {s st' : St} {op : Op} {ty : TypeId} {v : AV} {l : List Nat} (hc : zMp E s op = some l) (he : zaW false E op ty s pk = some (v, st')) {x : Nat} {u : Obj} (hx : atN s.h x = some u) (hn : x ∉ l) : atN st'.h x = some u := by
  unfold zMp at hc
  split at hc
  · rename_i t ps
    split at hc
    · rename_i τ hτ
      split at hc
      · rename_i w hps
        split at hc
        · rename_i r hr
          cases hc
          simp only [zaW, hτ, hps, hr] at he
          obtain ⟨_, he⟩ := zd he
          cases he
          simp only
          refine zvX ?_
          unfold zJ5 at hr
          split at hr
          · rename_i heq
            cases heq
            exact zUZ hr hx hn
          · cases hr
        · cases hc
      · cases hc
    · cases hc
  · cases hc
theorem zU0 {acc : List Nat} : ∀ {es : List Edge} {i : Nat}, Nat.testBit (zS6 acc es) i = true → ∃ e ∈ es, Region.binds .any e = true ∧ (e.on = i ∨ ∃ b, atN acc e.on = some b ∧ Nat.testBit b i = true) := by
  have key : ∀ (es : List Edge) (s i : Nat), Nat.testBit (es.foldl (fun s e => cond (Region.binds .any e) ((s ||| 2 ^ e.on) ||| (atN acc e.on).getD 0) s) s) i = true → Nat.testBit s i = true ∨ ∃ e ∈ es, Region.binds .any e = true ∧ (e.on = i ∨ ∃ b, atN acc e.on = some b ∧ Nat.testBit b i = true) := by
    intro es
    induction es with
    | nil => intro s i h; exact .inl h
    | cons e es ih =>
      intro s i h
      rw [List.foldl_cons] at h
      rcases ih _ _ h with h1 | ⟨e', he', h1⟩
      · cases hb : Region.binds .any e with
        | false => rw [hb] at h1; exact .inl h1
        | true =>
          rw [hb] at h1
          simp only [cond_true, Nat.testBit_or, Bool.or_eq_true] at h1
          rcases h1 with (h1 | h1) | h1
          · exact .inl h1
          · rw [Nat.testBit_two_pow] at h1
            exact .inr ⟨e, by simp, hb, .inl (by simpa using h1)⟩
          · cases ha : atN acc e.on with
            | none => rw [ha] at h1; simp at h1
            | some b => rw [ha] at h1; exact .inr ⟨e, by simp, hb, .inr ⟨b, ha, h1⟩⟩
      · exact .inr ⟨e', by simp [he'], h1⟩
  intro es i h
  rcases key es 0 i h with h1 | h1
  · simp at h1
  · exact h1
theorem zTC : ∀ (l : List Oper) (acc : List Nat) (j : Nat) (o : Oper), l[j]? = some o → ∃ acc', atN (zsK l acc) (acc.length + j) = some (zS6 acc' o.after.toList) ∧ ∀ x b, atN acc' x = some b → atN (zsK l acc) x = some b := by
  have pre : ∀ (l : List Oper) (acc : List Nat) (x b : Nat), atN acc x = some b → atN (zsK l acc) x = some b := by
    intro l
    induction l with
    | nil => intro acc x b h; exact h
    | cons o l ih => intro acc x b h; exact ih _ _ _ (zvX h)
  intro l
  induction l with
  | nil => intro acc j o h; simp at h
  | cons u l ih =>
    intro acc j o h
    cases j with
    | zero =>
      simp only [List.getElem?_cons_zero, Option.some.injEq] at h
      subst h
      refine ⟨acc, ?_, fun x b hx => pre l _ x b (zvX hx)⟩
      refine pre l _ _ _ ?_
      rw [ql]; simp
    | succ j =>
      rw [List.getElem?_cons_succ] at h
      obtain ⟨acc', h1, h2⟩ := ih (acc ++ [zS6 acc u.after.toList]) j o h
      refine ⟨acc', ?_, h2⟩
      simp only [List.length_append, List.length_cons, List.length_nil] at h1
      rw [show acc.length + (j + 1) = acc.length + (0 + 1) + j by omega]
      exact h1
theorem zwa {t : Nat} : ∀ {l : List Nat}, zAo t l = true ↔ t ∈ l
  | [] => by simp [zAo]
  | x :: l => by
    simp only [zAo, List.mem_cons]
    by_cases e : x = t
    · subst e; simp [beq_self]
    · rw [zet e, cond_false, zwa]
      exact ⟨.inr, fun h => h.resolve_left fun h' => e h'.symm⟩
theorem zoy {bj j : Nat} {o : Oper} : ∀ {l : List Oper} {i0 : Nat}, zvU bj j o l i0 = true → ∀ i u d, l[i]? = some u → u.dst = some d → (i0 + i = j ∨ o.dst ≠ some d) ∧ (d ∈ zhG o → Nat.testBit bj (i0 + i) = true ∧ i0 + i < j)
  | [], _, _, i, u, d, hi, _ => by simp at hi
  | x :: l, i0, h, i, u, d, hi, hd => by
    simp only [zvU, Bool.and_eq_true] at h
    cases i with
    | zero =>
      simp only [List.getElem?_cons_zero, Option.some.injEq] at hi
      subst hi
      rw [hd] at h
      simp only [Bool.and_eq_true, Bool.or_eq_true, Bool.not_eq_true'] at h
      obtain ⟨⟨h1, h2⟩, _⟩ := h
      refine ⟨?_, fun hm => ?_⟩
      · rcases h1 with h1 | h1
        · exact .inl (Nat.eq_of_beq_eq_true h1)
        · right
          intro he
          rw [he] at h1
          simp [beq_self] at h1
      · rcases h2 with h2 | h2
        · rw [zwa.2 hm] at h2; cases h2
        · exact ⟨h2.1, by simpa using h2.2⟩
    | succ i =>
      rw [List.getElem?_cons_succ] at hi
      have := zoy h.2 i u d hi hd
      rw [show i0 + (i + 1) = i0 + 1 + i by omega]
      exact this
theorem zsM {bs : List Nat} {all : List Oper} (h : zJ8 bs all = true) {j : Nat} {o : Oper} (hj : all[j]? = some o) :
    zvU ((atN bs j).getD 0) j o all 0 = true ∧ (∀ g b, o.guard = some (g, b) → Nat.testBit ((atN bs j).getD 0) g = true ∧ g < j) ∧ ∀ e ∈ o.after.toList, Region.binds .any e = true → e.on < j := by
  have key : ∀ (l : List Oper) (j0 j : Nat) (o : Oper), zzc bs all l j0 = true → l[j]? = some o → zvU ((atN bs (j0 + j)).getD 0) (j0 + j) o all 0 = true ∧ (∀ g b, o.guard = some (g, b) → Nat.testBit ((atN bs (j0 + j)).getD 0) g = true ∧ g < j0 + j) ∧ ∀ e ∈ o.after.toList, Region.binds .any e = true → e.on < j0 + j := by
    intro l
    induction l with
    | nil => intro j0 j o _ h; simp at h
    | cons x l ih =>
      intro j0 j o h hj
      simp only [zzc, Bool.and_eq_true] at h
      cases j with
      | zero =>
        simp only [List.getElem?_cons_zero, Option.some.injEq] at hj
        subst hj
        obtain ⟨⟨⟨h1, h2⟩, h3⟩, _⟩ := h
        refine ⟨h1, fun g b hg => ?_, fun e he hb => ?_⟩
        · rw [hg] at h2
          simp only [Bool.and_eq_true, Nat.blt_eq] at h2
          exact h2
        · have := List.all_eq_true.1 h3 e he
          simp only [hb, Bool.not_true, Bool.false_or, Nat.blt_eq] at this
          exact this
      | succ j =>
        rw [List.getElem?_cons_succ] at hj
        have := ih (j0 + 1) j o h.2 hj
        rw [show j0 + (j + 1) = j0 + 1 + j by omega]
        exact this
  have := key all 0 j o h hj
  simpa using this
end
end Go.Ev
end
section
namespace Go.Ev
open Go.RowKit
set_option linter.unusedSimpArgs false
set_option linter.unusedVariables false
section
variable {P : Program} {nt : Nat} {F0 F G : FH} {w0 w : World} {st st' : St} {m : MM} {a : Act} {E : Env} {v : AV} {u : Value} {R : Type}
theorem zKD {τ : Ty} {x : τ.I} (hz : jW true st v = some ⟨τ, x, st'⟩) (h : Rel P nt F0 w0 st m F a w) (hv : zZ P st.h m F v u) : zY P F τ x u := by
  cases v with
  | dat τ' y =>
    simp only [jW, Option.some.injEq] at hz
    cases hz
    exact hv
  | clip τ' ys =>
    simp only [jW, Option.some.injEq] at hz
    cases hz
    obtain ⟨ad, rfl, h1⟩ := hv
    exact ⟨⟨ad, _, rfl, Nat.le_refl _, h1⟩, rfl⟩
  | ow id =>
    simp only [jW] at hz
    split at hz
    · rename_i σ xs ho
      cases hz
      have hu := zZ.owAt ho rfl hv
      cases hmi : m id with
      | none =>
        rw [hmi] at hu
        obtain ⟨hl, ad, rfl⟩ := hu
        obtain rfl := List.length_eq_zero_iff.1 hl
        exact .sl_nil
      | some bn =>
        obtain ⟨b, n⟩ := bn
        rw [hmi] at hu
        obtain ⟨cap, hn, hcap, rfl⟩ := hu
        obtain ⟨el, fr, cs, c, d, h1, h2, h3, h4, h5⟩ := h.row ho hmi
        exact .sl_of_row h5 h3 h4 hcap
    · cases hz
    · cases hz
    · cases hz
  | bp id p =>
    cases p with
    | cons _ _ => simp [jW] at hz
    | nil =>
      simp only [jW] at hz
      split at hz
      · rename_i σ y ho
        cases hz
        obtain ⟨b, n, off, hmi, rfl, ρ, h3⟩ := (show zf P st.h m F (.bp id []) u from hv).bpAt ho
        simp only [qv, Option.some.injEq, Prod.mk.injEq] at h3
        obtain ⟨rfl, rfl⟩ := h3
        obtain ⟨b', n', el, fr, cs, h4, h5, h6, h7⟩ := h.obs id _ ho
        rw [hmi] at h4
        cases h4
        exact ⟨⟨_, _, rfl, ⟨rfl, cs, h7, fun j v hj => by rw [Nat.zero_add, ← Array.getElem?_toList]; exact hj⟩, h6⟩, rfl⟩
      · cases hz
      · cases hz
  | _ => simp [jW] at hz
theorem zWF {σ : Ty} {x : σ.I} {c : List Value} (hz : zco true σ st v = some (x, st')) (h : Rel P nt F0 w0 st m F a w) (hv : zan P st.h m F σ v c) : Rep P F σ x c ∧ st' = st := by
  have hsame := (zIa (zrd.refl _ _) hz).2
  simp only at hsame
  unfold zco at hz
  split at hz
  · rename_i τ y st1 hz1
    split at hz
    · rename_i z hc
      cases hz
      obtain ⟨rfl, rfl⟩ := zR hc
      refine ⟨?_, hsame⟩
      cases v with
      | dat τ' y' =>
        simp only [jW, Option.some.injEq] at hz1
        cases hz1
        exact hv.2
      | ow id =>
        obtain ⟨ρ, u, rfl, rfl, h1, _, ad, l, cc, rfl⟩ := hv
        have := (zKD hz1 h h1).1
        simpa [Value.cells] using this
      | _ => exact hv.elim
    · cases hz
  · cases hz
theorem zVT : ∀ {b : Ty} {vs : List AV} {x : b.I} {cs : List Value} {st st' : St}, vh true b vs st = some (x, st') → Rel P nt F0 w0 st m F a w → qa P st.h m F b vs cs → Rep P F b x cs := by
  intro b
  induction b with
  | unit =>
    intro vs x cs st st' hz h hv
    cases vs with
    | nil => exact hv
    | cons _ _ => exact hv.elim
  | pair a b _ ihb =>
    intro vs x cs st st' hz h hv
    cases vs with
    | nil => exact hv.elim
    | cons v vs =>
      obtain ⟨c, d, e, h1, h2⟩ := hv
      simp only [vh] at hz
      split at hz
      · rename_i y st1 hy
        split at hz
        · rename_i ys st2 hys
          cases hz
          obtain ⟨g1, rfl⟩ := zWF hy h h1
          exact ⟨c, d, e, g1, ihb hys h h2⟩
        · cases hz
      · cases hz
  | _ => intro vs x cs st st' hz h hv; cases vs <;> exact hv.elim
theorem zXD {τ : Ty} {x : τ.I} (hz : frz true st v = some ⟨τ, x, st'⟩) (h : Rel P nt F0 w0 st m F a w) (hv : zf P st.h m F v u) : zY P F τ x u := by
  cases v with
  | fld b vs =>
    simp only [frz] at hz
    split at hz
    · rename_i y st1 hy
      cases hz
      obtain ⟨cs, rfl, h1⟩ := (show zI P st.h m F (.fld b vs) u from hv)
      exact ⟨zVT (b := b) hy h h1, rfl⟩
    · cases hz
  | dat τ x => exact zKD (v := .dat τ x) hz h hv
  | clip τ x => exact zKD (v := .clip τ x) hz h hv
  | bp id p => exact zKD (v := .bp id p) hz h hv
  | ow id => exact zKD (v := .ow id) hz h hv
  | _ => cases hz
theorem zTD {h k : List Obj} {fr : List (Nat × AV)} (hr : Rel P nt F0 w0 ⟨fr, k⟩ m F a w) (hs : Sup h k v) (hv : zf P k m F v u) : zf P k m F (zi8 h v).1 u := by
  unfold zi8
  cases hp : v.pure with
  | true => exact hv
  | false =>
    simp only [cond_false]
    split
    · rename_i τ x s hz
      have h1 := (zVR (st := ⟨[], h⟩) (k := k) hs hz).1
      exact zXD (st := ⟨[], k⟩) h1 (hr.frames (fr := []) (fun t v ht => by simp [look] at ht)) hv
    · exact hv
theorem zR4 {h : List Obj} (hp : (zi8 h v).2 = false) : (zi8 h v).1 = v := by
  unfold zi8 at hp ⊢
  cases hq : v.pure with
  | true => rfl
  | false =>
    rw [hq] at hp
    simp only [cond_false] at hp
    split at hp <;> cases hp
theorem zDf {s : St} : ∀ {l : List Nat} {fr' : List (Nat × AV)} {pu rs : Bool}, zj6 s l = (fr', pu, rs) →
    ∀ t v', look fr' t = some v' → t ∈ l ∧ ∃ v, look s.fr t = some v ∧ v' = (zi8 s.h v).1 ∧ (rs = false → v' = v) ∧ (pu = true → v'.pure = true)
  | [], _, _, _, h, t, v', ht => by cases h; simp [look] at ht
  | x :: l, fr', pu, rs, h, t, v', ht => by
    simp only [zj6] at h
    cases hx : look s.fr x with
    | none =>
      rw [hx] at h
      obtain ⟨h1, h2⟩ := zDf h t v' ht
      exact ⟨List.mem_cons_of_mem _ h1, h2⟩
    | some v =>
      rw [hx] at h
      simp only [Prod.mk.injEq] at h
      obtain ⟨rfl, rfl, rfl⟩ := h
      by_cases e : x = t
      · subst e
        simp only [look, beq_self, cond_true, Option.some.injEq] at ht
        subst ht
        refine ⟨by simp, v, hx, rfl, fun hr => ?_, fun hp => ?_⟩
        · simp only [Bool.or_eq_false_iff] at hr
          exact zR4 hr.1
        · simp only [Bool.and_eq_true] at hp
          exact hp.1
      · simp only [look, zet e, cond_false] at ht
        obtain ⟨h1, v2, h2, h3, h4, h5⟩ := zDf (Prod.ext rfl (Prod.ext rfl rfl) : zj6 s l = ((zj6 s l).1, (zj6 s l).2.1, (zj6 s l).2.2)) t v' ht
        refine ⟨List.mem_cons_of_mem _ h1, v2, h2, h3, fun hr => h4 ?_, fun hp => h5 ?_⟩
        · simp only [Bool.or_eq_false_iff] at hr
          exact hr.2
        · simp only [Bool.and_eq_true] at hp
          exact hp.2
theorem zf.nowhere {h2 : List Obj} {m2 : MM} {n : Nat} (hv : zf P [] m F v u) : zf P h2 m2 F (v.shT n) u := by
  have key : ∀ {x : AV} {y : Value}, zI P [] m F x y → zI P h2 m2 F (x.sh n) y := by
    intro x y hx
    have one : ∀ {x : AV} {y : Value}, zZ P [] m F x y → zZ P h2 m2 F (x.sh1 n) y := by
      intro x y hx
      cases x with
      | dat τ z => exact hx
      | clip τ z => exact hx
      | dead => trivial
      | tup vs => exact hx.elim
      | fld b vs => exact hx.elim
      | bp id p => rcases hx with hg | ⟨b, n, o, off, h1, ho, _⟩ <;> simp_all [atN]
      | rp id i p => rcases hx with hg | ⟨b, n, o, τ, len, off, σ, h1, ho, _⟩ <;> simp_all [atN]
      | ow id => rcases hx with hg | ⟨o, τ, len, ho, _⟩ <;> simp_all [atN]
      | om id => rcases hx with hg | ⟨b, n, κ, σ, es, h1, ho, _⟩ <;> simp_all [atN]
      | ds id i p => obtain ⟨o, ho, _⟩ := hx; simp [atN] at ho
      | dp id i p j q => obtain ⟨o, ho, _⟩ := hx; simp [atN] at ho
    have zCX : ∀ {b : Ty} {vs : List AV} {cs : List Value}, qa P [] m F b vs cs → qa P h2 m2 F b (vs.map (AV.sh1 n)) cs := by
      intro b
      induction b with
      | unit => intro vs cs hv; cases vs with
        | nil => exact hv
        | cons _ _ => exact hv.elim
      | pair a b _ ihb =>
        intro vs cs hv
        cases vs with
        | nil => exact hv.elim
        | cons v vs =>
          obtain ⟨c, d, e, h1, h2⟩ := hv
          refine ⟨c, d, e, ?_, ihb h2⟩
          cases v with
          | dat τ x => exact h1
          | ow id =>
            obtain ⟨σ, u, _, _, h3, _⟩ := h1
            rcases h3 with hg | ⟨o, τ, len, ho, _⟩
            · simp [atN] at hg
            · simp [atN] at ho
          | _ => exact h1.elim
      | _ => intro vs cs hv; cases vs <;> exact hv.elim
    cases x with
    | fld b vs => obtain ⟨cs, e, h1⟩ := hx; exact ⟨cs, e, zCX h1⟩
    | tup vs => exact hx.elim
    | dat τ z => exact hx
    | clip τ z => exact hx
    | dead => trivial
    | bp id p => exact one (x := .bp id p) hx
    | rp id i p => exact one (x := .rp id i p) hx
    | ow id => exact one (x := .ow id) hx
    | om id => exact one (x := .om id) hx
    | ds id i p => exact one (x := .ds id i p) hx
    | dp id i p j q => exact one (x := .dp id i p j q) hx
  cases v with
  | tup vs =>
    obtain ⟨arr, e, h1, h3⟩ := hv
    refine ⟨arr, e, by simpa using h1, fun i x hx => ?_⟩
    rw [List.getElem?_map] at hx
    obtain ⟨y, hy, rfl⟩ := Option.map_eq_some_iff.1 hx
    obtain ⟨z, hz, hyz⟩ := h3 i y hy
    exact ⟨z, hz, key hyz⟩
  | _ =>
    rw [zf.eq1 (by intro vs e; cases e)] at hv
    exact zf.of1 (key hv)
def zsN (f : Nat → Bool) : Nat → Nat
  | 0 => 0
  | n + 1 => zsN f n + cond (f n) 0 1
theorem zN8 {f : Nat → Bool} : ∀ {n : Nat}, zsN f n = 0 → ∀ i, i < n → f i = true
  | n + 1, h, i, hi => by
    simp only [zsN] at h
    by_cases e : i = n
    · subst e
      cases hf : f i with
      | true => rfl
      | false => rw [hf] at h; simp at h
    · exact zN8 (n := n) (by omega) i (by omega)
theorem left_step {f g : Nat → Bool} {j : Nat} : ∀ {n : Nat}, f j = false → g j = true → (∀ i, i ≠ j → g i = f i) → zsN f n = zsN g n + (if j < n then 1 else 0)
  | 0, _, _, _ => by simp [zsN]
  | n + 1, h1, h2, h3 => by
    have ih := left_step (n := n) h1 h2 h3
    simp only [zsN]
    by_cases e : n = j
    · subst e
      simp only [h1, h2, cond_true, cond_false]
      simp at ih
      simp [ih]
    · rw [h3 n e, ih]
      by_cases h4 : j < n
      · have h5 : j < n + 1 := by omega
        simp only [if_pos h4, if_pos h5]
        generalize cond (f n) 0 1 = z
        omega
      · have h5 : ¬ j < n + 1 := by omega
        simp only [if_neg h4, if_neg h5]
        generalize cond (f n) 0 1 = z
        omega
theorem zN9 {f : Nat → Bool} : ∀ {n : Nat}, (∀ i, i < n → f i = false) → zsN f n = n
  | 0, _ => rfl
  | n + 1, h => by
    have ih := zN9 (n := n) (fun i hi => h i (by omega))
    simp only [zsN, ih, h n (by omega), cond_false]
theorem zTE {q : Bool} {op : Op} {ty : TypeId} (hs : zhW op = true) (he : zaW q E op ty st pk = some (v, st')) : st' = st := by
  have := zN6 (k := st.h) hs (fun x θ v _ _ => zrd.refl _ _) he
  rw [show more st.h st = st from rfl, he] at this
  cases this
  rfl
structure Hol (n : Nat) (S : Nat → St) (D : Nat → Did) (done : Nat → Bool) (c e : Nat) (H : List Obj) : Prop where
  ce : c ≤ e
  en : e ≤ n
  chg : ∀ i, i < n → (D i).ch = true → (done i = true ↔ i < c)
  quiet : ∀ i, c ≤ i → i < e → (D i).ch = false
  fst : c = 0 ∨ (0 < c ∧ (D (c - 1)).ch = true)
  lst : e = n ∨ (D e).ch = true
  len : H.length = (S e).h.length
  hol : ∀ i, c ≤ i → i < e → done i = false → ∀ x, (S i).h.length ≤ x → x < (S (i + 1)).h.length → atN H x = some .hole
  own : ∀ x o, atN (S e).h x = some o → (∀ i, c ≤ i → i < e → (S i).h.length ≤ x → x < (S (i + 1)).h.length → done i = true) → atN H x = some o
structure Mid (P : Program) (nt : Nat) (F0 : FH) (w0 : World) (all : List Oper) (bs : List Nat) (S : Nat → St) (V : Nat → AV) (D : Nat → Did) (done : Nat → Bool) (a : Act) (w : World) : Prop where
  down : ∀ j, j < all.length → done j = true → ∀ i, Nat.testBit ((atN bs j).getD 0) i = true → done i = true
  rel : ∃ c e H, Hol all.length S D done c e H ∧ ∃ fr m F, Rel P nt F0 w0 ⟨fr, H⟩ m F a w ∧
    (∀ (i : Nat) (o : Oper) (d : Nat), all[i]? = some o → done i = true → o.dst = some d → look fr d = some (V i)) ∧
    (∀ t, (∀ (i : Nat) (o : Oper), all[i]? = some o → o.dst ≠ some t) → look fr t = look (S 0).fr t)
structure Reg (E : Env) (all : List Oper) (bs : List Nat) (S : Nat → St) (V : Nat → AV) (D : Nat → Did) : Prop where
  data : zJ8 bs all = true
  bits : bs = zsK all []
  id : ∀ i, (D i).i = i
  step : ∀ i o, all[i]? = some o → zKC E all (S i) (S (i + 1)) o (V i) (D i)
  ok : ∀ i i', i < i' → i' < all.length → Ok bs (D i) (D i')
section
variable {all : List Oper} {bs : List Nat} {S : Nat → St} {V : Nat → AV} {D : Nat → Did} {done : Nat → Bool}
theorem Reg.chwr (g : Reg E all bs S V D) {i : Nat} (hi : i < all.length) (hc : (D i).ch = true) : (D i).wr = true := by
  obtain ⟨_, _, h⟩ := g.step i all[i] (List.getElem?_eq_getElem hi)
  rcases h with ⟨_, _, _, _, _, h⟩ | ⟨_, ⟨_, _, _, _, _, _, _, _, h, _⟩ | ⟨_, _, _, _, _, _, h, _⟩ | ⟨_, _, _, _, h, _⟩ | ⟨_, _, _, _, _, _, _, _, h, _⟩⟩
  · rw [h] at hc; cases hc
  · rw [h] at hc; cases hc
  · rw [h] at hc; cases hc
  · exact h
  · rw [h] at hc; cases hc
theorem Reg.quiet (g : Reg E all bs S V D) {i : Nat} (hi : i < all.length) (hq : (D i).wr = false) : (S (i + 1)).h = (S i).h := by
  obtain ⟨_, _, h⟩ := g.step i all[i] (List.getElem?_eq_getElem hi)
  rcases h with ⟨_, _, h, _⟩ | ⟨_, ⟨_, _, st', _, _, _, h1, h2, _⟩ | ⟨st', h1, h2, h3, _⟩ | ⟨_, _, _, _, h, _⟩ | ⟨_, _, z, _, _, h1, _, h2, _⟩⟩
  · exact h
  · rw [h2] at hq
    cases hs : st'.h with
    | nil => rw [h1, hs]; simp
    | cons x l => rw [hs] at hq; cases hq
  · rw [h3, zTE h1 h2]
  · rw [h] at hq; cases hq
  · rw [h2] at hq
    cases z with
    | nil => rw [h1]; simp
    | cons x l => cases hq
theorem Reg.grow (g : Reg E all bs S V D) {i : Nat} (hi : i < all.length) (hq : (D i).ch = false) : ∃ k, (S (i + 1)).h = (S i).h ++ k := by
  cases hw : (D i).wr with
  | false => exact ⟨[], by rw [g.quiet hi hw]; simp⟩
  | true =>
    obtain ⟨_, _, h⟩ := g.step i all[i] (List.getElem?_eq_getElem hi)
    rcases h with ⟨_, _, _, _, h, _⟩ | ⟨_, ⟨_, _, st', _, _, _, h1, h2, _⟩ | ⟨st', _, _, _, _, h, _⟩ | ⟨_, _, _, _, _, h, _⟩ | ⟨_, _, z, _, _, h1, _⟩⟩
    · rw [h] at hw; cases hw
    · exact ⟨_, h1⟩
    · rw [h] at hw; cases hw
    · rw [h] at hq; cases hq
    · exact ⟨_, h1⟩
theorem Reg.grows (g : Reg E all bs S V D) {j : Nat} : ∀ {c : Nat}, j ≤ c → c ≤ all.length → (∀ i, j ≤ i → i < c → (D i).ch = false) → ∃ k, (S c).h = (S j).h ++ k := by
  intro c
  induction c with
  | zero => intro h _ _; exact ⟨[], by rw [Nat.le_zero.1 h]; simp⟩
  | succ c ih =>
    intro h hl hq
    by_cases e : j = c + 1
    · exact ⟨[], by rw [e]; simp⟩
    · obtain ⟨k, hk⟩ := ih (by omega) (by omega) fun i h1 h2 => hq i h1 (by omega)
      obtain ⟨k', hk'⟩ := g.grow (i := c) (by omega) (hq c (by omega) (by omega))
      exact ⟨k ++ k', by rw [hk', hk, List.append_assoc]⟩
structure Next (all : List Oper) (bs : List Nat) (done : Nat → Bool) (j : Nat) : Prop where
  lt : j < all.length
  un : done j = false
  bef : ∀ i, Nat.testBit ((atN bs j).getD 0) i = true → done i = true
theorem Reg.pass (g : Reg E all bs S V D) (hd : ∀ j, j < all.length → done j = true → ∀ i, Nat.testBit ((atN bs j).getD 0) i = true → done i = true) {j : Nat} (hn : Next all bs done j) (hf : (D j).wr = true) {c e : Nat} {H : List Obj} (hh : Hol all.length S D done c e H) : c ≤ j ∧ j ≤ e := by
  constructor
  · rcases Nat.lt_or_ge j c with h | h
    · exfalso
      rcases hh.fst with h0 | ⟨h0, h1⟩
      · omega
      · have hlt : c - 1 < all.length := by have := hh.ce; have := hh.en; omega
        have hdn : done (c - 1) = true := (hh.chg _ hlt h1).2 (by omega)
        by_cases e1 : j = c - 1
        · subst e1; rw [hn.un] at hdn; cases hdn
        · rcases g.ok j (c - 1) (by omega) hlt with h2 | h2
          · rw [g.id, g.id] at h2
            have := hd _ hlt hdn j h2
            rw [hn.un] at this; cases this
          · have h3 := (h2.2 h1).1
            rw [h3] at hf; cases hf
    · exact h
  · rcases Nat.lt_or_ge e j with h | h
    · exfalso
      have hlt := hn.lt
      rcases hh.lst with h0 | h0
      · have := hh.en; omega
      · rcases g.ok e j h hlt with h2 | h2
        · rw [g.id, g.id] at h2
          have h3 := (hh.chg e (by omega) h0).1 (hn.bef _ h2)
          have := hh.ce
          omega
        · have h3 := (h2.1 h0).1
          rw [h3] at hf; cases hf
    · exact h
theorem Reg.growLen (g : Reg E all bs S V D) {c e : Nat} {H : List Obj} (hh : Hol all.length S D done c e H) {i j : Nat} (hc : c ≤ i) (hij : i ≤ j) (hj : j ≤ e) : ∃ k, (S j).h = (S i).h ++ k := by
  induction j with
  | zero => obtain rfl : i = 0 := by omega
            exact ⟨[], by simp⟩
  | succ j ih =>
    by_cases e1 : i = j + 1
    · subst e1; exact ⟨[], by simp⟩
    · obtain ⟨k, hk⟩ := ih (by omega) (by omega)
      obtain ⟨k', hk'⟩ := g.grow (i := j) (by have := hh.en; omega) (hh.quiet j (by omega) (by omega))
      exact ⟨k ++ k', by rw [hk', hk, List.append_assoc]⟩
theorem zoz {α : Type} {a b k : List α} (h : a = b ++ k) : b.length ≤ a.length := by rw [h]; simp
theorem Reg.sees (g : Reg E all bs S V D) {c e j : Nat} {H : List Obj} (hh : Hol all.length S D done c e H) (hcj : c ≤ j) (hje : j ≤ e) {x : Nat} {o : Obj} (ho : atN (S j).h x = some o) (hx : atN H x ≠ some .hole) : atN H x = some o := by
  obtain ⟨k, hk⟩ := g.growLen hh hcj hje (Nat.le_refl e)
  refine hh.own x o (by rw [hk]; exact zvX ho) fun i h1 h2 h3 h4 => ?_
  cases hd : done i with
  | true => rfl
  | false => exact absurd (hh.hol i h1 h2 hd x h3 h4) hx
theorem Reg.full (g : Reg E all bs S V D) {c e : Nat} {H : List Obj} (hh : Hol all.length S D done c e H) (hall : ∀ i, c ≤ i → i < e → (D i).wr = true → done i = true) : H = (S e).h := by
  apply List.ext_getElem?
  intro x
  cases hx : (S e).h[x]? with
  | none =>
    have : (S e).h.length ≤ x := by simpa using hx
    have hl := hh.len
    rw [List.getElem?_eq_none_iff]; omega
  | some o =>
    rw [← ql]
    rw [← ql] at hx
    refine hh.own x o hx fun i h1 h2 h3 h4 => ?_
    cases hw : (D i).wr with
    | true => exact hall i h1 h2 hw
    | false =>
      have := g.quiet (i := i) (by have := hh.en; omega) hw
      rw [this] at h4
      omega
theorem Reg.before (g : Reg E all bs S V D) {j : Nat} (hn : Next all bs done j) (hc : (D j).ch = true) {i : Nat} (hi : i < j) (hw : (D i).wr = true) : done i = true := by
  rcases g.ok i j hi hn.lt with h | h
  · rw [g.id, g.id] at h; exact hn.bef i h
  · have := (h.2 hc).1
    rw [this] at hw; cases hw
theorem apart_spec {o : Option (List Nat)} {k : List Nat} (h : apart o k = true) {x : Nat} (hx : x ∈ k) : ∃ l, o = some l ∧ x ∉ l := by
  cases o with
  | none => cases h
  | some l =>
    refine ⟨l, rfl, fun hl => ?_⟩
    have := List.all_eq_true.1 h x hx
    rw [zwa.2 hl] at this
    cases this
theorem Reg.keeps (g : Reg E all bs S V D) {i : Nat} (hi : i < all.length) {x : Nat} {o : Obj} (hx : atN (S i).h x = some o) (hc : (D i).ch = true → ∃ l, (D i).cg = some l ∧ x ∉ l) : atN (S (i + 1)).h x = some o := by
  cases hch : (D i).ch with
  | false =>
    obtain ⟨k, hk⟩ := g.grow hi hch
    rw [hk]; exact zvX hx
  | true =>
    obtain ⟨l, hl, hn⟩ := hc hch
    obtain ⟨_, _, h⟩ := g.step i all[i] (List.getElem?_eq_getElem hi)
    rcases h with ⟨_, _, _, _, _, h⟩ | ⟨_, ⟨_, _, _, _, _, _, _, _, h, _⟩ | ⟨_, _, _, _, _, _, h, _⟩ | ⟨st', hev, hh, _, _, _, hcg⟩ | ⟨_, _, _, _, _, _, _, _, h, _⟩⟩
    · rw [h] at hch; cases hch
    · rw [h] at hch; cases hch
    · rw [h] at hch; cases hch
    · rw [hl] at hcg
      rw [hh]
      exact zWE hcg.symm hev hx hn
    · rw [h] at hch; cases hch
theorem Reg.looks (g : Reg E all bs S V D) (hd : ∀ j, j < all.length → done j = true → ∀ i, Nat.testBit ((atN bs j).getD 0) i = true → done i = true) {j : Nat} (hn : Next all bs done j) (hr : (D j).rd = true) {c e : Nat} {H : List Obj} (hh : Hol all.length S D done c e H) {x : Nat} {o o' : Obj}
    (hx : x ∈ (D j).lk) (ho : atN (S j).h x = some o) (hH : atN H x = some o') (hne : o' ≠ .hole) : atN H x = some o := by
  have hne' : atN H x ≠ some .hole := by rw [hH]; intro e; cases e; exact hne rfl
  have hlt := hn.lt
  rcases Nat.lt_or_ge j c with h1 | h1
  ·
    have key : ∀ i, j ≤ i → i ≤ c → atN (S i).h x = some o := by
      intro i
      induction i with
      | zero => intro h2 _; obtain rfl : j = 0 := by omega
                exact ho
      | succ i ih =>
        intro h2 h3
        by_cases e1 : j = i + 1
        · rw [← e1]; exact ho
        · refine g.keeps (by have := hh.ce; have := hh.en; omega) (ih (by omega) (by omega)) fun hch => ?_
          have hil : i < all.length := by have := hh.ce; have := hh.en; omega
          have hdi : done i = true := (hh.chg i hil hch).2 (by omega)
          have hne2 : j ≠ i := fun e2 => by subst e2; rw [hn.un] at hdi; cases hdi
          rcases g.ok j i (by omega) hil with h4 | h4
          · rw [g.id, g.id] at h4
            have := hd i hil hdi j h4
            rw [hn.un] at this; cases this
          · exact apart_spec ((h4.2 hch).2 hr) hx
    exact g.sees hh (Nat.le_refl c) hh.ce (key c (by omega) (Nat.le_refl c)) hne'
  · rcases Nat.lt_or_ge e j with h2 | h2
    ·
      have hxe : x < (S e).h.length := by rw [← hh.len]; exact va hH
      obtain ⟨u, hu⟩ : ∃ u, atN (S e).h x = some u := ⟨(S e).h[x], by rw [ql, List.getElem?_eq_getElem hxe]⟩
      have key : ∀ i, e ≤ i → i ≤ j → atN (S i).h x = some u := by
        intro i
        induction i with
        | zero => intro h3 _; obtain rfl : e = 0 := by omega
                  exact hu
        | succ i ih =>
          intro h3 h4
          by_cases e1 : e = i + 1
          · rw [← e1]; exact hu
          · refine g.keeps (by omega) (ih (by omega) (by omega)) fun hch => ?_
            have hil : i < all.length := by omega
            rcases g.ok i j (by omega) hlt with h5 | h5
            · rw [g.id, g.id] at h5
              have h6 := (hh.chg i hil hch).1 (hn.bef i h5)
              have := hh.ce
              omega
            · exact apart_spec ((h5.1 hch).2 hr) hx
      have h3 := key j (by omega) (Nat.le_refl j)
      rw [ho] at h3
      cases h3
      exact g.sees hh hh.ce (Nat.le_refl e) hu hne'
    · exact g.sees hh h1 h2 ho hne'
theorem zWG (D : Nat → Did) (n : Nat) : ∀ k c, c + k = n → ∃ e, c ≤ e ∧ e ≤ n ∧ (∀ i, c ≤ i → i < e → (D i).ch = false) ∧ (e = n ∨ (D e).ch = true) := by
  intro k
  induction k with
  | zero => intro c h; exact ⟨c, Nat.le_refl c, by omega, fun i h1 h2 => by omega, .inl (by omega)⟩
  | succ k ih =>
    intro c h
    cases hc : (D c).ch with
    | true => exact ⟨c, Nat.le_refl c, by omega, fun i h1 h2 => by omega, .inr hc⟩
    | false =>
      obtain ⟨e, h1, h2, h3, h4⟩ := ih (c + 1) (by omega)
      refine ⟨e, by omega, h2, fun i h5 h6 => ?_, h4⟩
      by_cases e1 : i = c
      · subst e1; exact hc
      · exact h3 i (by omega) h6
theorem Reg.open (g : Reg E all bs S V D) {c : Nat} (hcn : c ≤ all.length) (hfst : c = 0 ∨ (0 < c ∧ (D (c - 1)).ch = true)) (hchg : ∀ i, i < all.length → (D i).ch = true → (done i = true ↔ i < c)) (hund : ∀ i, c ≤ i → i < all.length → (D i).wr = true → done i = false) :
    ∃ e n, Hol all.length S D done c e ((S c).h ++ List.replicate n .hole) := by
  obtain ⟨e, h1, h2, h3, h4⟩ := zWG D all.length (all.length - c) c (by omega)
  have grow : ∀ j, c ≤ j → j ≤ e → ∃ k, (S j).h = (S c).h ++ k := fun j hj hje => g.grows hj (by omega) fun i h5 h6 => h3 i h5 (by omega)
  obtain ⟨k, hk⟩ := grow e h1 (Nat.le_refl e)
  have hlenc : ∀ i, c ≤ i → i < e → (S c).h.length ≤ (S i).h.length := fun i h5 h6 => zoz (grow i h5 (by omega)).choose_spec
  have hlene : ∀ i, c ≤ i → i < e → (S (i + 1)).h.length ≤ (S e).h.length := fun i h5 h6 => by
    obtain ⟨k', hk'⟩ := g.grows (j := i + 1) (c := e) (by omega) (by omega) fun i' h7 h8 => h3 i' (by omega) h8
    exact zoz hk'
  refine ⟨e, k.length, h1, h2, hchg, h3, hfst, h4, by rw [hk]; simp, fun i h5 h6 h7 x h8 h9 => ?_, fun x o ho hall => ?_⟩
  · have := hlenc i h5 h6
    have := hlene i h5 h6
    rw [hk] at this
    simp only [List.length_append] at this
    rw [ql, List.getElem?_append_right (by omega), List.getElem?_replicate, if_pos (by omega)]
  · by_cases hx : x < (S c).h.length
    · rw [zao hx]
      rw [hk, zao hx] at ho
      exact ho
    · exfalso
      have hxe := va ho
      have key : ∀ j, c ≤ j → j ≤ e → x < (S j).h.length → ∃ i, c ≤ i ∧ i < e ∧ (S i).h.length ≤ x ∧ x < (S (i + 1)).h.length := by
        intro j
        induction j with
        | zero => intro h5 _ h6; obtain rfl : c = 0 := by omega
                  exact absurd h6 hx
        | succ j ih =>
          intro h5 h6 h7
          by_cases e1 : c = j + 1
          · rw [← e1] at h7; exact absurd h7 hx
          · by_cases h8 : x < (S j).h.length
            · exact ih (by omega) (by omega) h8
            · exact ⟨j, by omega, by omega, by omega, h7⟩
      obtain ⟨i, h5, h6, h7, h8⟩ := key e h1 (Nat.le_refl e) hxe
      have hdi := hall i h5 h6 h7 h8
      cases hw : (D i).wr with
      | true => rw [hund i h5 (by omega) hw] at hdi; cases hdi
      | false =>
        have := g.quiet (i := i) (by omega) hw
        rw [this] at h8
        omega
theorem Reg.slots (g : Reg E all bs S V D) : ∀ {j : Nat}, j ≤ all.length →
    (∀ (i : Nat) (o : Oper) (d : Nat), all[i]? = some o → i < j → o.dst = some d → look (S j).fr d = some (V i)) ∧
    (∀ t, (∀ (i : Nat) (o : Oper), all[i]? = some o → i < j → o.dst ≠ some t) → look (S j).fr t = look (S 0).fr t) := by
  intro j
  induction j with
  | zero => intro _; exact ⟨fun i o d _ h => by omega, fun t _ => rfl⟩
  | succ j ih =>
    intro hj
    obtain ⟨h1, h2⟩ := ih (by omega)
    have hget := List.getElem?_eq_getElem (show j < all.length by omega)
    obtain ⟨_, hf, _⟩ := g.step j _ hget
    have hfr : ∀ t, look (S (j + 1)).fr t = if all[j].dst = some t then some (V j) else look (S j).fr t := by
      intro t
      rw [hf]
      cases hd : all[j].dst with
      | none => simp [St.put]
      | some d => simp [St.put, zv5]
    have hdist := (zsM g.data hget).1
    constructor
    · intro i o d hi hij hd
      rw [hfr]
      by_cases e : i = j
      · subst e
        rw [hget] at hi
        cases hi
        rw [if_pos hd]
      · rw [if_neg ?_]
        · exact h1 i o d hi (by omega) hd
        · have := (zoy hdist i o d hi hd).1
          rw [Nat.zero_add] at this
          exact this.resolve_left e
    · intro t ht
      rw [hfr, if_neg (ht j _ hget (by omega))]
      exact h2 t fun i o hi hij => ht i o hi (by omega)
end
end
end Go.Ev
end
section
namespace Go.Ev
open Go.RowKit
set_option linter.unusedSimpArgs false
set_option linter.unusedVariables false
section
variable {P : Program} {nt : Nat} {F0 G : FH} {w0 : World} {E : Env} {R : Type} {bs : List Nat} {S : Nat → St} {V : Nat → AV} {D : Nat → Did} {done : Nat → Bool} {ops : Array Oper} {Q : Exit → Act → World → Prop}
def add (done : Nat → Bool) (j : Nat) : Nat → Bool := fun i => if i = j then true else done i
theorem zBP {i j : Nat} : add done j i = true ↔ done i = true ∨ i = j := by
  unfold add
  by_cases e : i = j
  · simp [e]
  · simp [e]
theorem put_eq (fr : List (Nat × AV)) (h : List Obj) (dst : Option Tmp) (v : AV) : (⟨fr, h⟩ : St).put dst v = ⟨((⟨fr, h⟩ : St).put dst v).fr, h⟩ := by cases dst <;> rfl
theorem Reg.filled (g : Reg E ops.toList bs S V D) (hd : ∀ j, j < ops.toList.length → done j = true → ∀ i, Nat.testBit ((atN bs j).getD 0) i = true → done i = true) {j c e : Nat} {H z : List Obj} (hn : Next ops.toList bs done j) (hh : Hol ops.toList.length S D done c e H)
    (hf : (D j).wr = true) (hch : (D j).ch = false) (hz : (S (j + 1)).h = (S j).h ++ z) :
    ∃ H2 : List Obj, H2.length = H.length ∧ (∀ i o, atN z i = some o → atN H ((S j).h.length + i) = some .hole ∧ atN H2 ((S j).h.length + i) = some o) ∧
      (∀ i, ¬((S j).h.length ≤ i ∧ i < (S j).h.length + z.length) → atN H2 i = atN H i) ∧ Hol ops.toList.length S D (add done j) c e H2 := by
  obtain ⟨hcj, hje⟩ := g.pass hd hn hf hh
  have hlt := hn.lt
  have hjlt : j < e := by
    rcases Nat.lt_or_ge j e with h | h
    · exact h
    · obtain rfl : j = e := by omega
      rcases hh.lst with h0 | h0
      · omega
      · rw [hch] at h0; cases h0
  have adn : ∀ {i}, i ≠ j → add done j i = done i := fun {i} hi => by unfold add; rw [if_neg hi]
  have hlen1 : (S (j + 1)).h.length = (S j).h.length + z.length := by rw [hz]; simp
  obtain ⟨k, hk⟩ := g.growLen hh (i := j + 1) (j := e) (by omega) (by omega) (Nat.le_refl e)
  have hLe : (S j).h.length + z.length ≤ H.length := by rw [hh.len, ← hlen1]; exact zoz hk
  have hholes : ∀ i, i < z.length → atN H ((S j).h.length + i) = some .hole := fun i hi => hh.hol j hcj hjlt hn.un _ (by omega) (by omega)
  let H2 : List Obj := H.take (S j).h.length ++ z ++ H.drop ((S j).h.length + z.length)
  have hH2len : H2.length = H.length := by simp [H2]; omega
  have hH2in : ∀ i o', atN z i = some o' → atN H2 ((S j).h.length + i) = some o' := by
    intro i o' ho'
    have hil := va ho'
    simp only [H2]
    rw [ql, List.append_assoc, List.getElem?_append_right (by simp; omega), List.length_take, Nat.min_eq_left (by omega), Nat.add_sub_cancel_left, List.getElem?_append_left hil, ← ql, ho']
  have hH2out : ∀ i, ¬((S j).h.length ≤ i ∧ i < (S j).h.length + z.length) → atN H2 i = atN H i := by
    intro i hi
    simp only [H2]
    rw [ql, ql, List.append_assoc]
    by_cases h5 : i < (S j).h.length
    · rw [List.getElem?_append_left (by simp; omega), List.getElem?_take, if_pos h5]
    · rw [List.getElem?_append_right (by simp; omega), List.length_take, Nat.min_eq_left (by omega), List.getElem?_append_right (by omega), List.getElem?_drop]
      congr 1
      omega
  refine ⟨H2, hH2len, fun i o' ho' => ⟨hholes i (va ho'), hH2in i o' ho'⟩, hH2out, ?_⟩
  have disj : ∀ i, c ≤ i → i < e → i ≠ j → ∀ x, (S i).h.length ≤ x → x < (S (i + 1)).h.length → ¬((S j).h.length ≤ x ∧ x < (S j).h.length + z.length) := by
    intro i h5 h6 hne x h7 h8 h9
    rcases Nat.lt_or_gt_of_ne hne with h10 | h10
    · obtain ⟨k', hk'⟩ := g.growLen hh (i := i + 1) (j := j) (by omega) (by omega) (by omega)
      have := zoz hk'
      omega
    · obtain ⟨k', hk'⟩ := g.growLen hh (i := j + 1) (j := i) (by omega) (by omega) (by omega)
      have := zoz hk'
      omega
  refine ⟨hh.ce, hh.en, fun i hi hci => ?_, hh.quiet, hh.fst, hh.lst, by rw [hH2len]; exact hh.len, fun i h5 h6 h7 x h8 h9 => ?_, fun x o' ho' hall => ?_⟩
  · have hne : i ≠ j := by rintro rfl; rw [hch] at hci; cases hci
    rw [adn hne]; exact hh.chg i hi hci
  · have hne : i ≠ j := by
      rintro rfl
      rw [zBP.2 (.inr rfl)] at h7; cases h7
    rw [adn hne] at h7
    rw [hH2out x (disj i h5 h6 hne x h8 h9)]
    exact hh.hol i h5 h6 h7 x h8 h9
  · by_cases hx : (S j).h.length ≤ x ∧ x < (S j).h.length + z.length
    · obtain ⟨i, rfl⟩ : ∃ i, x = (S j).h.length + i := ⟨x - (S j).h.length, by omega⟩
      have hil : i < z.length := by omega
      have hoi : atN z i = some z[i] := by rw [ql, List.getElem?_eq_getElem hil]
      rw [hH2in i _ hoi, ← ho', hk, hz, List.append_assoc, ql, List.getElem?_append_right (by omega), Nat.add_sub_cancel_left, List.getElem?_append_left hil, ← ql, hoi]
    · rw [hH2out x hx]
      refine hh.own x o' ho' fun i h5 h6 h7 h8 => ?_
      have h9 := hall i h5 h6 h7 h8
      by_cases hne : i = j
      · subst hne
        exact absurd ⟨h7, by omega⟩ hx
      · rw [adn hne] at h9; exact h9
theorem zFJ {h h2 : List Obj} {fr : List (Nat × AV)} {a : Ty} : ∀ {ps : List (Nat × Option AV)} {vs vs' : List AV}, zMo h a vs ps = some vs' → (∀ i j, (i, some (AV.ow j)) ∈ ps → ∀ o, atN h j = some o → atN h2 j = some o) → zca false a vs ps ⟨fr, h2⟩ = some (vs', ⟨fr, h2⟩)
  | [], vs, vs', hb, _ => by cases hb; rfl
  | (i, none) :: ps, vs, vs', hb, _ => by cases hb
  | (i, some v) :: ps, vs, vs', hb, hs => by
    cases v with
    | ow j =>
      simp only [zMo] at hb
      obtain ⟨h1, h2'⟩ := zd hb
      have hr : rowIs h2 a i j = true := by
        unfold rowIs at h1 ⊢
        cases hT : zda h j with
        | none => rw [hT] at h1; cases h1
        | some σ =>
          rw [hT] at h1
          obtain ⟨o, ho, hl⟩ := zHf.1 hT
          rw [zHf.2 ⟨o, hs i j (by simp) o ho, hl⟩]
          exact h1
      simp only [zca, hr, cond_true]
      exact zFJ h2' fun i' j' hm => hs i' j' (by simp [hm])
    | dat σ y =>
      simp only [zMo] at hb
      obtain ⟨h1, h2'⟩ := zd hb
      simp only [zca, frz, jW, h1, cond_true]
      exact zFJ h2' fun i' j' hm => hs i' j' (by simp [hm])
    | _ => cases hb
theorem zIG {st : St} {o : Oper} {t x : Nat} {v : AV} (ht : t ∈ zhG o) (hv : look st.fr t = some v) (hx : x ∈ v.ids) : x ∈ zox st o := by
  unfold zox
  exact List.mem_flatMap.2 ⟨t, ht, by rw [hv]; exact hx⟩
theorem zVU {v : AV} {i : Nat} (h : v.has1 i = true) : i ∈ v.ids1 := by
  cases v <;> first | (cases h; done) | (have := Nat.eq_of_beq_eq_true h; subst this; simp [AV.ids1])
theorem zST {v : AV} {i : Nat} (ht : ∀ vs, v ≠ .tup vs) (h : v.has i = true) : i ∈ v.ids := by
  cases v with
  | fld a vs =>
    simp only [AV.has, List.any_eq_true] at h
    obtain ⟨x, hx, hxi⟩ := h
    exact List.mem_flatMap.2 ⟨x, hx, zVU hxi⟩
  | tup vs => exact absurd rfl (ht vs)
  | _ => first | (cases h; done) | (have := Nat.eq_of_beq_eq_true h; subst this; simp [AV.ids, AV.ids1])
theorem zVV {v : AV} {i : Nat} (h : v.has1 i = true) : v.has i = true := by
  cases v <;> first | exact h | cases h
theorem zIb {θ : Option Ty} {c : Value} {v : AV} {i : Nat} (h : zBJ θ c = some v) : v.has1 i = false := by
  unfold zBJ at h
  (repeat' split at h) <;> first | (cases h; rfl) | cases h
theorem Reg.go (hE : zQ P G E) (hG : G.le F0) (hnt : E.nt = nt) (g : Reg E ops.toList bs S V D) {a : Act} {w : World} (hm : Mid P nt F0 w0 ops.toList bs S V D done a w) {j : Nat} (hn : Next ops.toList bs done j)
    {K : Act → World → Prop} (hK : ∀ a' w', Mid P nt F0 w0 ops.toList bs S V D (add done j) a' w' → K a' w') : wpOp P ops Q j K a w := by
  obtain ⟨hd, c, e, H, hh, fr, m, F, hrel, hV, hO⟩ := hm
  have hlt := hn.lt
  have hget : ops.toList[j]? = some ops.toList[j] := List.getElem?_eq_getElem hlt
  generalize ho : ops.toList[j] = o at hget
  have hgo : ops[j]? = some o := by rw [← Array.getElem?_toList]; exact hget
  obtain ⟨hs1, hs2⟩ := g.slots (j := j) (by omega)
  obtain ⟨hdata, hguard, _⟩ := zsM g.data hget
  have hag : ∀ t, t ∈ zhG o → look fr t = look (S j).fr t := by
    intro t ht
    by_cases hex : ∃ (i : Nat) (o' : Oper), ops.toList[i]? = some o' ∧ o'.dst = some t
    · obtain ⟨i, o', hi, hdt⟩ := hex
      have := (zoy hdata i o' t hi hdt).2 ht
      rw [Nat.zero_add] at this
      rw [hV i o' t hi (hn.bef i this.1) hdt, hs1 i o' t hi this.2 hdt]
    · have hno : ∀ (i : Nat) (o' : Oper), ops.toList[i]? = some o' → o'.dst ≠ some t := fun i o' hi hdt => hex ⟨i, o', hi, hdt⟩
      rw [hO t hno, hs2 t fun i o' hi _ => hno i o' hi]
  have hag' : ∀ t, Operand.tmp t ∈ o.op.operands → look fr t = look (S j).fr t := fun t ht => hag t (zDe.2 ht)
  have hgv : zi7 ops.toList fr o = zi7 ops.toList (S j).fr o := by
    unfold zi7
    cases hgd : o.guard with
    | none => rfl
    | some gw =>
      obtain ⟨gi, want⟩ := gw
      simp only
      obtain ⟨hb, hlt'⟩ := hguard gi want hgd
      have : (zzb ops.toList gi).bind (look fr) = (zzb ops.toList gi).bind (look (S j).fr) := by
        cases hdo : zzb ops.toList gi with
        | none => rfl
        | some d =>
          simp only [Option.bind_some]
          unfold zzb at hdo
          rw [ql] at hdo
          obtain ⟨o', ho', hdt⟩ := Option.bind_eq_some_iff.1 hdo
          rw [hV gi o' d ho' (hn.bef gi hb) hdt, hs1 gi o' d ho' hlt' hdt]
      rw [this]
  obtain ⟨hdst, _, hstep⟩ := g.step j o hget
  have hd' : ∀ d, o.dst = some d → d < nt := fun d h => hnt ▸ zKB hdst d h
  have fin : ∀ (c' e' : Nat) (H' : List Obj) (a' : Act) (w' : World) (m' : MM) (F' : FH), Hol ops.toList.length S D (add done j) c' e' H' →
      Rel P nt F0 w0 ((⟨fr, H'⟩ : St).put o.dst (V j)) m' F' a' w' → Mid P nt F0 w0 ops.toList bs S V D (add done j) a' w' := by
    intro c' e' H' a' w' m' F' hh' hr
    refine ⟨fun j' hj' hdj i hb => ?_, c', e', H', hh', _, m', F', (by rw [put_eq] at hr; exact hr), ?_, ?_⟩
    · rw [zBP] at hdj ⊢
      rcases hdj with hdj | rfl
      · exact .inl (hd j' hj' hdj i hb)
      · exact .inl (hn.bef i hb)
    · intro i o' d hi hdi hdt
      have hl : ∀ t, look ((⟨fr, H'⟩ : St).put o.dst (V j)).fr t = if o.dst = some t then some (V j) else look fr t := by
        intro t
        cases hd : o.dst with
        | none => simp [St.put]
        | some d => simp [St.put, zv5]
      rw [hl]
      by_cases e : o.dst = some d
      · rw [if_pos e]
        have := (zoy hdata i o' d hi hdt).1
        rw [Nat.zero_add] at this
        rcases this with rfl | this
        · rfl
        · exact absurd e this
      · rw [if_neg e]
        rw [zBP] at hdi
        rcases hdi with hdi | rfl
        · exact hV i o' d hi hdi hdt
        · rw [hget] at hi; cases hi; exact absurd hdt e
    · intro t ht
      have := ht j o hget
      rw [← hO t ht]
      cases hd : o.dst with
      | none => rfl
      | some d =>
        simp only [St.put, zv5]
        rw [if_neg]
        rintro rfl
        exact this hd
  have adn : ∀ {i}, i ≠ j → add done j i = done i := fun {i} hi => by unfold add; rw [if_neg hi]
  have stay : (D j).wr = false → Hol ops.toList.length S D (add done j) c e H := by
    intro hf
    have hch : (D j).ch = false := by
      cases hc : (D j).ch with
      | false => rfl
      | true => rw [g.chwr hlt hc] at hf; cases hf
    refine ⟨hh.ce, hh.en, fun i hi hci => ?_, hh.quiet, hh.fst, hh.lst, hh.len, fun i h1 h2 h3 x h4 h5 => ?_, fun x o' ho' hall => hh.own x o' ho' fun i h1 h2 h3 h4 => ?_⟩
    · have hne : i ≠ j := by rintro rfl; rw [hch] at hci; cases hci
      rw [adn hne]; exact hh.chg i hi hci
    · have hne : i ≠ j := by
        rintro rfl
        rw [zBP.2 (.inr rfl)] at h3; cases h3
      rw [adn hne] at h3
      exact hh.hol i h1 h2 h3 x h4 h5
    · have h5 := hall i h1 h2 h3 h4
      by_cases hne : i = j
      · subst hne
        have := g.quiet hlt hf
        rw [this] at h4
        omega
      · rw [adn hne] at h5; exact h5
  unfold wpOp
  simp only [hgo]
  rcases hstep with ⟨hg, hVj, hh, h1, h2, h3⟩ | ⟨hg, hstep⟩
  · have hwant := zv9 hrel (o := o) (ops := ops) (b := false) (by rw [← hg]; exact hgv)
    rw [hwant]
    simp only [Bool.false_eq_true, if_false]
    refine hK _ _ (fin c e H _ _ m F (stay h2) ?_)
    exact Rel.put hrel hd' (by rw [hVj]; exact yN)
  · have hwant := zv9 hrel (o := o) (ops := ops) (b := true) (by rw [← hg]; exact hgv)
    rw [hwant]
    simp only [if_true]
    left
    rcases hstep with ⟨fr', v0, st', hres, hev, hVj, hh1, h2, h3, hlk⟩ | ⟨st', hst, hev, hh1, h1, h2, h3, hlk⟩ | ⟨st', hev, hh1, h1, h2, h3, _⟩ | ⟨b, vs', z, hbld, hVj, hh1, h1, h2, h3, hlk⟩
    · have hsp := zDf hres
      have hf : ∀ t v, look fr' t = some v → v.pure = true ∧ zf P H m F v (a.tmps.getD t undef) := by
        intro t v ht
        obtain ⟨h4, v1, h5, h6, h7, h8⟩ := hsp t v ht
        refine ⟨h8 rfl, ?_⟩
        have hr1 := hrel.fr t v1 (by simp only; rw [hag t h4]; exact h5)
        simp only at hr1
        cases hrd : (D j).rd with
        | false => rw [h7 hrd]; exact hr1
        | true =>
          rw [h6]
          cases v1 with
          | tup vs =>
            have e : (zi8 (S j).h (.tup vs)).1 = .tup vs := by
              unfold zi8
              cases (AV.tup vs).pure <;> rfl
            rw [e]; exact hr1
          | _ =>
            refine zTD hrel (fun i hi o' ho' => ?_) hr1
            rw [zf.eq1 (by intro vs e; cases e)] at hr1
            obtain ⟨u, hu, hne⟩ := hr1.real hi
            exact g.looks hd hn hrd hh (by rw [hlk]; exact zIG h4 h5 (zST (by intro vs e; cases e) hi)) ho' hu hne
      have hstart := hrel.start hf
      refine zIB hE (hG.trans hrel.gro.1) hstart hev _ _ ?_
      rintro u w' ⟨m', F', hle, hrel', hv⟩
      cases hwr : (D j).wr with
      | true =>
        obtain ⟨H2, hH2len, hsz, hH2out, hhol⟩ := g.filled hd hn hh hwr h3 hh1
        have hs : ∀ i o', atN st'.h i = some o' → atN H ((S j).h.length + i) = some .hole ∧ atN H2 ((S j).h.length + i) = some (o'.rn ((S j).h.length + ·)) := fun i o' ho' => by
          have := hsz i (o'.sh (S j).h.length) (by rw [ql, List.getElem?_map, ← ql, ho']; rfl)
          exact ⟨this.1, by rw [this.2, Obj.sh_rn]⟩
        rw [List.length_map] at hH2out
        have hfill := hrel.fill hrel' hH2len hs hH2out
        exact hK _ _ (fin c e H2 _ _ _ F' hhol (Rel.put hfill hd' (by rw [hVj]; exact hv.fill fun i o' ho' => (hs i o' ho').2)))
      | false =>
        have hcat := hrel.cat hrel' hle
        rw [hwr] at h2
        have hnil : st'.h = [] := by
          cases hs : st'.h with
          | nil => rfl
          | cons x l => rw [hs] at h2; cases h2
        rw [hnil] at hcat hv
        simp only [List.map_nil, List.append_nil] at hcat
        refine hK _ _ (fin c e H _ _ (m.cat H.length m') F' (stay hwr) ?_)
        refine Rel.put hcat hd' ?_
        rw [hVj]
        exact hv.nowhere
    · have h4 := zP6 hev hag'
      have h5 := zN6 (k := H) hst (fun x θ v hx hrdv i hi o' ho' => by
        have hrdv' : rd E ⟨fr, H⟩ θ x = some v := by rw [← hrdv]; cases x <;> rfl
        have hr1 := zv hE hG hrel hrdv'
        have hrdS : rd E (S j) θ x = some v := by
          rw [← hrdv']
          cases x with
          | tmp t => exact (hag' t hx).symm
          | _ => rfl
        cases v with
        | tup vs => cases hi
        | _ =>
          first | (cases hi; done) | (
            rw [zf.eq1 (by intro vs e; cases e)] at hr1
            have hi' := zVV hi
            obtain ⟨u, hu, hne⟩ := hr1.real hi'
            refine g.looks hd hn h1 hh ?_ ho' hu hne
            rw [hlk]
            cases x with
            | tmp t => exact zIG (zDe.2 hx) hrdS (zST (by intro vs e; cases e) hi')
            | const c => exact absurd hi (by rw [zIb hrdS]; simp)
            | global gl => exact absurd hi (by obtain ⟨_, _, _, e, _⟩ := hE.glob gl _ hrdS; cases e <;> simp [AV.has1])
            | func f => (simp only [rd, Option.map_eq_some_iff] at hrdS; obtain ⟨_, _, e⟩ := hrdS; cases e))) h4
      have h6 : more H (sw fr (S j)) = ⟨fr, H⟩ := rfl
      rw [h6] at h5
      obtain ⟨_, u, h7, h8⟩ := zTA hE hG hrel hst h5
      refine qs.val (R := fun u' w' => u' = u ∧ w' = w) h7 ⟨rfl, rfl⟩ _ _ ?_
      rintro u' w' ⟨rfl, rfl⟩
      exact hK _ _ (fin c e H _ _ m F (stay h2) (Rel.put hrel hd' h8))
    · obtain ⟨hcj, hje⟩ := g.pass hd hn h2 hh
      have hje' : j = e := by
        rcases Nat.lt_or_ge j e with h | h
        · have := hh.quiet j hcj h
          rw [h3] at this; cases this
        · omega
      subst hje'
      have hfull := g.full hh fun i h5 h6 h7 => g.before hn h3 h6 h7
      have h4 := zP6 hev hag'
      have h6 : sw fr (S j) = ⟨fr, H⟩ := by unfold sw; rw [hfull]
      rw [h6] at h4
      refine zIB hE hG hrel h4 _ _ ?_
      rintro u w' ⟨m', F', hle, hrel', hv⟩
      have hchg' : ∀ i, i < ops.toList.length → (D i).ch = true → (add done j i = true ↔ i < j + 1) := by
        intro i hi hci
        by_cases hne : i = j
        · subst hne
          exact ⟨fun _ => by omega, fun _ => zBP.2 (.inr rfl)⟩
        · rw [adn hne, hh.chg i hi hci]
          constructor
          · intro h; have := hh.ce; omega
          · intro h
            rcases Nat.lt_or_ge i c with h5 | h5
            · exact h5
            · have := hh.quiet i h5 (by omega)
              rw [hci] at this; cases this
      have hund : ∀ i, j + 1 ≤ i → i < ops.toList.length → (D i).wr = true → add done j i = false := by
        intro i h5 h6 h7
        rw [adn (by omega)]
        cases hdi : done i with
        | false => rfl
        | true =>
          rcases g.ok j i (by omega) h6 with h8 | h8
          · rw [g.id, g.id] at h8
            have := hd i h6 hdi j h8
            rw [hn.un] at this; cases this
          · have := (h8.1 h3).1
            rw [this] at h7; cases h7
      obtain ⟨e', n, hh'⟩ := g.open (done := add done j) (c := j + 1) (by omega) (.inr ⟨by omega, h3⟩) hchg' hund
      refine hK _ _ (fin (j + 1) e' _ _ _ m' F' hh' ?_)
      have hrel2 : Rel P nt F0 w0 ⟨fr, (S (j + 1)).h⟩ m' F' a w' := by rw [hh1]; exact hrel'
      refine Rel.put (hrel2.holes n) hd' ?_
      refine zf.keep (h := (sw fr st').h) (m := m') (fun i o' ho' _ => ⟨?_, rfl, rfl⟩) hv
      simp only
      rw [hh1]
      exact zvX ho'
    ·
      obtain ⟨H2, hH2len, hsz, hH2out, hhol⟩ : ∃ H2 : List Obj, H2.length = H.length ∧ (∀ i o, atN z i = some o → atN H ((S j).h.length + i) = some .hole ∧ atN H2 ((S j).h.length + i) = some o) ∧
          (∀ i, ¬((S j).h.length ≤ i ∧ i < (S j).h.length + z.length) → atN H2 i = atN H i) ∧ Hol ops.toList.length S D (add done j) c e H2 := by
        cases hwr : (D j).wr with
        | true => exact g.filled hd hn hh hwr h3 hh1
        | false =>
          rw [hwr] at h2
          have hnil : z = [] := by
            cases z with
            | nil => rfl
            | cons x l => cases h2
          subst hnil
          exact ⟨H, rfl, fun i o ho => by simp [atN] at ho, fun i _ => rfl, stay hwr⟩
      obtain ⟨dst, op, ty, pos, after, guard⟩ := o
      simp only at hbld hd' hag'
      cases op with
      | build t ps =>
        simp only [zPA] at hbld
        split at hbld
        · rename_i τ hτ
          split at hbld
          · rename_i a0 hsel
            split at hbld
            · rename_i vs1 hb
              simp only [Option.some.injEq, Prod.mk.injEq] at hbld
              obtain ⟨rfl, rfl, rfl⟩ := hbld
              have hτb : τ = .st a0 := by
                unfold zS4 at hsel
                split at hsel
                · obtain ⟨_, hsel⟩ := zd hsel
                  cases hsel; rfl
                · cases hsel
              subst hτb
              have hty := hE.types t _ hτ
              obtain ⟨i, z, g1, g2, g3, g4⟩ := zIz (hty.head (by intro a b e; cases e))
              obtain ⟨fs, f1, f2, _⟩ := hty.st
              obtain ⟨places, hpl1, hpl2⟩ := run_places (w := w) f2
              have hstart := hrel.start (fr' := []) (fun t v ht => by simp [look] at ht)
              obtain ⟨cz, k1, k2, k3, k4⟩ := zDb (st := ⟨[], []⟩) hty.chn (zVP [] a0) (show zcB a0 z.cells.toList = some [] from g3) hstart
              rw [List.append_nil] at k1
              have hagg : ∃ zc, z = .agg zc := by
                have : zhH z = true := g4
                cases z <;> first | exact ⟨_, rfl⟩ | cases this
              obtain ⟨zc, rfl⟩ := hagg
              have hs : ∀ i o', atN (yd [] a0).2 i = some o' → atN H ((S j).h.length + i) = some .hole ∧ atN H2 ((S j).h.length + i) = some (o'.rn ((S j).h.length + ·)) := fun i o' ho' => by
                have := hsz i (o'.sh (S j).h.length) (by rw [ql, List.getElem?_map, ← ql, ho']; rfl)
                exact ⟨this.1, by rw [this.2, Obj.sh_rn]⟩
              rw [List.length_map] at hH2out
              have hfill := hrel.fill k2 hH2len hs hH2out
              have hfs : qa P H2 (m.fill (S j).h.length (yd [] a0).2.length .emp) F a0 ((yd [] a0).1.map (AV.sh1 (S j).h.length)) cz := by
                have := qa.rn (ρ := ((S j).h.length + ·)) (h2 := H2) (m2 := m.fill (S j).h.length (yd [] a0).2.length .emp) (fun v _ i _ o ho => ⟨(hs i o ho).2, MM.fill_f2 _ _ (va ho), MM.fill_d2 _ _ (va ho)⟩) k4
                rwa [List.map_congr_left fun x _ => (AV.sh1_rn (S j).h.length x).symm] at this
              have hrdS : ∀ θ x, x ∈ (Op.build t ps).operands → rd E (S j) θ x = rd E ⟨fr, H2⟩ θ x := fun θ x hx => by
                cases x with
                | tmp t => exact (hag' t hx).symm
                | _ => rfl
              have hmapS : (ps.toList.map fun p => (p.1, rd E (S j) (zgK a0 p.1) p.2)) = ps.toList.map fun p => (p.1, rd E ⟨fr, H2⟩ (zgK a0 p.1) p.2) := by
                refine List.map_congr_left fun p hp => ?_
                rw [hrdS _ _ (by simp only [Op.operands]; exact List.mem_toArray.2 (List.mem_map.2 ⟨p, hp, rfl⟩))]
              rw [hmapS] at hb
              have hrdv : ∀ (p : Nat × Operand) v, rd E ⟨fr, H2⟩ (zgK a0 p.1) p.2 = some v → zf P H2 (m.fill (S j).h.length (yd [] a0).2.length .emp) F v (a.eval p.2) := fun p v hv => zv hE hG hfill hv
              have hbf := zFJ (fr := fr) (h2 := H2) hb (fun i jj hm o ho => by
                obtain ⟨p, hp, he⟩ := List.mem_map.1 hm
                simp only [Prod.mk.injEq] at he
                have hrdH : rd E ⟨fr, H⟩ (zgK a0 p.1) p.2 = some (.ow jj) := by rw [← he.2]; cases p.2 <;> rfl
                have hv1 := zv hE hG hrel hrdH
                obtain ⟨u, hu, hne⟩ := (show zI P H m F (.ow jj) _ from hv1).real (i := jj) (Nat.beq_refl _)
                have hH := g.looks hd hn h1 hh (by
                  rw [hlk]
                  obtain ⟨pi, px⟩ := p
                  cases px with
                  | tmp tt =>
                    have ht : Operand.tmp tt ∈ (Op.build t ps).operands := List.mem_toArray.2 (List.mem_map.2 ⟨_, hp, rfl⟩)
                    exact zIG (zDe.2 ht) (by rw [← hag' tt ht]; exact hrdH) (by simp [AV.ids, AV.ids1])
                  | const c => exact absurd (Nat.beq_refl jj) (by have := zIb (i := jj) hrdH; simp [AV.has1] at this)
                  | global gl => obtain ⟨_, _, _, e, _⟩ := hE.glob gl _ hrdH; cases e
                  | func f => simp only [rd, Option.map_eq_some_iff] at hrdH; obtain ⟨_, _, e⟩ := hrdH; cases e) ho hu hne
                by_cases hx : (S j).h.length ≤ jj ∧ jj < (S j).h.length + (yd [] a0).2.length
                · have := va ho
                  omega
                · rw [hH2out jj hx]; exact hH)
              have hsome := zsZ hbf
              have hps := zv8 hE hG hfill (θ := fun i => zgK a0 i) (ps := ps.toList) fun p hp => hsome (p.1, rd E ⟨fr, H2⟩ (zgK a0 p.1) p.2) (List.mem_map.2 ⟨p, hp, rfl⟩)
              obtain ⟨m', F', cells', r1, r2, r3, r4⟩ := zFE (place := (places[·]?)) hpl2 (cells := zc) hbf hfill hps (by rw [show zc.toList = cz from k1]; exact hfs)
              have hmap : (ps.map fun x => (x.1, a.eval x.2)).toList = ps.toList.map fun p => (p.1, a.eval p.2) := by simp
              refine qs.val (R := fun u' w' => u' = .agg cells' ∧ w' = w) (u := .agg cells') (w' := w) ?_ ⟨rfl, rfl⟩ _ _ ?_
              · simp only [execOp]
                refine zU ?_
                unfold Instr.build
                simp only [Sem.run_bind, jy g1 g2, Result.andThen_ok, zh f1, hpl1, hmap, Value.cells, r3, Sem.run_pure]
              · rintro u' w' ⟨rfl, rfl⟩
                refine hK _ _ (fin c e H2 _ _ m' F' hhol (Rel.put r2 hd' ?_))
                rw [hVj]
                exact ⟨cells', rfl, r4⟩
            · cases hbld
          · cases hbld
        · cases hbld
      | _ => cases hbld
theorem Reg.bef (g : Reg E ops.toList bs S V D) (hd : ∀ j, j < ops.toList.length → done j = true → ∀ i, Nat.testBit ((atN bs j).getD 0) i = true → done i = true) {j : Nat} {o : Oper} (hj : ops.toList[j]? = some o)
    (ha : ∀ e ∈ o.after.toList, Region.binds .any e = true → done e.on = true) : ∀ i, Nat.testBit ((atN bs j).getD 0) i = true → done i = true := by
  intro i hi
  obtain ⟨acc, h1, h2⟩ := zTC ops.toList [] j o hj
  rw [List.length_nil, Nat.zero_add, ← g.bits] at h1
  rw [h1] at hi
  obtain ⟨e, he, hb, h3⟩ := zU0 hi
  have hde := ha e he hb
  rcases h3 with rfl | ⟨b, h3, h4⟩
  · exact hde
  · have h5 := h2 _ _ h3
    rw [← g.bits] at h5
    refine hd e.on ?_ hde i (by rw [h5]; exact h4)
    have := (zsM g.data hj).2.2 e he hb
    have := (List.getElem?_eq_some_iff.1 hj).1
    omega
theorem Reg.any (hE : zQ P G E) (hG : G.le F0) (hnt : E.nt = nt) (g : Reg E ops.toList bs S V D)
    (hQ : ∀ a w, Inv P nt F0 w0 (S ops.toList.length) a w → Q .normal a w) :
    ∀ (fuel : Nat) (listed : Array Bool) (a : Act) (w : World), listed.size = ops.size → zsN (fun i => listed.getD i false) ops.size ≤ fuel → Mid P nt F0 w0 ops.toList bs S V D (fun i => listed.getD i false) a w → wpAny P .any ops Q fuel listed a w := by
  have hlen : ops.toList.length = ops.size := rfl
  have hfinal : ∀ (listed : Array Bool) (a : Act) (w : World), (∀ i, i < ops.size → listed.getD i false = true) → Mid P nt F0 w0 ops.toList bs S V D (fun i => listed.getD i false) a w → Q .normal a w := by
    intro listed a w hall ⟨hd, c, e, H, hh, fr, m, F, hrel, hV, hO⟩
    apply hQ
    have he : e = ops.toList.length := by
      rcases hh.lst with h0 | h0
      · exact h0
      · rcases Nat.lt_or_ge e ops.toList.length with h1 | h1
        · have := (hh.chg e h1 h0).1 (hall e h1)
          have := hh.ce
          omega
        · have := hh.en; omega
    have hfull := g.full hh fun i h1 h2 h3 => hall i (by rw [he] at h2; exact h2)
    have hh : (S ops.toList.length).h = H := by rw [hfull, he]
    obtain ⟨hs1, hs2⟩ := g.slots (j := ops.toList.length) (Nat.le_refl _)
    refine ⟨m, F, ?_⟩
    have := hrel.frames (fr := (S ops.toList.length).fr) ?_
    · simp only at this
      rw [← hh] at this
      exact this
    · intro t v ht
      by_cases hex : ∃ (i : Nat) (o' : Oper), ops.toList[i]? = some o' ∧ o'.dst = some t
      · obtain ⟨i, o', hi, hdt⟩ := hex
        have hil := (List.getElem?_eq_some_iff.1 hi).1
        rw [hs1 i o' t hi hil hdt] at ht
        simp only
        rw [hV i o' t hi (hall i hil) hdt]; exact ht
      · have hno : ∀ (i : Nat) (o' : Oper), ops.toList[i]? = some o' → o'.dst ≠ some t := fun i o' hi hdt => hex ⟨i, o', hi, hdt⟩
        rw [hs2 t fun i o' hi _ => hno i o' hi] at ht
        simp only
        rw [hO t hno]; exact ht
  have hready : ∀ (listed : Array Bool) , listed.size = ops.size → (∀ j, j < ops.toList.length → (listed.getD j false) = true → ∀ i, Nat.testBit ((atN bs j).getD 0) i = true → listed.getD i false = true) → ∀ j, j < ops.size → listed.getD j false = false → Region.ready .any ops listed ≠ [] := by
    intro listed hsz hd j
    induction j using Nat.strongRecOn with
    | _ j ih =>
      intro hj hu hr
      have hget : ops.toList[j]? = some ops.toList[j] := List.getElem?_eq_getElem (show j < ops.toList.length from hj)
      have hback := (zsM g.data hget).2.2
      by_cases hall : ∀ e ∈ ops.toList[j].after.toList, Region.binds .any e = true → listed.getD e.on false = true
      · have hmem : j ∈ Region.ready .any ops listed := by
          rw [mem_ready]
          refine ⟨?_, ops.toList[j], by rw [← Array.getElem?_toList]; exact hget, fun e he hb => hall e (by simpa using he) hb⟩
          have : j < listed.size := by omega
          simpa [Array.getD, this] using hu
        rw [hr] at hmem
        cases hmem
      · obtain ⟨e, hne⟩ := Classical.not_forall.1 hall
        simp only [Classical.not_imp] at hne
        obtain ⟨he, hb, hf⟩ := hne
        have hlt := hback e he hb
        exact ih e.on hlt (by omega) (by simpa using hf) hr
  intro fuel
  induction fuel with
  | zero =>
    intro listed a w hsz hleft hm
    have hall := zN8 (n := ops.size) (Nat.le_zero.1 hleft)
    refine ⟨?_, hfinal listed a w hall hm⟩
    cases hr : Region.ready .any ops listed with
    | nil => rfl
    | cons x l =>
      have hx : x ∈ Region.ready .any ops listed := by rw [hr]; simp
      obtain ⟨h1, o, h2, _⟩ := mem_ready.1 hx
      have hlt := (Array.getElem?_eq_some_iff.1 h2).1
      have := hall x hlt
      have hl : x < listed.size := by omega
      simp [Array.getD, hl] at this h1
      rw [h1] at this; cases this
  | succ fuel ih =>
    intro listed a w hsz hleft hm
    constructor
    · intro hr
      refine hfinal listed a w (fun i hi => ?_) hm
      cases hdi : listed.getD i false with
      | true => rfl
      | false => exact absurd hr (hready listed hsz hm.down i hi hdi)
    · intro j hj
      obtain ⟨h1, o, h2, h3⟩ := mem_ready.1 hj
      have hlt := (Array.getElem?_eq_some_iff.1 h2).1
      have hl : j < listed.size := by omega
      have hu : listed.getD j false = false := by simpa [Array.getD, hl] using h1
      have hadd : add (fun i => listed.getD i false) j = fun i => (listed.setIfInBounds j true).getD i false := by
        funext i
        unfold add
        by_cases e : i = j
        · subst e; simp [hl]
        · rw [if_neg e, getD_set_ne false (Ne.symm e)]
      refine g.go hE hG hnt hm ⟨hlt, hu, g.bef hm.down (by rw [Array.getElem?_toList]; exact h2) fun e he hb => h3 e (by simpa using he) hb⟩ fun a' w' hm' => ?_
      rw [hadd] at hm'
      refine ih _ _ _ (by simpa using hsz) ?_ hm'
      have := left_step (f := fun i => listed.getD i false) (g := fun i => (listed.setIfInBounds j true).getD i false) (n := ops.size) (j := j) hu (by simp [hl]) (fun i hi => getD_set_ne false (Ne.symm hi))
      rw [if_pos hlt] at this
      omega
theorem zWH {k : St → Option R} {r : R} {st : St} {a : Act} {w : World} {id : Nat} (hm : P.follows .mixedOrders = true) (hE : zQ P G E) (hG : G.le F0) (hnt : E.nt = nt) (hdata : zJ8 (zsK ops.toList []) ops.toList = true)
    (hQ : ∀ st a w, Inv P nt F0 w0 st a w → k st = some r → Q .normal a w) (hi : Inv P nt F0 w0 st a w) (he : evD E ops.toList (zsK ops.toList []) ops.toList 0 [] st k = some r) : (Code.region id ops true).wp P Q a w := by
  refine wp_region_any hm ?_
  obtain ⟨S, V, D, h1, h2, h3, h4, h5, h6⟩ := zN7 ops.toList 0 [] st he
  have g : Reg E ops.toList (zsK ops.toList []) S V D := ⟨hdata, rfl, h3, fun i o hi => by have := h4 i o hi; simpa using this, fun i i' hii hl => by have := h6 i i' hii hl; simpa using this⟩
  obtain ⟨m, F, hrel⟩ := hi
  rw [Nat.zero_add] at h2
  refine g.any hE hG hnt (fun a w hi => hQ _ a w hi h2) ops.size _ a _ (by simp) ?_ ?_
  · rw [zN9]
    · exact Nat.le_refl _
    · intro i hi; simp [hi]
  · obtain ⟨e, n, hh⟩ := g.open (done := fun i => (Array.replicate ops.size false).getD i false) (c := 0) (Nat.zero_le _) (.inl rfl) (fun i hi _ => by
        have : i < ops.size := hi
        simp [this]) (fun i _ hi _ => by
        have : i < ops.size := hi
        simp [this])
    refine ⟨fun j hj hdj => ?_, 0, e, _, hh, (S 0).fr, m, F, ?_, fun i o d hi hdi => ?_, fun t _ => rfl⟩
    · have : j < ops.size := hj
      simp [this] at hdj
    · rw [h1]; exact hrel.drew.holes n
    · have : i < ops.size := (List.getElem?_eq_some_iff.1 hi).1
      simp [this] at hdi
end
end Go.Ev
end
section
namespace Go.Ev
open Go.RowKit
set_option linter.unusedSimpArgs false
set_option linter.unusedVariables false
theorem zKE : ∀ {l : List Nat} {i : Nat}, i ∈ l → l[idxOf l i]? = some i
  | x :: l, i, h => by
    by_cases e : x = i
    · subst e; simp [idxOf, beq_self]
    · have hm : i ∈ l := by
        rcases List.mem_cons.1 h with h | h
        · exact absurd h.symm e
        · exact h
      simp only [idxOf, zet e, cond_false, List.getElem?_cons_succ]
      exact zKE hm
theorem zAt : ∀ {l : List Nat}, zFA l = true → ∀ (i j x : Nat), l[i]? = some x → l[j]? = some x → i = j
  | [], _, i, _, x, hi, _ => by simp at hi
  | y :: l, h, i, j, x, hi, hj => by
    simp only [zFA, Bool.and_eq_true, Bool.not_eq_true'] at h
    have hno : ∀ k, l[k]? ≠ some y := fun k hk => by
      have := zwa.2 (List.mem_of_getElem? hk)
      rw [h.1] at this; cases this
    cases i with
    | zero =>
      simp only [List.getElem?_cons_zero, Option.some.injEq] at hi
      subst hi
      cases j with
      | zero => rfl
      | succ j => exact absurd (by simpa using hj) (hno j)
    | succ i =>
      cases j with
      | zero =>
        simp only [List.getElem?_cons_zero, Option.some.injEq] at hj
        subst hj
        exact absurd (by simpa using hi) (hno i)
      | succ j =>
        rw [zAt h.2 i j x (by simpa using hi) (by simpa using hj)]
section
variable {P : Program} {nt : Nat} {F0 F : FH} {w0 w : World} {st : St} {m : MM} {a : Act}
theorem zmB {l : List Nat} {v : AV} {i : Nat} (hv : v.okG1 l = true) (hi : v.has1 i = true) : i ∈ l := by
  cases v <;> simp only [AV.has1] at hi <;> first | (cases hi; done) | (rw [← Nat.eq_of_beq_eq_true hi]; exact zwa.1 hv)
theorem zSU {l : List Nat} {v : AV} {i : Nat} (ht : ∀ vs, v ≠ .tup vs) (hv : v.okG l = true) (hi : v.has i = true) : i ∈ l := by
  cases v with
  | tup vs => exact absurd rfl (ht vs)
  | fld b vs =>
    simp only [AV.has, List.any_eq_true] at hi
    obtain ⟨x, hx, hi⟩ := hi
    simp only [AV.okG, List.all_eq_true] at hv
    exact zmB (hv x hx) hi
  | dat τ x => cases hi
  | clip τ x => cases hi
  | dead => cases hi
  | bp id p => exact zmB (v := .bp id p) hv hi
  | rp id i p => exact zmB (v := .rp id i p) hv hi
  | ow id => exact zmB (v := .ow id) hv hi
  | om id => exact zmB (v := .om id) hv hi
  | ds id i p => exact zmB (v := .ds id i p) hv hi
  | dp id i p j q => exact zmB (v := .dp id i p j q) hv hi
def MM.sel (m : MM) (l : List Nat) : MM := ⟨fun j => (l[j]?).bind m, fun j => match l[j]? with | some i => m.d i | none => fun _ _ => none⟩
theorem MM.sel_f {m : MM} {l : List Nat} {j : Nat} {b : Nat × Nat} (h : (m.sel l) j = some b) : ∃ i, l[j]? = some i ∧ m i = some b := Option.bind_eq_some_iff.1 h
theorem MM.sel_d {m : MM} {l : List Nat} {i k : Nat} {p : List Nat} {b : Nat × Nat} (h : (m.sel l).d i k p = some b) : ∃ x, l[i]? = some x ∧ m.d x k p = some b := by
  simp only [MM.sel] at h
  cases hx : l[i]? with
  | none => rw [hx] at h; cases h
  | some x => rw [hx] at h; exact ⟨x, rfl, h⟩
theorem MM.sel_at {m : MM} {l : List Nat} {i x : Nat} (h : l[i]? = some x) : (m.sel l) i = m x ∧ (m.sel l).d i = m.d x := by
  simp only [MM.sel, h, Option.bind_some, and_self]
theorem zTF (l : List Nat) (hi : Inv P nt F0 w0 st a w) : Inv P nt F0 w0 (zPN l st) a w := by
  unfold zPN
  cases hc : (zFA l && (st.fr.all (fun p => p.2.okG l) && l.all fun i => match atN st.h i with | some o => o.okG l | none => true)) with
  | false => exact hi
  | true =>
    simp only [Bool.and_eq_true] at hc
    obtain ⟨h1, h2, h3⟩ := hc
    obtain ⟨m, F, h⟩ := hi
    refine ⟨m.sel l, F, ?_⟩
    have hR : ∀ i, i ∈ l → ∀ o, atN st.h i = some o → atN (l.map fun i => ((atN st.h i).getD .gone).ren l) (idxOf l i) = some (o.rn (idxOf l)) ∧ (m.sel l) (idxOf l i) = m i ∧ (m.sel l).d (idxOf l i) = m.d i := by
      intro i hil o ho
      have := zKE hil
      refine ⟨?_, MM.sel_at this⟩
      rw [ql, List.getElem?_map, this, Option.map_some, ho, Option.getD_some, Obj.ren_rn]
    have hV : ∀ {v : AV} {u : Value}, v.okG l = true → zI P st.h m F v u → zI P (l.map fun i => ((atN st.h i).getD .gone).ren l) (m.sel l) F (v.ren l) u := by
      intro v u hv hr
      rw [AV.ren_rn]
      exact hr.rn fun i hi o ho => hR i (zSU (fun vs e => by subst e; exact hr.elim) hv hi) o ho
    refine ⟨h.nt, fun t v ht => ?_, fun j u hu => ?_, fun i j b n n' hi hj => ?_, fun j b n hj => ?_, fun i j p b n hp => ?_, fun i1 j1 p1 b n i2 j2 p2 n' q1 q2 => ?_, h.fok, h.gro, h.bel, h.dfr⟩
    · simp only [cond_true] at ht
      rw [zPO] at ht
      obtain ⟨x, hx, rfl⟩ := Option.map_eq_some_iff.1 ht
      have hmem : ∀ (fr : List (Nat × AV)), look fr t = some x → ∃ p ∈ fr, p.2 = x := by
        intro fr
        induction fr with
        | nil => intro h; simp [look] at h
        | cons p fr ih =>
          intro h
          obtain ⟨k, y⟩ := p
          simp only [look] at h
          cases hb : Nat.beq k t with
          | true => rw [hb] at h; simp only [cond_true, Option.some.injEq] at h; exact ⟨(k, y), by simp, h⟩
          | false => rw [hb] at h; obtain ⟨p, hp, e⟩ := ih h; exact ⟨p, by simp [hp], e⟩
      obtain ⟨p, hp, rfl⟩ := hmem _ hx
      have hok := List.all_eq_true.1 h2 p hp
      have hr := h.fr t p.2 hx
      simp only [cond_true]
      cases hpv : p.2 with
      | tup vs =>
        rw [hpv] at hok hr
        exact zf.pure (h := st.h) (m := m) hok hr
      | _ =>
        rw [hpv] at hok hr
        rw [zf.eq1 (by intro vs e; cases e)] at hr
        refine zf.of1 ?_
        exact hV hok hr
    · simp only [cond_true] at hu ⊢
      rw [ql, List.getElem?_map] at hu
      obtain ⟨i, hi, rfl⟩ := Option.map_eq_some_iff.1 hu
      have hok := List.all_eq_true.1 h3 i (List.mem_of_getElem? hi)
      cases ho : atN st.h i with
      | none => rw [Option.getD_none]; trivial
      | some o =>
        rw [ho] at hok
        rw [Option.getD_some, Obj.ren_rn]
        refine (h.obs i o ho).rn (fun v f e i' hi' o' ho' => hR i' ?_ o' ho') (MM.sel_at hi).1 (MM.sel_at hi).2
        subst e
        refine zSU (fun vs e => ?_) hok hi'
        subst e
        obtain ⟨_, _, _, _, _, _, _, h5, _⟩ := (h.obs i _ ho)
        exact h5.elim
    · obtain ⟨x, hx, hi⟩ := MM.sel_f hi
      obtain ⟨y, hy, hj⟩ := MM.sel_f hj
      have := h.inj _ _ _ _ _ hi hj
      subst this
      exact zAt h1 i j x hx hy
    · obtain ⟨x, hx, hj⟩ := MM.sel_f hj
      have := h.rng _ _ _ hj
      refine ⟨?_, this.2⟩
      simp only [cond_true, List.length_map]
      exact (List.getElem?_eq_some_iff.1 hx).1
    · obtain ⟨x, hx, hp⟩ := MM.sel_d hp
      obtain ⟨⟨o, g1, g2⟩, g3, g4, g5, g6⟩ := h.dok _ _ _ _ _ hp
      refine ⟨⟨o.rn (idxOf l), ?_, by rw [zFI]; exact g2⟩, g3, g4, g5, fun i' n' hi' => ?_⟩
      · simp only [cond_true]
        rw [ql, List.getElem?_map, hx, Option.map_some, g1, Option.getD_some, Obj.ren_rn]
      · obtain ⟨y, hy, hi'⟩ := MM.sel_f hi'
        exact g6 _ _ hi'
    · obtain ⟨x, hx, q1⟩ := MM.sel_d q1
      obtain ⟨y, hy, q2⟩ := MM.sel_d q2
      obtain ⟨rfl, e2, e3⟩ := h.din _ _ _ _ _ _ _ _ _ q1 q2
      exact ⟨zAt h1 i1 i2 x hx hy, e2, e3⟩
theorem zQb (hi : Inv P nt F0 w0 st a w) : Inv P nt F0 w0 (St.gc st) a w := zTF _ hi
theorem zIH (live : Nat) (hi : Inv P nt F0 w0 st a w) : Inv P nt F0 w0 ⟨zPK live st.fr, st.h⟩ a w := by
  obtain ⟨m, F, h⟩ := hi
  exact ⟨m, F, h.frames fun t v ht => zAp (fun t => Nat.testBit live t) st.fr t v ht⟩
end
end Go.Ev
end
section
namespace Go.Ev
open Go.RowKit
set_option linter.unusedSimpArgs false
set_option linter.unusedVariables false
def Ex.of : Ex → Exit
  | .normal => .normal
  | .exit id => .exit id
  | .ret => .ret
section
variable {P : Program} {nt : Nat} {F0 G : FH} {w0 w : World} {E : Env} {R : Type} {a : Act} {Q : Exit → Act → World → Prop}
theorem zQc {p : Nat → Prop} (h : ∃ n, p n) : ∃ n, p n ∧ ∀ m, p m → n ≤ m := by
  obtain ⟨n, hn⟩ := h
  induction n using Nat.strongRecOn with
  | _ n ih =>
    by_cases hm : ∃ m, m < n ∧ p m
    · obtain ⟨m, h1, h2⟩ := hm
      exact ih m h1 h2
    · refine ⟨n, hn, fun m h => ?_⟩
      rcases Nat.lt_or_ge m n with h1 | h1
      · exact absurd ⟨m, h1, h⟩ hm
      · exact h1
open Classical in
noncomputable def leastOf (X : Nat → Act → World → Prop) (a : Act) (w : World) : Nat := if h : ∃ n, X n a w then Classical.choose (zQc h) else 0
theorem zU1 {c : Code} (X : Nat → Act → World → Prop) (round : ∀ n a w, X n a w → c.wp P (Exit.then (fun a' w' => ∃ m, m < n ∧ X m a' w') Q) a w) {n : Nat} (h : X n a w) : (Code.loop c).wp P Q a w := by
  have hspec : ∀ {a : Act} {w : World}, (∃ n, X n a w) → X (leastOf X a w) a w ∧ ∀ m, X m a w → leastOf X a w ≤ m := by
    intro a w h
    unfold leastOf
    rw [dif_pos h]
    exact Classical.choose_spec (zQc h)
  refine wp_loop (fun a w => ∃ n, X n a w) (leastOf X) ⟨n, h⟩ fun a w hI => ?_
  refine wp_mono (round _ a w (hspec hI).1) fun e a' w' hq => ?_
  cases e with
  | normal =>
    obtain ⟨m, h1, h2⟩ := hq
    exact ⟨⟨m, h2⟩, Nat.lt_of_le_of_lt ((hspec ⟨m, h2⟩).2 m h2) h1⟩
  | _ => exact hq
def Goes (P : Program) (nt : Nat) (F0 : FH) (w0 : World) (k : Ex → St → Option R) (r : R) (Q : Exit → Act → World → Prop) : Prop :=
  ∀ e st a w, Inv P nt F0 w0 st a w → k e st = some r → Q e.of a w
theorem zSV {K ln : Nat} {r : R} {k : Ex → St → Option R} {c : Operand} (hQ : Goes P nt F0 w0 k r Q) : Goes P nt F0 w0 (jk E K c ln k) r Q := by
  intro e st a w hi hk
  unfold jk at hk
  split at hk
  · rename_i t
    cases hb : zAo t E.jn with
    | false => rw [hb] at hk; exact hQ e st a w hi hk
    | true =>
      rw [hb] at hk
      cases e with
      | normal =>
        cases K with
        | zero => cases hk
        | succ K => exact hQ .normal _ _ _ (zQb (zIH _ hi)) hk
      | exit id => exact hQ _ _ _ _ hi hk
      | ret => exact hQ _ _ _ _ hi hk
  · exact hQ e st a w hi hk
theorem zWI (hm : P.follows .mixedOrders = true) (hE : zQ P G E) (hG : G.le F0) (hnt : E.nt = nt) {K fin : Nat} {r : R} :
    ∀ (c : Code) {lx : Nat → Nat} {ln : Nat} {k : Ex → St → Option R} {st : St} {a : Act} {w : World} {Q : Exit → Act → World → Prop}, Goes P nt F0 w0 k r Q → Inv P nt F0 w0 st a w → evC E K fin c lx ln k st = some r → c.wp P Q a w := by
  intro c
  induction c with
  | skip => intro lx ln k st a w Q hQ hi he; exact wp_skip (hQ .normal _ _ _ hi he)
  | label l => intro lx ln k st a w Q hQ hi he; exact wp_label (hQ .normal _ _ _ hi he)
  | exit id => intro lx ln k st a w Q hQ hi he; exact wp_exit (hQ (.exit id) _ _ _ hi he)
  | ret => intro lx ln k st a w Q hQ hi he; exact wp_ret (hQ .ret _ _ _ hi he)
  | region id ops d =>
    intro lx ln k st a w Q hQ hi he
    simp only [evC] at he
    cases d with
    | true =>
      simp only [cond_true] at he
      obtain ⟨h1, h2⟩ := zd he
      exact zWH hm hE hG hnt h1 (fun st a w hi hk => hQ .normal _ _ _ hi hk) hi h2
    | false =>
      simp only [cond_false] at he
      refine wp_region ?_
      have := zUX (Q := Q) hE hG hnt (fun st a w hi hk => hQ .normal _ _ _ hi hk) ops.toList [] st a w rfl hi he
      rw [List.range_eq_range']
      exact this
  | seq x y ihx ihy =>
    intro lx ln k st a w Q hQ hi he
    simp only [evC] at he
    refine wp_seq (ihx ?_ hi he)
    intro e st a w hi hk
    cases e with
    | normal => exact ihy hQ hi hk
    | exit id => exact hQ (.exit id) _ _ _ hi hk
    | ret => exact hQ .ret _ _ _ hi hk
  | cond c x y ihx ihy =>
    intro lx ln k st a w Q hQ hi he
    simp only [evC] at he
    split at he
    · rename_i t hc
      obtain ⟨m, F, h⟩ := id hi
      have hb := (zv hE hG h hc).bool
      cases ht : (show Bool from t) with
      | true =>
        have ht' : t = true := ht
        subst ht'
        exact wp_cond_true hb (ihx (zSV hQ) hi he)
      | false =>
        have ht' : t = false := ht
        subst ht'
        exact wp_cond_false hb (ihy (zSV hQ) hi he)
    · cases he
  | block id b ih =>
    intro lx ln k st a w Q hQ hi he
    simp only [evC] at he
    refine wp_block (ih ?_ hi he)
    intro e st a w hi hk
    cases e with
    | normal => exact hQ .normal _ _ _ hi hk
    | exit id' =>
      simp only [Ex.of, Exit.inBlock]
      by_cases e : id' = id
      · subst e
        rw [if_pos rfl]
        simp only [beq_self, cond_true] at hk
        exact hQ .normal _ _ _ hi hk
      · rw [if_neg e]
        simp only [zet e, cond_false] at hk
        exact hQ (.exit id') _ _ _ hi hk
    | ret => exact hQ .ret _ _ _ hi hk
  | loop b ih =>
    intro lx ln k st a w Q hQ hi he
    simp only [evC] at he
    refine zU1 (fun n a w => ∃ st, Inv P nt F0 w0 st a w ∧ zG7 (lv fin (.loop b) lx ln) (evC E K fin b lx (lv fin (.loop b) lx ln)) k n st = some r) ?_ ⟨_, zQb (zIH _ hi), he⟩
    rintro n a w ⟨st, hi, he⟩
    cases n with
    | zero => cases he
    | succ n =>
      simp only [zG7] at he
      refine ih ?_ hi he
      intro e st a w hi hk
      cases e with
      | normal => exact ⟨n, Nat.lt_succ_self n, _, zQb (zIH _ hi), hk⟩
      | exit id => exact hQ (.exit id) _ _ _ hi hk
      | ret => exact hQ .ret _ _ _ hi hk
  | scope b ih =>
    intro lx ln k st a w Q hQ hi he
    simp only [evC] at he
    refine wp_scope_straight (ih ?_ hi he)
    intro e st a w hi hk
    cases e with
    | normal => exact hQ .normal _ _ _ hi hk
    | exit id => exact hQ (.exit id) _ _ _ hi hk
    | ret => exact hQ .ret _ _ _ hi hk
  | _ => intro lx ln k st a w Q hQ hi he; simp [evC] at he
end
end Go.Ev
end
section
namespace Go.Ev
open Go.RowKit
set_option linter.unusedSimpArgs false
set_option linter.unusedVariables false
section
variable {P : Program} {nt : Nat} {F0 F G : FH} {w0 w : World} {st st' : St} {m : MM} {a : Act} {E : Env} {v : AV} {u : Value}
theorem zR5 : ∀ {τ : Ty} {x : τ.I} {i t : Nat} {v : AV} {vs : List Value}, look (params τ x i) t = some v → vL P F τ x vs → i ≤ t ∧ ∃ σ y u, v = .dat σ y ∧ vs[t - i]? = some u ∧ zY P F σ y u := by
  intro τ
  induction τ with
  | pair a b _ ihb =>
    rintro x i t v vs h ⟨u, r, rfl, h1, h2, h3⟩
    simp only [params] at h
    by_cases e : i = t
    · subst e
      simp only [look, beq_self, cond_true, Option.some.injEq] at h
      exact ⟨Nat.le_refl _, a, x.1, u, h.symm, by simp, h1, h2⟩
    · simp only [look, zet e, cond_false] at h
      obtain ⟨g1, σ, y, u', g2, g3, g4⟩ := ihb h h3
      refine ⟨by omega, σ, y, u', g2, ?_, g4⟩
      rw [show t - i = (t - (i + 1)) + 1 by omega, List.getElem?_cons_succ]
      exact g3
  | _ => intro x i t v vs h; simp [params, look] at h
theorem Rel.enter {τ : Ty} {x : τ.I} {vs : List Value} (hk : F0.ok w) (hr : vL P F0 τ x vs) (n : Nat) :
    Rel P n F0 w ⟨params τ x 0, []⟩ MM.emp F0 { tmps := vs.toArray ++ Array.replicate (n - vs.toArray.size) undef, defers := [] } w := by
  refine ⟨by simp; omega, fun t v ht => ?_, fun i o ho => (by simp [atN] at ho), fun _ _ _ _ _ h => (nomatch h), fun _ _ _ h => (nomatch h), fun _ _ _ _ _ h => (nomatch h), fun _ _ _ _ _ _ _ _ _ h => (nomatch h), hk, ⟨.refl F0, fun _ _ => rfl⟩, ⟨rfl, rfl, rfl, Nat.le_refl _, fun _ _ => rfl⟩, rfl⟩
  obtain ⟨_, σ, y, u, rfl, h2, h3⟩ := zR5 ht hr
  rw [Nat.sub_zero] at h2
  have hlt := (List.getElem?_eq_some_iff.1 h2).1
  have : (vs.toArray ++ Array.replicate (n - vs.toArray.size) undef).getD t undef = u := by
    rw [Array.getD_eq_getD_getElem?, Array.getElem?_append_left (by simpa using hlt)]
    simp [h2]
  rw [this]
  exact h3
def zFK (tmps : Array Value) : ResultVar → Sem Value
  | .tmp t => pure (tmps.getD t undef)
  | .cell a t => do loadVar t (← asAddr (tmps.getD a undef))
theorem zTG (fn : Func) (tmps : Array Value) : results fn tmps = (do let vs ← fn.results.mapM (zFK tmps); pure (if h : vs.size = 1 then vs[0] else .tuple vs)) := rfl
theorem zU2 {rv : ResultVar} (hE : zQ P G E) (h : Rel P nt F0 w0 st m F a w) (hr : zze E st rv = some v) :
    ∃ u, (zFK a.tmps rv).run P w = .ok u w ∧ zf P st.h m F v u := by
  cases rv with
  | tmp t => exact ⟨_, rfl, h.fr t v hr⟩
  | cell d t =>
    simp only [zze] at hr
    split at hr
    · rename_i id hl
      have hx := h.fr d _ hl
      have key : ∀ (y : AV) (f : Bool), atN st.h id = some (.bx y f) → yR E t (.bp id []) st pk = some (v, st) →
          ∃ u, (zFK a.tmps (.cell d t)).run P w = .ok u w ∧ zf P st.h m F v u := by
        intro y f ho he
        obtain ⟨u, h1, _, h2⟩ := zC4 hE h hx he
        obtain ⟨b, n, off, _, hp, _⟩ := hx.bpAt ho
        refine ⟨u, ?_, h2⟩
        simp only [zFK]
        rw [hp] at h1 ⊢
        simpa [Instr.loadAt, Instr.sureAddr, asAddr] using h1
      split at hr
      · rename_i τ x f ho
        obtain ⟨h1, h2⟩ := zd hr
        cases h2
        refine key _ _ ho ?_
        simp only [yR, ho, z7, h1, cond_true]
        unfold kAV
        split
        · have : ∀ b : Bool, kB b st pk = some (.dat .bool b, st) := fun b => by cases b <;> rfl
          rename_i b hq
          cases hq
          exact this b
        · rfl
      · rename_i b vs f ho
        obtain ⟨h1, h2⟩ := zd hr
        cases h2
        refine key _ _ ho ?_
        simp only [yR, ho, h1, cond_true]
      · rename_i y f hnd hnf ho
        obtain ⟨h1, h2⟩ := zd hr
        cases h2
        refine key _ _ ho ?_
        simp only [yR, ho]
        cases v <;> first | (simp only [h1, cond_true]; done) | exact absurd rfl (hnd _ _) | exact absurd rfl (hnf _ _) | (simp only [h1, cond_true]; rfl)
      · cases hr
    · cases hr
theorem zR6 {f : Func} {vs : List AV} (hE : zQ P G E) (h : Rel P nt F0 w0 st m F a w) (hr : f.results.toList.map (zze E st) = vs.map some) :
    ∃ us, (results f a.tmps).run P w = .ok (zCZ us) w ∧ zmj P st.h m F vs us := by
  have key : ∀ (l : List ResultVar) (vs : List AV), l.map (zze E st) = vs.map some → ∃ us : List Value, (l.mapM (zFK a.tmps)).run P w = .ok us w ∧ zmj P st.h m F vs us := by
    intro l
    induction l with
    | nil =>
      intro vs h
      cases vs with
      | nil => exact ⟨[], by simp, rfl⟩
      | cons _ _ => simp at h
    | cons rv l ih =>
      intro vs hl
      cases vs with
      | nil => simp at hl
      | cons v vs =>
        simp only [List.map_cons, List.cons.injEq] at hl
        obtain ⟨us, h1, h2⟩ := ih vs hl.2
        obtain ⟨u, h3, h4⟩ := zU2 hE h hl.1
        refine ⟨u :: us, ?_, u, us, rfl, h4, h2⟩
        simp only [List.mapM_cons, Sem.run_bind]
        rw [h3]
        simp only [Result.andThen_ok, h1, Sem.run_pure]
  obtain ⟨us, h1, h2⟩ := key _ _ hr
  refine ⟨us, ?_, h2⟩
  rw [zTG, Array.mapM_eq_mapM_toList, ← bind_pure_comp]
  simp only [Sem.run_bind, h1, Result.andThen_ok, Sem.run_pure]
  match us with
  | [] => rfl
  | [u] => rfl
  | u :: v :: us => rfl
theorem zEn {α : Type} : ∀ {l : List (Option α)}, l.all Option.isSome = true → l = (l.filterMap id).map some
  | [], _ => rfl
  | none :: l, h => by simp at h
  | some x :: l, h => by
    simp only [List.all_cons, Option.isSome_some, Bool.true_and] at h
    simp only [List.filterMap_cons, id, List.map_cons, ← zEn h]
def zbB (h0 h : List Obj) : Prop := h0.length = h.length ∧ ∀ i, atN h0 i = some .gone ∨ atN h0 i = atN h i
theorem zbB.refl (h : List Obj) : zbB h h := ⟨rfl, fun _ => .inr rfl⟩
theorem zbB.at {h0 h : List Obj} (l : zbB h0 h) {i : Nat} {o : Obj} (ho : atN h0 i = some o) (hg : o ≠ .gone) : atN h i = some o := by
  rcases l.2 i with e | e
  · rw [e] at ho; cases ho; exact absurd rfl hg
  · rw [← e]; exact ho
theorem zbB.gone {h0 h : List Obj} (l : zbB h0 h) {i : Nat} {o : Obj} (ho : atN h0 i = some o) : zbB (zg h0 i .gone) h := by
  refine ⟨by simp only [j7, List.length_set]; exact l.1, fun j => ?_⟩
  by_cases e : i = j
  · subst e; exact .inl (za9 ho)
  · rw [qQ e]; exact l.2 j
theorem zbB.set {h0 h : List Obj} (l : zbB h0 h) {i : Nat} {o o' : Obj} (ho : atN h0 i = some o) (hg : o ≠ .gone) : zbB (zg h0 i o') (zg h i o') := by
  refine ⟨by simp only [j7, List.length_set]; exact l.1, fun j => ?_⟩
  by_cases e : i = j
  · subst e; right; rw [za9 ho, za9 (l.at ho hg)]
  · rw [qQ e, qQ e]; exact l.2 j
def Kept (h0 h h0' h' : List Obj) : Prop := zbB h0' h' ∧ ∀ i, atN h0 i = some .gone → atN h0' i = some .gone ∧ atN h' i = atN h i
theorem Kept.refl {h0 h : List Obj} (l : zbB h0 h) : Kept h0 h h0 h := ⟨l, fun _ h => ⟨h, rfl⟩⟩
theorem Kept.trans {h0 h h1 h' h2 h'' : List Obj} (a : Kept h0 h h1 h') (b : Kept h1 h' h2 h'') : Kept h0 h h2 h'' :=
  ⟨b.1, fun i hi => ⟨(b.2 i (a.2 i hi).1).1, (b.2 i (a.2 i hi).1).2.trans (a.2 i hi).2⟩⟩
theorem Kept.set {h0 h : List Obj} (l : zbB h0 h) {i : Nat} {o o' : Obj} (ho : atN h0 i = some o) (hg : o ≠ .gone) : Kept h0 h (zg h0 i o') (zg h i o') := by
  refine ⟨l.set ho hg, fun j hj => ?_⟩
  have e : i ≠ j := by rintro rfl; rw [ho] at hj; cases hj; exact hg rfl
  rw [qQ e, qQ e]; exact ⟨hj, rfl⟩
theorem zs1 {q : Bool} {fr : List (Nat × AV)} {h0 h : List Obj} {τ : Ty} {x : τ.I} {st' : St} (l : zbB h0 h) (hz : jW q ⟨fr, h0⟩ v = some ⟨τ, x, st'⟩) : ∃ h', jW q ⟨fr, h⟩ v = some ⟨τ, x, ⟨fr, h'⟩⟩ ∧ st'.fr = fr ∧ Kept h0 h st'.h h' := by
  cases v with
  | dat τ' y => simp only [jW, Option.some.injEq] at hz; cases hz; exact ⟨h, rfl, rfl, .refl l⟩
  | clip τ' y => simp only [jW, Option.some.injEq] at hz; cases hz; exact ⟨h, rfl, rfl, .refl l⟩
  | ow id =>
    simp only [jW] at hz ⊢
    split at hz
    · rename_i σ xs ho
      cases hz
      rw [l.at ho (by intro e; cases e)]
      exact ⟨h, rfl, rfl, .refl l⟩
    · rename_i σ xs ho
      cases q with
      | true => cases hz
      | false =>
        cases hz
        rw [l.at ho (by intro e; cases e)]
        exact ⟨_, rfl, rfl, .set l ho (by intro e; cases e)⟩
    · rename_i σ xs k ho
      cases q with
      | true => cases hz
      | false =>
        cases hz
        rw [l.at ho (by intro e; cases e)]
        exact ⟨_, rfl, rfl, .set l ho (by intro e; cases e)⟩
    · cases hz
  | bp id p =>
    cases p with
    | cons _ _ => simp [jW] at hz
    | nil =>
      simp only [jW] at hz ⊢
      split at hz
      · rename_i σ y ho
        cases hz
        rw [l.at ho (by intro e; cases e)]
        exact ⟨h, rfl, rfl, .refl l⟩
      · rename_i σ y ho
        cases q with
        | true => cases hz
        | false =>
          cases hz
          rw [l.at ho (by intro e; cases e)]
          exact ⟨_, rfl, rfl, .set l ho (by intro e; cases e)⟩
      · cases hz
  | _ => simp [jW] at hz
theorem zR7 {q : Bool} {σ : Ty} {fr : List (Nat × AV)} {h0 h : List Obj} {x : σ.I} {st' : St} (l : zbB h0 h) (hz : zco q σ ⟨fr, h0⟩ v = some (x, st')) : ∃ h', zco q σ ⟨fr, h⟩ v = some (x, ⟨fr, h'⟩) ∧ st'.fr = fr ∧ Kept h0 h st'.h h' := by
  unfold zco at hz ⊢
  split at hz
  · rename_i τ y st1 hz1
    obtain ⟨h', e1, e2, e3⟩ := zs1 l hz1
    rw [e1]
    split at hz
    · rename_i z hc
      cases hz
      exact ⟨h', by simp only [hc], e2, e3⟩
    · cases hz
  · cases hz
theorem zQd {q : Bool} {fr : List (Nat × AV)} : ∀ {τ : Ty} {vs : List AV} {h0 h : List Obj} {x : τ.I} {st' : St}, zbB h0 h → vh q τ vs ⟨fr, h0⟩ = some (x, st') → ∃ h', vh q τ vs ⟨fr, h⟩ = some (x, ⟨fr, h'⟩) ∧ st'.fr = fr ∧ Kept h0 h st'.h h' := by
  intro τ
  induction τ with
  | unit => intro vs h0 h x st' l hz; cases vs <;> first | (cases hz; exact ⟨h, rfl, rfl, .refl l⟩) | cases hz
  | pair a b _ ihb =>
    intro vs h0 h x st' l hz
    cases vs with
    | nil => cases hz
    | cons v vs =>
      simp only [vh] at hz ⊢
      split at hz
      · rename_i y st1 hy
        split at hz
        · rename_i ys st2 hys
          cases hz
          obtain ⟨h', e1, e2, e3⟩ := zR7 l hy
          obtain ⟨f1, h1⟩ := st1
          cases e2
          obtain ⟨h'', g1, g2, g3⟩ := ihb e3.1 hys
          rw [e1]
          exact ⟨h'', by simp only [g1], g2, e3.trans g3⟩
        · cases hz
      · cases hz
  | _ => intro vs h0 h x st' l hz; cases vs <;> cases hz
theorem zVW {q : Bool} {fr : List (Nat × AV)} {h0 h : List Obj} {τ : Ty} {x : τ.I} {st' : St} (l : zbB h0 h) (hz : frz q ⟨fr, h0⟩ v = some ⟨τ, x, st'⟩) : ∃ h', frz q ⟨fr, h⟩ v = some ⟨τ, x, ⟨fr, h'⟩⟩ ∧ st'.fr = fr ∧ Kept h0 h st'.h h' := by
  cases v with
  | fld b vs =>
    simp only [frz] at hz ⊢
    split at hz
    · rename_i y st1 hy
      cases hz
      obtain ⟨h', e1, e2, e3⟩ := zQd l hy
      exact ⟨h', by simp only [e1], e2, e3⟩
    · cases hz
  | dat τ x => exact zs1 (q := q) (v := .dat τ x) l hz
  | clip τ x => exact zs1 (q := q) (v := .clip τ x) l hz
  | bp id p => exact zs1 (q := q) (v := .bp id p) l hz
  | ow id => exact zs1 (q := q) (v := .ow id) l hz
  | _ => cases hz
theorem zTH {q : Bool} {σ : Ty} {fr : List (Nat × AV)} {h0 h : List Obj} {x : σ.I} {st' : St} (l : zbB h0 h) (hz : zmi q σ ⟨fr, h0⟩ v = some (x, st')) : ∃ h', zmi q σ ⟨fr, h⟩ v = some (x, ⟨fr, h'⟩) ∧ st'.fr = fr ∧ Kept h0 h st'.h h' := by
  unfold zmi at hz ⊢
  split at hz
  · rename_i τ y st1 hz1
    obtain ⟨h', e1, e2, e3⟩ := zVW l hz1
    rw [e1]
    split at hz
    · rename_i z hc
      cases hz
      exact ⟨h', by simp only [hc], e2, e3⟩
    · cases hz
  · cases hz
theorem zAu {q : Bool} {fr : List (Nat × AV)} : ∀ {τ : Ty} {vs : List AV} {h0 h : List Obj} {x : τ.I} {st' : St}, zbB h0 h → vx q τ vs ⟨fr, h0⟩ = some (x, st') → ∃ h', vx q τ vs ⟨fr, h⟩ = some (x, ⟨fr, h'⟩) ∧ st'.fr = fr ∧ Kept h0 h st'.h h' := by
  intro τ
  induction τ with
  | unit => intro vs h0 h x st' l hz; cases vs <;> first | (cases hz; exact ⟨h, rfl, rfl, .refl l⟩) | cases hz
  | pair a b _ ihb =>
    intro vs h0 h x st' l hz
    cases vs with
    | nil => cases hz
    | cons v vs =>
      simp only [vx] at hz ⊢
      split at hz
      · rename_i y st1 hy
        split at hz
        · rename_i ys st2 hys
          cases hz
          obtain ⟨h', e1, e2, e3⟩ := zTH l hy
          obtain ⟨f1, h1⟩ := st1
          cases e2
          obtain ⟨h'', g1, g2, g3⟩ := ihb e3.1 hys
          rw [e1]
          exact ⟨h'', by simp only [g1], g2, e3.trans g3⟩
        · cases hz
      · cases hz
  | _ => intro vs h0 h x st' l hz; cases vs <;> cases hz
end
section
variable {P : Program} {nt : Nat} {F0 F G : FH} {w0 w : World} {st st' : St} {m : MM} {a : Act} {E : Env} {v : AV} {u : Value}
def zAv (ids : Nat → Option Nat) (h : List Obj) : (b : Ty) → Nat → b.I → List AV → Prop
  | .pair (.sl σ) b, i, x, v :: vs => (∃ id, v = .ow id ∧ ids i = some id ∧ atN h id = some (mkO σ (bif σ.deep then some (List.length x.1) else none) x.1)) ∧ zAv ids h b (i + 1) x.2 vs
  | .pair a b, i, x, v :: vs => v = .dat a x.1 ∧ zAv ids h b (i + 1) x.2 vs
  | .unit, _, _, [] => True
  | _, _, _, _ => False
theorem zAv.ids {ids ids' : Nat → Option Nat} {h : List Obj} : ∀ {b : Ty} {i : Nat} {x : b.I} {vs : List AV}, (∀ f, i ≤ f → ids' f = ids f) → zAv ids h b i x vs → zAv ids' h b i x vs := by
  intro b
  induction b with
  | unit => intro i x vs _ ho; cases vs <;> exact ho
  | pair t b _ ihb =>
    intro i x vs hi ho
    cases vs with
    | nil => cases t <;> exact ho.elim
    | cons v vs =>
      cases t with
      | sl σ =>
        obtain ⟨⟨id, h1, h2, h3⟩, h4⟩ := ho
        exact ⟨⟨id, h1, by rw [hi i (Nat.le_refl _)]; exact h2, h3⟩, ihb (fun f hf => hi f (by omega)) h4⟩
      | _ => exact ⟨ho.1, ihb (fun f hf => hi f (by omega)) ho.2⟩
  | _ => intro i x vs _ ho; cases vs <;> exact ho.elim
theorem zAv.heap {ids : Nat → Option Nat} {h h' : List Obj} : ∀ {b : Ty} {i : Nat} {x : b.I} {vs : List AV}, (∀ f id, ids f = some id → atN h' id = atN h id) → zAv ids h b i x vs → zAv ids h' b i x vs := by
  intro b
  induction b with
  | unit => intro i x vs _ ho; cases vs <;> exact ho
  | pair t b _ ihb =>
    intro i x vs hi ho
    cases vs with
    | nil => cases t <;> exact ho.elim
    | cons v vs =>
      cases t with
      | sl σ =>
        obtain ⟨⟨id, h1, h2, h3⟩, h4⟩ := ho
        exact ⟨⟨id, h1, h2, by rw [hi _ _ h2]; exact h3⟩, ihb hi h4⟩
      | _ => exact ⟨ho.1, ihb hi ho.2⟩
  | _ => intro i x vs _ ho; cases vs <;> exact ho.elim
theorem zU3 {h h0 h1 : List Obj} (hdr : ∀ i τ xs k, atN h i = some (.drow τ xs k) → τ.deep = true) {t : Ty} {x : t.I} (hz : zIv h0 t v = some (x, h1)) (l : zbB h0 h) :
    (v = .dat t x ∧ t.dl = false ∧ h1 = h0) ∨ ∃ (σ : Ty) (xs : List σ.I) (id : Nat), (⟨t, x⟩ : (τ : Ty) × τ.I) = ⟨.sl σ, xs⟩ ∧ v = .ow id ∧ atN h id = some (mkO σ (bif σ.deep then some (List.length xs) else none) xs) ∧ atN h0 id ≠ some .gone ∧ (∃ o, atN h0 id = some o) ∧ h1 = zg h0 id .gone := by
  cases v with
  | dat τ y =>
    simp only [zIv] at hz
    obtain ⟨hdl, hz⟩ := zbz hz
    split at hz
    · rename_i z hc
      cases hz
      obtain ⟨rfl, rfl⟩ := zR hc
      exact .inl ⟨rfl, hdl, rfl⟩
    · cases hz
  | ow id =>
    simp only [zIv] at hz
    right
    split at hz
    · rename_i τ xs ho
      obtain ⟨hd, hz⟩ := zbz hz
      split at hz
      · rename_i z hc
        cases hz
        obtain ⟨e, rfl⟩ := zR hc
        subst e
        refine ⟨τ, xs, id, rfl, rfl, ?_, (by rw [ho]; intro e; cases e), ⟨_, ho⟩, rfl⟩
        rw [l.at ho (by intro e; cases e), hd]
        rfl
      · cases hz
    · rename_i τ xs n ho
      split at hz
      · rename_i z hc
        obtain ⟨hn, hz⟩ := zd hz
        cases hz
        obtain ⟨e, rfl⟩ := zR hc
        subst e
        have hat := l.at ho (by intro e; cases e)
        refine ⟨τ, xs, id, rfl, rfl, ?_, (by rw [ho]; intro e; cases e), ⟨_, ho⟩, rfl⟩
        rw [hat, hdr _ _ _ _ hat, of_decide_eq_true hn]
        rfl
      · cases hz
    · cases hz
  | _ => cases hz
theorem zOa {h : List Obj} (hdr : ∀ i τ xs k, atN h i = some (.drow τ xs k) → τ.deep = true) : ∀ {b : Ty} {vs : List AV} {x : b.I} {h0 h1 : List Obj} (i : Nat), zMq b vs h0 = some (x, h1) → zbB h0 h →
    ∃ ids : Nat → Option Nat, zAv ids h b i x vs ∧ zbB h1 h ∧ (∀ f id, ids f = some id → i ≤ f ∧ atN h0 id ≠ some .gone ∧ atN h1 id = some .gone ∧ ∃ σ k xs, atN h id = some (mkO σ k xs)) ∧ (∀ j, atN h0 j = some .gone → atN h1 j = some .gone) ∧
      ∀ f f' id, ids f = some id → ids f' = some id → f = f' := by
  intro b
  induction b with
  | unit =>
    intro vs x h0 h1 i hz l
    cases vs with
    | nil => cases hz; exact ⟨fun _ => none, trivial, l, fun f id e => (by cases e), fun _ h => h, fun f f' id e => (by cases e)⟩
    | cons _ _ => cases hz
  | pair t b _ ihb =>
    intro vs x h0 h1 i hz l
    cases vs with
    | nil => cases hz
    | cons v vs =>
      simp only [zMq] at hz
      split at hz
      · rename_i y h2 hy
        split at hz
        · rename_i ys h3 hys
          cases hz
          rcases zU3 hdr hy l with ⟨rfl, hdl, rfl⟩ | ⟨σ, xs, id, e, rfl, hat, hng, ⟨o, ho⟩, rfl⟩
          · obtain ⟨ids, g1, g2, g3, g4, g5⟩ := ihb (i + 1) hys l
            refine ⟨ids, ?_, g2, fun f id hf => ⟨by have := (g3 f id hf).1; omega, (g3 f id hf).2⟩, g4, g5⟩
            cases t with
            | sl σ => cases hdl
            | _ => exact ⟨rfl, g1⟩
          · cases e
            obtain ⟨ids, g1, g2, g3, g4, g5⟩ := ihb (i + 1) hys (l.gone ho)
            have hid : atN (zg h0 id .gone) id = some .gone := za9 ho
            have hids : ∀ f, i + 1 ≤ f → (if f = i then some id else ids f) = ids f := fun f hf => by rw [if_neg (by omega)]
            refine ⟨fun f => if f = i then some id else ids f, ⟨⟨id, rfl, if_pos rfl, hat⟩, g1.ids hids⟩, g2, fun f id' hf => ?_, fun j hj => ?_, fun f f' id' hf hf' => ?_⟩
            · by_cases e : f = i
              · simp only [e, if_true, Option.some.injEq] at hf
                subst hf
                exact ⟨by omega, hng, g4 _ hid, σ, _, _, hat⟩
              · simp only [e, if_false] at hf
                obtain ⟨k1, k2, k3, k4⟩ := g3 f id' hf
                refine ⟨by omega, fun hg => k2 ?_, k3, k4⟩
                by_cases e2 : id = id'
                · rw [← e2]; exact hid
                · rw [qQ e2]; exact hg
            · refine g4 j ?_
              by_cases e2 : id = j
              · rw [← e2]; exact hid
              · rw [qQ e2]; exact hj
            · by_cases e : f = i <;> by_cases e' : f' = i
              · omega
              · simp only [e, if_true, Option.some.injEq] at hf
                simp only [e', if_false] at hf'
                subst hf
                exact absurd hid (g3 f' _ hf').2.1
              · simp only [e, if_false] at hf
                simp only [e', if_true, Option.some.injEq] at hf'
                subst hf'
                exact absurd hid (g3 f _ hf).2.1
              · simp only [e, if_false] at hf
                simp only [e', if_false] at hf'
                exact g5 f f' id' hf hf'
        · cases hz
      · cases hz
  | _ => intro vs x h0 h1 i hz l; cases vs <;> cases hz
def MM.ofI (m : MM) (ids : Nat → Option Nat) : Nat → Nat → List Nat → Option (Nat × Nat) := fun f => match ids f with | some id => m.d id | none => fun _ _ => none
theorem MM.ofI_some {m : MM} {ids : Nat → Option Nat} {f j : Nat} {p : List Nat} {b : Nat × Nat} (h : m.ofI ids f j p = some b) : ∃ id, ids f = some id ∧ m.d id j p = some b := by
  unfold MM.ofI at h
  cases hi : ids f with
  | none => rw [hi] at h; cases h
  | some id => rw [hi] at h; exact ⟨id, rfl, h⟩
theorem zSW (h : Rel P nt F0 w0 st m F a w) {ids : Nat → Option Nat} : ∀ {b : Ty} {i : Nat} {x : b.I} {vs : List AV} {cs : List Value}, zAv ids st.h b i x vs → qa P st.h m F b vs cs → zAq P F w (fun f => (ids f).bind m) (m.ofI ids) b i x cs := by
  intro b
  induction b with
  | unit =>
    intro i x vs cs ho hv
    cases vs with
    | nil => exact hv
    | cons _ _ => exact hv.elim
  | pair t b _ ihb =>
    intro i x vs cs ho hv
    cases vs with
    | nil => exact hv.elim
    | cons v vs =>
      obtain ⟨c, d, rfl, h1, h2⟩ := hv
      cases t with
      | sl σ =>
        obtain ⟨⟨id, rfl, hi, hat⟩, h4⟩ := ho
        obtain ⟨σ', u, e1, rfl, hs, _⟩ := h1
        cases e1
        refine ⟨u, d, rfl, ⟨fun j p bk n hp => ?_, ?_⟩, ihb h4 h2⟩
        · obtain ⟨id', hi', hp⟩ := MM.ofI_some hp
          rw [hi] at hi'; cases hi'
          obtain ⟨⟨o, g1, g2⟩, _⟩ := h.dok _ _ _ _ _ hp
          rw [hat] at g1
          cases g1
          cases hd : σ.deep with
          | false => rw [hd] at g2; cases g2
          | true =>
            rw [hd] at g2
            simp only [cond_true, mkO, Obj.deepAt, decide_eq_true_eq] at g2
            exact ⟨rfl, g2⟩
        · have hq := zZ.owAt hat (zBN _ _ _) hs
          show match (ids i).bind m with | some (b, n) => _ | none => _
          rw [hi, Option.bind_some]
          cases hmi : m id with
          | none =>
            rw [hmi] at hq
            exact ⟨zP0 (h.obs _ _ hat) hmi, hq.2⟩
          | some bn =>
            obtain ⟨bk, n⟩ := bn
            rw [hmi] at hq
            obtain ⟨cap, g1, g2, g3⟩ := hq
            refine ⟨cap, g1, g2, g3, ?_⟩
            have := zDc (h.obs _ _ hat) hmi
            have hd : m.ofI ids i = m.d id := by unfold MM.ofI; rw [hi]
            rw [hd]
            exact this
      | _ =>
        obtain ⟨rfl, h4⟩ := ho
        exact ⟨c, d, rfl, h1.2, ihb h4 h2⟩
  | _ => intro i x vs cs ho; cases vs <;> exact ho.elim
theorem ownB_of (h : Rel P nt F0 w0 st m F a w) {ids : Nat → Option Nat} (hat : ∀ f id, ids f = some id → ∃ σ k xs, atN st.h id = some (mkO σ k xs)) (hinj : ∀ f f' id, ids f = some id → ids f' = some id → f = f') : zTa F w w0.heap.size (fun f => (ids f).bind m) (m.ofI ids) := by
  refine ⟨fun f b n hf => ?_, fun f j p b n hp => ?_, fun f f' b n n' hf hf' => ?_, fun f j p b n f' j' p' n' hp hp' => ?_, fun f b n f' j p n' hf hp => ?_⟩
  · obtain ⟨id, hi, hf⟩ := Option.bind_eq_some_iff.1 hf
    obtain ⟨σ, k, xs, ho⟩ := hat f id hi
    obtain ⟨el, cs, c, d, _, _, _, hF, _⟩ := zDc (h.obs _ _ ho) hf
    have := h.rng _ _ _ hf
    exact ⟨this.2.1, this.2.2, hF⟩
  · obtain ⟨id, hi, hp⟩ := MM.ofI_some hp
    have := h.dok _ _ _ _ _ hp
    exact ⟨this.2.1, this.2.2.1, this.2.2.2.1⟩
  · obtain ⟨id, hi, hf⟩ := Option.bind_eq_some_iff.1 hf
    obtain ⟨id', hi', hf'⟩ := Option.bind_eq_some_iff.1 hf'
    have := h.inj _ _ _ _ _ hf hf'
    subst this
    exact hinj _ _ _ hi hi'
  · obtain ⟨id, hi, hp⟩ := MM.ofI_some hp
    obtain ⟨id', hi', hp'⟩ := MM.ofI_some hp'
    obtain ⟨rfl, e2, e3⟩ := h.din _ _ _ _ _ _ _ _ _ hp hp'
    exact ⟨hinj _ _ _ hi hi', e2, e3⟩
  · obtain ⟨id, hi, hf⟩ := Option.bind_eq_some_iff.1 hf
    obtain ⟨id', hi', hp⟩ := MM.ofI_some hp
    exact (h.dok _ _ _ _ _ hp).2.2.2.2 _ _ hf
theorem zVX {ρ : Type} {h : List Obj} {σ : Ty} {v : AV} {k : σ.I → List Obj → Option ρ} : zS7 h σ v k = (zIv h σ v).bind fun p => k p.1 p.2 := by
  unfold zS7 zIv
  cases v with
  | dat τ x =>
    simp only
    cases τ.dl with
    | true => rfl
    | false => simp only [cond_false]; cases jD τ σ x <;> rfl
  | ow id =>
    simp only
    cases atN h id with
    | none => rfl
    | some o =>
      cases o with
      | row τ xs f =>
        cases f with
        | true => rfl
        | false =>
          simp only
          cases τ.deep with
          | true => rfl
          | false => simp only [cond_false]; cases jD (.sl τ) σ xs <;> rfl
      | drow τ xs n =>
        simp only
        cases jD (.sl τ) σ xs with
        | none => rfl
        | some x => simp only; cases decide (n = List.length xs) <;> rfl
      | _ => rfl
  | _ => rfl
theorem zQe {ρ : Type} : ∀ {σ : Ty} {vs : List AV} {h : List Obj} {k : σ.I → List Obj → Option ρ}, zJ9 σ vs h k = (zMq σ vs h).bind fun p => k p.1 p.2 := by
  intro σ
  induction σ with
  | unit => intro vs h k; cases vs <;> rfl
  | pair a b _ ihb =>
    intro vs h k
    cases vs with
    | nil => rfl
    | cons v vs =>
      simp only [zJ9, zMq, zVX, ihb]
      cases zIv h a v with
      | none => rfl
      | some p =>
        obtain ⟨x, h1⟩ := p
        simp only [Option.bind_some]
        cases zMq b vs h1 <;> rfl
  | _ => intro vs h k; cases vs <;> rfl
theorem zU4 {md : Nat} {r : Ty} {y : r.I} {vs : List AV} {us : List Value} (h : Rel P nt F0 w0 st m F a w) (hv : zmj P st.h m F vs us) (hz : zS8 md r vs st = some y) :
    ∃ F', F0.grow F' w0.heap.size ∧ F'.ok w ∧ ztu P F' w w0.heap.size md r y us := by
  unfold zS8 at hz
  split at hz
  ·
    rename_i b c v vs
    split at hz
    · rename_i x h1 hx
      split at hz
      · rename_i p hp
        cases hz
        obtain ⟨u, r, rfl, hv1, hv2⟩ := hv
        obtain ⟨id, k, rfl, hat, rfl, hkr⟩ : ∃ id k, v = .ow id ∧ atN st.h id = some (mkO b k x) ∧ h1 = zg st.h id .gone ∧ (k = none ∨ k = some 0) := by
          unfold ownRow at hx
          split at hx
          · rename_i id
            split at hx
            · rename_i τ xs ho
              split at hx
              · rename_i z hc
                cases hx
                obtain ⟨e, rfl⟩ := zR hc
                cases e
                exact ⟨id, none, rfl, ho, rfl, .inl rfl⟩
              · cases hx
            · rename_i τ xs n ho
              split at hx
              · rename_i z hc
                obtain ⟨hn, hx⟩ := zd hx
                cases hx
                obtain ⟨e, rfl⟩ := zR hc
                cases e
                have hn : n = 0 := of_decide_eq_true hn
                subst hn
                exact ⟨id, some 0, rfl, ho, rfl, .inr rfl⟩
              · cases hx
            · cases hx
          · cases hx
        obtain ⟨st2fr, st2h⟩ := st
        have l : zbB (zg st2h id .gone) st2h := (zbB.refl st2h).gone hat
        obtain ⟨h', e1, e2, e3⟩ := zAu l (show vx false c vs ⟨st2fr, zg st2h id .gone⟩ = some (p.1, p.2) from hp)
        obtain ⟨m', F', g1, g2, g3⟩ := zhX e1 h hv2
        have hat' : atN h' id = some (mkO b k x) := by rw [(e3.2 id (za9 hat)).2]; exact hat
        have hq := zZ.owAt hat' (zBN _ _ _) (show zZ P h' m' F' (.ow id) u from hv1.ext g3)
        refine ⟨F', g1.gro, g1.fok, ?_⟩
        simp only [ztu]
        refine ⟨u, r, rfl, g2, ?_⟩
        cases hmi : m' id with
        | none =>
          rw [hmi] at hq
          exact .inr ⟨zP0 (g1.obs _ _ hat') hmi, hq.2⟩
        | some bn =>
          obtain ⟨bk, n⟩ := bn
          rw [hmi] at hq
          obtain ⟨cap, k1, k2, k3⟩ := hq
          obtain ⟨el, cs, cc, d, f1, f2, f3, f4, f5⟩ := zDc (g1.obs _ _ hat') hmi
          refine .inl ⟨bk, cap, el, cs, cc, d, k3, k2, (g1.rng _ _ _ hmi).2.1, f1, f4, by rw [f2, k1], f3, ?_⟩
          rcases hkr with rfl | rfl
          · exact f5
          · exact qf.toL (fun j x c _ _ hx => by unfold DE at hx; rw [if_neg (by omega)] at hx; exact hx) (show qf (DE P F' w (m'.d id) b 0) 0 x cc from f5)
      · cases hz
    · cases hz
  ·
    rename_i b c c' vs us'
    obtain ⟨hbc, hz⟩ := zd hz
    simp only [decide_eq_true_eq] at hbc
    rw [zQe] at hz
    obtain ⟨⟨x, h1⟩, hx, hz⟩ := Option.bind_eq_some_iff.1 hz
    · split at hz
      · rename_i p hp
        cases hz
        obtain ⟨u, r, rfl, hv1, hv2⟩ := hv
        obtain ⟨cs, rfl, hfs⟩ := (show zI P st.h m F (.fld c' vs) u from hv1)
        subst hbc
        obtain ⟨ids, k1, k2, k3, k4, k5⟩ := zOa (fun i τ xs k ho => (h.drowk ho).2) 0 hx (zbB.refl _)
        obtain ⟨st2fr, st2h⟩ := st
        obtain ⟨h', e1, e2, e3⟩ := zAu k2 (show vx false c us' ⟨st2fr, h1⟩ = some (p.1, p.2) from hp)
        obtain ⟨m', F', g1, g2, g3⟩ := zhX e1 h hv2
        have hkeep : ∀ f id, ids f = some id → atN h' id = atN st2h id := fun f id hf => (e3.2 id (k3 f id hf).2.2.1).2
        refine ⟨F', g1.gro, g1.fok, ?_⟩
        simp only [ztu]
        refine ⟨.agg cs, r, cs, _, _, rfl, g2, rfl, zSW g1 (k1.heap hkeep) (hfs.ext g3), ownB_of g1 (fun f id hf => ?_) k5⟩
        obtain ⟨σ, k, xs, ho⟩ := (k3 f id hf).2.2.2
        exact ⟨σ, k, xs, by rw [hkeep f id hf]; exact ho⟩
      · cases hz
  ·
    rename_i b c v us'
    rw [zQe] at hz
    obtain ⟨⟨x, h1⟩, hx, hz⟩ := Option.bind_eq_some_iff.1 hz
    · split at hz
      · rename_i p hp
        cases hz
        obtain ⟨u, r, rfl, hv1, hv2⟩ := hv
        obtain ⟨ids, k1, k2, k3, k4, k5⟩ := zOa (fun i τ xs k ho => (h.drowk ho).2) 0 hx (zbB.refl _)
        obtain ⟨⟨id, rfl, hi0, hat0⟩, _⟩ := (show (∃ id, v = .ow id ∧ ids 0 = some id ∧ atN st.h id = some (mkO b _ x.1)) ∧ _ from k1)
        have hT : zda st.h id = some b := by rw [zG9 hat0, zBN]; rfl
        have hfs : qa P st.h m F (.pair (.sl b) .unit) [.ow id] [u] := ⟨[u], [], rfl, zan.ofRow hT (show zZ P st.h m F (.ow id) u from hv1), rfl⟩
        obtain ⟨st2fr, st2h⟩ := st
        obtain ⟨h', e1, e2, e3⟩ := zAu k2 (show vx false c us' ⟨st2fr, h1⟩ = some (p.1, p.2) from hp)
        obtain ⟨m', F', g1, g2, g3⟩ := zhX e1 h hv2
        have hkeep : ∀ f id, ids f = some id → atN h' id = atN st2h id := fun f id hf => (e3.2 id (k3 f id hf).2.2.1).2
        refine ⟨F', g1.gro, g1.fok, ?_⟩
        simp only [ztu]
        refine ⟨u, r, _, _, rfl, g2, zSW g1 (k1.heap hkeep) (hfs.ext g3), ownB_of g1 (fun f id hf => ?_) k5⟩
        obtain ⟨σ, k, xs, ho⟩ := (k3 f id hf).2.2.2
        exact ⟨σ, k, xs, by rw [hkeep f id hf]; exact ho⟩
      · cases hz
  ·
    split at hz
    · rename_i p hp
      cases hz
      obtain ⟨m', F', g1, g2, _⟩ := zhX (x := p.1) (st' := p.2) hp h hv
      exact ⟨F', g1.gro, g1.fok, g2⟩
    · cases hz
  · cases hz
theorem zU5 (hm : P.follows .mixedOrders = true) (hE : zQ P G E) {fi : FuncId} {f : Func} (hf : P.funcs[fi]? = some f) {K md : Nat} {a r : Ty} {x : a.I} {y : r.I} (he : evF E K f md a r x = some y)
    {F0 : FH} {w : World} {vs : List Value} (hG : G.le F0) (hk : F0.ok w) (hr : vL P F0 a x vs) :
    Calls P fi vs.toArray w fun e w' => ∃ us F', e = .returned (zCZ us) ∧ Below w.heap.size w w' ∧ F0.grow F' w.heap.size ∧ F'.ok w' ∧ ztu P F' w' w.heap.size md r y us := by
  unfold evF at he
  cases hb : f.body with
  | none => rw [hb] at he; cases he
  | some c =>
    rw [hb] at he
    simp only at he
    have hE' : zQ P G { E with nt := f.ntmps } := ⟨hE.types, hE.funs, hE.glob, hE.ext⟩
    refine calls_of_wp hf hb ?_
    refine zWI (nt := f.ntmps) (F0 := F0) (w0 := w) hm hE' hG rfl c (r := y) ?_ ⟨_, F0, Rel.enter hk hr f.ntmps⟩ he
    rintro e st a' w' ⟨m, F, h⟩ hfin
    have hdone : (cond ((f.results.toList.map (zze { E with nt := f.ntmps } st)).all Option.isSome) (zS8 md r ((f.results.toList.map (zze { E with nt := f.ntmps } st)).filterMap id) st) none) = some y →
        a'.defers = [] ∧ ∃ v, (results f a'.tmps).run P w' = .ok v w' ∧ ∃ us F', Ending.returned v = .returned (zCZ us) ∧ Below w.heap.size w w' ∧ F0.grow F' w.heap.size ∧ F'.ok w' ∧ ztu P F' w' w.heap.size md r y us := by
      intro hfin
      obtain ⟨h1, h2⟩ := zd hfin
      obtain ⟨us, h3, h4⟩ := zR6 hE' h (zEn h1)
      obtain ⟨F', g1, g2, g3⟩ := zU4 h h4 h2
      exact ⟨h.dfr, _, h3, us, F', rfl, h.bel, g1, g2, g3⟩
    cases e with
    | normal => exact hdone hfin
    | ret => exact hdone hfin
    | exit id => cases hfin
end
end Go.Ev
end
section
namespace Go.Ev
open Go.RowKit Go.ChangeShapes
set_option linter.unusedSimpArgs false
set_option linter.unusedVariables false
def InR : (τ : Ty) → τ.I → Prop
  | .int k, n => (Lit.int k n).wf = true
  | .str, s => ByteArray.size s ≤ maxLen
  | .pair a b, x => InR a x.1 ∧ InR b x.2
  | .st a, x => InR a x
  | .arr n a, xs => List.length xs = n ∧ ∀ x ∈ (show List a.I from xs), InR a x
  | .sl a, xs => List.length xs ≤ maxLen ∧ ∀ x ∈ (show List a.I from xs), InR a x
  | _, _ => True
def Ty.data : Ty → Bool
  | .bool | .int _ | .str | .unit => true
  | .pair a b => a.data && b.data
  | .st a => a.data
  | .arr _ a => a.data
  | .sl a => a.data
  | _ => false
section
variable {P : Program} {H : Type} {enc : TypeId × Value → H} {w : World} {base : Nat} {sp : Nat → Bool} {held : Bool}
theorem zQf {a : Addr} {j : Nat} {v : Value} (h : w.cell? (a.add j) = some v) (h0 : a.spot = none ∨ j = 0) : a.spot = none ∧ ∃ c el fz, w.heap[a.block]? = some (.cells c el fz) ∧ c[a.off + j]? = some v := by
  have hs : a.spot = none := by
    rcases h0 with h0 | rfl
    · exact h0
    · have : a.add 0 = a := by unfold Addr.add; rfl
      rw [this] at h
      unfold World.cell? at h
      split at h
      · cases hsp : a.spot with
        | none => rfl
        | some x => rw [hsp] at h; simp at h
      · cases h
  refine ⟨hs, ?_⟩
  rw [zC3 hs] at h
  unfold World.cell? at h
  simp only at h
  split at h
  · rename_i c el fz hk
    exact ⟨c, el, fz, hk, by simpa using h⟩
  · cases h
theorem zQg {a : Addr} {n : Nat} {cs : List Value} (h : w.cells? base a n = some cs) (hn : 0 < n) : ∃ c, FH.of w a.block = some c ∧ a.spot = none ∧ ∀ (j : Nat) (v : Value), cs[j]? = some v → c[a.off + j]? = some v := by
  obtain ⟨hb, hl, hc⟩ := World.cells?_some h
  have h0 := hc 0 hn
  rw [List.getElem?_eq_getElem (by omega)] at h0
  obtain ⟨hs, c, el, fz, hk, _⟩ := zQf h0 (.inr rfl)
  refine ⟨c, by simp [FH.of, hk], hs, fun j v hv => ?_⟩
  have hj := (List.getElem?_eq_some_iff.1 hv).1
  have := hc j (by omega)
  rw [hv] at this
  obtain ⟨_, c', _, _, hk', h2⟩ := zQf this (.inl hs)
  rw [hk] at hk'
  cases hk'
  exact h2
theorem zSX {ad : Addr} {n : Nat} (hn : 0 < n) {c : Array Value} (hs : ad.spot = none) (hc : FH.of w ad.block = some c) : ∀ (m i0 : Nat) (css : List (List Value)), ((List.range' i0 m).mapM fun i => w.cells? base (ad.add (i * n)) n) = some css →
    ∀ (j : Nat) (v : Value), css.flatten[j]? = some v → c[ad.off + i0 * n + j]? = some v
  | 0, i0, css, h, j, v, hj => by simp at h; subst h; simp at hj
  | m + 1, i0, css, h, j, v, hj => by
    rw [List.range'_succ, List.mapM_cons] at h
    simp only [Option.bind_eq_bind, Option.bind_eq_some_iff, Option.pure_def, Option.some.injEq] at h
    obtain ⟨cs, h1, css', h2, rfl⟩ := h
    have hl := (World.cells?_some h1).2.1
    obtain ⟨c', h3, _, h5⟩ := zQg h1 hn
    rw [zC3 hs] at h3 h5
    simp only at h3 h5
    rw [hc] at h3
    cases h3
    rw [List.flatten_cons] at hj
    by_cases hjn : j < n
    · rw [List.getElem?_append_left (by omega)] at hj
      exact h5 j v hj
    · rw [List.getElem?_append_right (by omega), hl] at hj
      have := zSX hn hs hc m (i0 + 1) css' h2 (j - n) v hj
      rw [show ad.off + i0 * n + j = ad.off + (i0 + 1) * n + (j - n) by rw [Nat.add_mul]; omega]
      exact this
theorem zII {α : Type} {R : α → List Value → Prop} {f : Nat → Option (List Value)} {g : List Value → Option (DataW H × List MemPlace)} {I : α → Prop} (hg : ∀ cs y, g cs = some y → ∃ x, R x cs ∧ I x) :
    ∀ (l : List Nat) (ys : List (DataW H × List MemPlace)), (l.mapM fun i => (f i).bind g) = some ys → ∃ (xs : List α) (css : List (List Value)), xs.length = l.length ∧ l.mapM f = some css ∧ zu R xs css.flatten ∧ ∀ x ∈ xs, I x
  | [], ys, h => ⟨[], [], rfl, rfl, rfl, by simp⟩
  | i :: l, ys, h => by
    rw [List.mapM_cons] at h
    simp only [Option.bind_eq_bind, Option.bind_eq_some_iff, Option.pure_def, Option.some.injEq] at h
    obtain ⟨y, ⟨cs, hcs, hy⟩, ys', h2, rfl⟩ := h
    obtain ⟨x, hx, hI⟩ := hg cs y hy
    obtain ⟨xs, css, h3, h4, h5, h6⟩ := zII hg l ys' h2
    refine ⟨x :: xs, cs :: css, by simp [h3], ?_, ⟨cs, css.flatten, rfl, hx, h5⟩, ?_⟩
    · rw [List.mapM_cons, hcs, h4]; rfl
    · intro z hz
      rcases List.mem_cons.1 hz with rfl | hz
      · exact hI
      · exact h6 z hz
theorem zBQ {cs : List Value} {n : Nat} : ∀ (m i0 : Nat) (css : List (List Value)), (i0 + m) * n ≤ cs.length → ((List.range' i0 m).mapM fun i => some ((cs.drop (i * n)).take n)) = some css → css.flatten = (cs.drop (i0 * n)).take (m * n)
  | 0, i0, css, _, h => by simp at h; subst h; simp
  | m + 1, i0, css, hl, h => by
    rw [List.range'_succ, List.mapM_cons] at h
    simp only [Option.bind_eq_bind, Option.bind_some, Option.bind_eq_some_iff, Option.pure_def, Option.some.injEq] at h
    obtain ⟨css', h2, rfl⟩ := h
    have := zBQ m (i0 + 1) css' (by rw [show i0 + 1 + m = i0 + (m + 1) by omega]; exact hl) h2
    rw [List.flatten_cons, this, Nat.add_mul i0 1 n, Nat.one_mul, ← List.drop_drop, show (m + 1) * n = n + m * n by rw [Nat.add_mul]; omega, List.take_add]
theorem zVY : ∀ (τ : Ty), τ.data = true →
    (∀ (fuel : Nat) (t : TypeId) (cs : List Value) (x : DataW H × List MemPlace), τ.np = true → z9 P t τ → DataW.trod enc P w base sp held fuel t cs = some x → ∃ y, Rep P (FH.of w) τ y cs ∧ InR τ y) ∧
    (∀ (fuel : Nat) (fs : List Field) (off : Nat) (cs : List Value) (xs : List (DataW H × List MemPlace)), (tyB P τ).2 fs off = true → (fs.mapM fun f => DataW.trod enc P w base sp held fuel f.type ((cs.drop f.offset).take (P.cellsOf f.type))) = some xs → cs.length = off + nc τ → ∃ y, Rep P (FH.of w) τ y (cs.drop off) ∧ InR τ y) := by
  intro τ
  induction τ with
  | unit =>
    intro _
    refine ⟨fun fuel t cs x _ h => (by cases h), fun fuel fs off cs xs h _ hl => ⟨(), ?_, trivial⟩⟩
    show cs.drop off = []
    rw [List.drop_eq_nil_iff]
    simp only [nc] at hl
    omega
  | bool =>
    intro _
    refine ⟨fun fuel t cs x _ h hx => ?_, fun fuel fs off cs xs h => (by cases h)⟩
    have hu : P.underlying t = some .bool := by
      simp only [z9, tyB, Bool.and_eq_true] at h
      have := h.2
      split at this
      · assumption
      · cases this
    cases fuel with
    | zero => simp [DataW.trod] at hx
    | succ fuel =>
      unfold DataW.trod at hx
      rw [hu] at hx
      split at hx <;> first | (cases hx; done) | skip
      all_goals first | exact ⟨_, rfl, trivial⟩ | (rename_i hh; simp at hh)
  | int k =>
    intro _
    refine ⟨fun fuel t cs x _ h hx => ?_, fun fuel fs off cs xs h => (by cases h)⟩
    have hu : P.underlying t = some (.int k) := by
      simp only [z9, tyB, Bool.and_eq_true] at h
      have := h.2
      split at this
      · simp only [decide_eq_true_eq] at this; subst this; assumption
      · cases this
    cases fuel with
    | zero => simp [DataW.trod] at hx
    | succ fuel =>
      unfold DataW.trod at hx
      rw [hu] at hx
      split at hx <;> first | (cases hx; done) | skip
      · rename_i hh; cases hh
      · rename_i k1 k2 n hh
        cases hh
        split at hx
        · rename_i hc; obtain ⟨rfl, hw⟩ := hc; exact ⟨n, rfl, hw⟩
        · cases hx
      all_goals (rename_i hh; simp at hh)
  | str =>
    intro _
    refine ⟨fun fuel t cs x _ h hx => ?_, fun fuel fs off cs xs h => (by cases h)⟩
    have hu : P.underlying t = some .string := by
      simp only [z9, tyB, Bool.and_eq_true] at h
      have := h.2
      split at this
      · assumption
      · cases this
    cases fuel with
    | zero => simp [DataW.trod] at hx
    | succ fuel =>
      unfold DataW.trod at hx
      rw [hu] at hx
      split at hx <;> first | (cases hx; done) | skip
      all_goals first
        | (rename_i hh; simp at hh; done)
        | (rename_i s hh; split at hx; · rename_i hc; exact ⟨s, rfl, hc⟩
           · cases hx)
        | skip
  | pair a b iha ihb =>
    intro hd
    simp only [Ty.data, Bool.and_eq_true] at hd
    refine ⟨fun fuel t cs x _ h hx => ?_, fun fuel fs off cs xs h hx hl => ?_⟩
    · rename_i hnp; cases hnp
    · cases fs with
      | nil => cases h
      | cons f fs =>
        simp only [tyB, Bool.and_eq_true] at h
        obtain ⟨⟨⟨⟨h1, h2⟩, h3⟩, _⟩, h4⟩ := h
        obtain rfl := Nat.eq_of_beq_eq_true h1
        obtain ⟨i, hi, hsz⟩ := z9.size h2 (Ty.np_spec h3.2)
        rw [List.mapM_cons] at hx
        simp only [Option.bind_eq_bind, Option.bind_eq_some_iff, Option.pure_def, Option.some.injEq] at hx
        obtain ⟨x1, hx1, xs2, hx2, _⟩ := hx
        have hcells : P.cellsOf f.type = nc a := by unfold Program.cellsOf; rw [hi]; exact hsz
        rw [hcells] at hx1
        obtain ⟨y1, g1, g2⟩ := (iha hd.1).1 fuel f.type _ x1 h3.2 h2 hx1
        simp only [nc] at hl
        obtain ⟨y2, g3, g4⟩ := (ihb hd.2).2 fuel fs (f.offset + nc a) cs xs2 h4 hx2 (by omega)
        refine ⟨(y1, y2), ⟨_, _, ?_, g1, g3⟩, g2, g4⟩
        rw [← List.drop_drop, List.take_append_drop]
  | st a iha =>
    intro hd
    refine ⟨fun fuel t cs x _ h hx => ?_, fun fuel fs off cs xs h => (by cases h)⟩
    obtain ⟨fs, hu, hf, _⟩ := z9.st h
    obtain ⟨i, hi, hsz⟩ := z9.size h (by intro a b e; cases e)
    have hcells : P.cellsOf t = nc a := by unfold Program.cellsOf; rw [hi]; exact hsz
    cases fuel with
    | zero => simp [DataW.trod] at hx
    | succ fuel =>
      unfold DataW.trod at hx
      rw [hu] at hx
      simp only at hx
      split at hx
      · rename_i hl
        simp only [Option.map_eq_some_iff] at hx
        obtain ⟨xs, hx, _⟩ := hx
        obtain ⟨y, g1, g2⟩ := (iha hd).2 fuel fs.toList 0 cs xs hf hx (by omega)
        exact ⟨y, g1, g2⟩
      · cases hx
  | arr n a iha =>
    intro hd
    refine ⟨fun fuel t cs x _ h hx => ?_, fun fuel fs off cs xs h => (by cases h)⟩
    obtain ⟨e, hu, he, hpos, hnp, _⟩ := z9.arr h
    obtain ⟨i, hi, hsz⟩ := z9.size h (by intro a b e; cases e)
    obtain ⟨ie, hie, hsze⟩ := z9.size he (Ty.np_spec hnp)
    have hcells : P.cellsOf t = n * nc a := by unfold Program.cellsOf; rw [hi]; exact hsz
    have hcellse : P.cellsOf e = nc a := by unfold Program.cellsOf; rw [hie]; exact hsze
    cases fuel with
    | zero => simp [DataW.trod] at hx
    | succ fuel =>
      unfold DataW.trod at hx
      rw [hu] at hx
      simp only at hx
      split at hx
      · rename_i hl
        simp only [Option.map_eq_some_iff] at hx
        obtain ⟨xs, hx, _⟩ := hx
        rw [hcellse] at hx
        obtain ⟨ys, css, h1, h2, h3, h4⟩ := zII (f := fun i => some ((cs.drop (i * nc a)).take (nc a))) (g := DataW.trod enc P w base sp held fuel e) (R := Rep P (FH.of w) a) (I := InR a) (fun cs y hy => (iha hd).1 fuel e cs y hnp he hy) (List.range n) xs hx
        rw [List.range_eq_range'] at h2
        have := zBQ n 0 css (by rw [Nat.zero_add]; omega) h2
        rw [this] at h3
        simp only [Nat.zero_mul, List.drop_zero] at h3
        rw [List.take_of_length_le (by omega)] at h3
        refine ⟨ys, ⟨by simpa using h1, h3⟩, by simpa using h1, h4⟩
      · cases hx
  | sl a iha =>
    intro hd
    refine ⟨fun fuel t cs x _ h hx => ?_, fun fuel fs off cs xs h => (by cases h)⟩
    obtain ⟨e, hu, he, hpos, hnp⟩ := z9.sl h
    obtain ⟨ie, hie, hsze⟩ := z9.size he (Ty.np_spec hnp)
    have hcellse : P.cellsOf e = nc a := by unfold Program.cellsOf; rw [hie]; exact hsze
    cases fuel with
    | zero => simp [DataW.trod] at hx
    | succ fuel =>
      unfold DataW.trod at hx
      rw [hu] at hx
      split at hx <;> first | (cases hx; done) | skip
      all_goals first
        | (rename_i hh; cases hh; done)
        | exact ⟨[], ⟨_, 0, rfl, Nat.le_refl _, fun hne => absurd rfl hne⟩, Nat.zero_le _, fun x hx => by cases hx⟩
        | skip
      rename_i e' ad len cap heq
      simp only [Option.some.injEq, TypeDesc.slice.injEq] at heq
      subst heq
      simp only at hx
      split at hx
      · rename_i hc
        simp only [Option.bind_eq_some_iff] at hx
        obtain ⟨elems, hx, _⟩ := hx
        rw [hcellse] at hx
        obtain ⟨ys, css, h1, h2, h3, h4⟩ := zII (f := fun i => w.cells? base (ad.add (i * nc a)) (nc a)) (g := DataW.trod enc P w base sp held fuel e) (R := Rep P (FH.of w) a) (I := InR a) (fun cs y hy => (iha hd).1 fuel e cs y hnp he hy) (List.range len) elems hx
        rw [List.length_range] at h1
        refine ⟨ys, ⟨some ad, cap, by rw [h1], by rw [h1]; exact hc.2.1, fun hne => ?_⟩, (show ys.length ≤ maxLen by omega), h4⟩
        have hlen : 0 < len := by
          rw [← h1]
          exact List.length_pos_iff.2 hne
        rw [List.range_eq_range'] at h2
        obtain ⟨m, rfl⟩ : ∃ m, len = m + 1 := ⟨len - 1, by omega⟩
        have h2' := h2
        rw [List.range'_succ, List.mapM_cons] at h2'
        simp only [Option.bind_eq_bind, Option.bind_eq_some_iff, Option.pure_def, Option.some.injEq] at h2'
        obtain ⟨cs0, g1, _⟩ := h2'
        rw [Nat.zero_mul, show ad.add 0 = ad from rfl] at g1
        obtain ⟨c, g2, g3, g4⟩ := zQg g1 hpos
        refine ⟨ad, css.flatten, rfl, ⟨g3, c, g2, fun j v hv => ?_⟩, h3⟩
        have := zSX hpos g3 g2 (m + 1) 0 css h2 j v hv
        simpa using this
      · cases hx
  | ptr a => intro hd; cases hd
  | fn a b => intro hd; cases hd
def tyL (P : Program) : Ty → List TypeId → Bool
  | .unit, [] => true
  | .pair a b, t :: ts => (tyB P a).1 t && a.np && a.data && tyL P b ts
  | _, _ => false
theorem zIc : ∀ {τ : Ty} {ts : List TypeId} {vs : List Value} {ds : List (DataW H)} {ps : List MemPlace}, tyL P τ ts = true → DataW.TrodAll enc P w base sp held ts vs ds ps → (∀ (j : Nat) (t : TypeId) (v : Value), ts[j]? = some t → vs[j]? = some v → ∃ W r b, Value.okWide P W r b t v) →
    ∃ x, vL P (FH.of w) τ x vs ∧ InR τ x
  | .unit, [], [], [], ps, _, _, _ => ⟨(), rfl, trivial⟩
  | .pair a b, t :: ts, v :: vs, d :: ds, ps, h, hr, hf => by
    simp only [tyL, Bool.and_eq_true] at h
    obtain ⟨⟨⟨h1, h2⟩, h3⟩, h4⟩ := h
    obtain ⟨p, q, ⟨fuel, h5⟩, h6, _⟩ := hr
    obtain ⟨y, g1, g2⟩ := (zVY a h3).1 fuel t v.cells.toList (d, p) h2 h1 h5
    obtain ⟨x, g3, g4⟩ := zIc h4 h6 fun j t v ht hv => hf (j + 1) t v (by simpa using ht) (by simpa using hv)
    refine ⟨(y, x), ⟨v, vs, rfl, g1, ?_, g3⟩, g2, g4⟩
    obtain ⟨W, r, b0, hform⟩ := hf 0 t v rfl rfl
    obtain ⟨de, hu, hagg⟩ := z9.isAgg h1
    unfold Value.okWide at hform
    rw [hu] at hform
    rw [← hagg]
    have hno : ∀ cs, v = .agg cs → Cell.okWide P W r b0 t v → (match de with | .struct _ | .array _ _ => true | _ => false) = false → False := by
      rintro cs rfl hc hde
      unfold Cell.okWide at hc
      rw [hu] at hc
      cases de <;> simp [Cell.ok, hu] at hc hde
    cases de <;> simp only at hform hno ⊢
    case struct => obtain ⟨cs, rfl, _⟩ := hform; rfl
    case array => obtain ⟨cs, rfl, _⟩ := hform; rfl
    all_goals (cases v <;> first | rfl | exact (hno _ rfl hform trivial).elim)
  | .unit, [], [], _ :: _, _, _, h, _ => h.elim
  | .unit, [], _ :: _, _, _, _, h, _ => (by cases h)
  | .unit, _ :: _, _, _, _, h, _, _ => (by cases h)
  | .pair _ _, [], _, _, _, h, _, _ => (by cases h)
  | .pair _ _, _ :: _, [], _, _, _, h, _ => (by cases h)
  | .pair _ _, _ :: _, _ :: _, [], _, _, h, _ => (by cases h)
  | .bool, _, _, _, _, h, _, _ => (by cases h)
  | .int _, _, _, _, _, h, _, _ => (by cases h)
  | .str, _, _, _, _, h, _, _ => (by cases h)
  | .st _, _, _, _, _, h, _, _ => (by cases h)
  | .arr _ _, _, _, _, _, h, _, _ => (by cases h)
  | .sl _, _, _, _, _, h, _, _ => (by cases h)
  | .ptr _, _, _, _, _, h, _, _ => (by cases h)
  | .fn _ _, _, _, _, _, h, _, _ => (by cases h)
theorem zEo {W W' : World} (hl : laidOutB P = true) (hb : Below W.heap.size W W') : ∀ {ts : List TypeId} {vs : List Value} {ds : List (DataW H)} {ps : List MemPlace},
    (∀ t ∈ ts, P.readableRec t = true ∧ t < P.types.size) → DataW.TrodAll enc P W 0 (fun _ => true) true ts vs ds ps → (∀ x ∈ ps, x.block < W.heap.size) → ∀ s : Nat → Bool, (∀ p ∈ ps, s p.block = true) → DataW.TrodAll enc P W' 0 s true ts vs ds ps
  | [], [], [], ps, _, h, _, s, _ => h
  | t :: ts, v :: vs, d :: ds, ps, ht, ⟨p, q, h1, h2, e⟩, hlt, s, hs => by
    subst e
    have h0 := ht t (by simp)
    refine ⟨p, q, ?_, zEo hl hb (fun t' h' => ht t' (by simp [h'])) h2 (fun x hx => hlt x (by simp [hx])) s (fun x hx => hs x (by simp [hx])), rfl⟩
    exact WideElems.Trod_stays hl h0.1 h0.2 h1 (fun x hx => hb.same (hlt x (by simp [hx]))) (fun x hx => hs x (by simp [hx]))
  | [], [], _ :: _, _, _, h, _, _, _ => h.elim
  | [], _ :: _, _, _, _, h, _, _, _ => h.elim
  | _ :: _, [], _, _, _, h, _, _, _ => h.elim
  | _ :: _, _ :: _, [], _, _, h, _, _, _ => h.elim
end
section
variable {P : Program} {H : Type} {enc : TypeId × Value → H}
theorem zQh {fi : FuncId} {f : Func} {a : Ty} {tb : TypeId} {spec : ChangeSpec} {W : World} {base : Nat} {args : Array Value} {ds gs : List (DataW H)} {before : List MemPlace}
    (hl : laidOutB P = true) (hts : ∀ t ∈ f.params.toList, P.readableRec t = true ∧ t < P.types.size) (hty : tyL P a f.params.toList = true) (hres : f.resultTypes = #[tb]) (hbool : P.underlying tb = some .bool) (hvars : spec.vars = [])
    (hfn : ∀ ds : List (DataW H), ds.length = f.params.size → spec.fn H ds = { results := [.lit (.bool true)], args := ds })
    (hval : ∀ (j : Nat) t v, f.params[j]? = some t → args[j]? = some v → Value.okWide P W .any base t v)
    (hW : DataW.Whole enc P f.params.toList spec.vars false W args.toList ds gs before)
    (hcall : ∀ x, InR a x → vL P (FH.of W) a x args.toList → Calls P fi args W fun e W' => e = .returned (.bool true) ∧ Below W.heap.size W W') :
    Calls P fi args W fun e W' => ∃ v, e = .returned v ∧ spec.post enc P f false true false false W args v W' := by
  have hW' := hW
  obtain ⟨p, q, hA, hV, rfl, hfz, hnd⟩ := hW
  rw [hvars] at hV
  obtain ⟨rfl, rfl⟩ := trodVars_none hV
  have hlt : ∀ x ∈ p, x.block < W.heap.size := fun x hx => by simpa using hW'.lt x (by simp [hx])
  obtain ⟨x, hx, hin⟩ := zIc (w := W) hty hA fun j t v ht hv => ⟨W, .any, base, hval j t v (by rw [← Array.getElem?_toList]; exact ht) (by rw [← Array.getElem?_toList]; exact hv)⟩
  have hlen : ∀ {ts : List TypeId} {vs : List Value} {ds : List (DataW H)} {ps : List MemPlace}, DataW.TrodAll enc P W 0 (fun _ => true) true ts vs ds ps → ds.length = ts.length := by
    intro ts
    induction ts with
    | nil => intro vs ds ps h; cases vs <;> cases ds <;> first | rfl | exact h.elim
    | cons t ts ih => intro vs ds ps h; cases vs <;> cases ds <;> first | exact h.elim | (obtain ⟨_, _, _, h2, _⟩ := h; simp [ih h2])
  have hfn' := hfn ds (by rw [hlen hA]; simp)
  refine (hcall x hin hx).mono fun e W' ⟨he, hb⟩ => ?_
  subst he
  simp only [List.append_nil] at *
  refine ⟨_, rfl, ds, [], p, [], p, [], hW', ?_, ?_, ?_, hb.frame _, fun h => (by cases h)⟩
  · rw [List.append_nil, hfn', hres]
    exact trodAll_cons_mk (shut_bool hbool _) trodAll_mk0
  · rw [List.append_nil, hfn']
    exact zEo hl hb hts hA hlt _ (fun x hx => by simpa using hlt x hx)
  · rw [List.append_nil, hfn', hvars]
    rfl
end
end Go.Ev
end
section
namespace Go.Ev
open Go.RowKit
set_option linter.unusedSimpArgs false
set_option linter.unusedVariables false
section
variable {P : Program} {G : FH} {E : Env}
theorem zC1.mk (hm : P.follows .mixedOrders = true) (hE : zQ P G E) {fi : FuncId} {f : Func} (hf : P.funcs[fi]? = some f) (hn : (f.name == "runtime.NumGoroutine") = false) (hb : f.body.isNone = false)
    {F : Fun} (h : ∀ x y, F.spec x = some y → ∃ K, evF E K f F.md F.a F.r x = some y) : zC1 P G fi F := by
  refine ⟨⟨f, hf, hn, hb⟩, fun x y hy F0 w vs hG hk hr => ?_⟩
  obtain ⟨K, he⟩ := h x y hy
  exact zU5 hm hE hf he hG hk hr
theorem zQ.nil {types : TT} {nt : Nat} {dp : Bool} (ht : types.all (fun k τ => (tyB P τ).1 k) = true) {glob : List (Nat × AV)} (hg : ∀ g v, look glob g = some v → ∃ τ x cs, v = .dat (.ptr τ) (some x) ∧ At G ⟨g, 0, none⟩ cs ∧ Rep P G τ x cs) {ext : List (Nat × Bool)} {jn : List Nat} (hx : ∀ f add, look ext f = some add → zTg P f add) : zQ P G ⟨types, [], glob, nt, dp, ext, jn⟩ :=
  ⟨fun t τ h => TT.all_look ht h, fun f F h => by simp [look] at h, hg, hx⟩
theorem zQ.deep (hE : zQ P G E) (d : Bool) : zQ P G { E with deep := d } := ⟨hE.types, hE.funs, hE.glob, hE.ext⟩
theorem zQ.cons (hE : zQ P G E) {fi : FuncId} {F : Fun} (h : zC1 P G fi F) : zQ P G { E with funs := (fi, F) :: E.funs } := by
  refine ⟨hE.types, fun f F' h' => ?_, hE.glob, hE.ext⟩
  simp only [look] at h'
  cases hb : Nat.beq fi f with
  | true =>
    rw [hb] at h'
    simp only [cond_true, Option.some.injEq] at h'
    subst h'
    rw [← Nat.eq_of_beq_eq_true hb]
    exact h
  | false => rw [hb] at h'; exact hE.funs f F' h'
end
end Go.Ev
end
section
namespace Go.Ev
set_option linter.unusedSimpArgs false
set_option linter.unusedVariables false
theorem zQi {n : Nat} (h : n ≤ Go.maxLen) : IntKind.wrap .i64 (n : Int) = (n : Int) := by
  unfold Go.maxLen at h
  exact IntWalk.i64_in _ (by omega)
def zar {α : Type} (p : α → Bool) : List α → Int → Int
  | [], _ => -1
  | x :: xs, i => cond (p x) i (zar p xs (i + 1))
theorem zIJ {α : Type} {p : α → Bool} : ∀ (xs : List α) (i : Int), 0 ≤ i → decide (zar p xs i ≥ 0) = xs.any p
  | [], _, _ => rfl
  | x :: xs, i, h => by
    have ih := zIJ (p := p) xs (i + 1) (by omega)
    simp only [zar, List.any_cons]
    by_cases hp : p x = true
    · simp [hp, h]
    · simp only [Bool.not_eq_true] at hp
      simp only [hp, cond_false, Bool.false_or]
      exact ih
end Go.Ev
end
section
namespace Go.Ev
set_option linter.unusedVariables false
theorem zTI {i len : Nat} (h : i < len) (hl : len ≤ Go.maxLen) : IntKind.wrap .i64 ((i : Int) + 1) = (i : Int) + 1 := by
  rw [show (i : Int) + 1 = ((i + 1 : Nat) : Int) by omega]
  exact zQi (by omega)
theorem zgI {α : Type} {l : List α} {i : Nat} (d : α) (h : i < l.length) : l.drop i = l.getD i d :: l.drop (i + 1) := by
  rw [List.drop_eq_getElem_cons h]
  simp [List.getD, h]
theorem zVZ {σ ρ : Type} {L : Nat → Int → σ → Option ρ} {len : Nat} (hl : len ≤ Go.maxLen) (F : Nat → σ → Option ρ) (I : Nat → σ → Prop)
    (hstep : ∀ n i s, i < len → I i s → (∀ s', I (i + 1) s' → L n ((i : Int) + 1) s' = F (i + 1) s') → L (n + 1) (i : Int) s = F i s)
    (hend : ∀ n s, I len s → L (n + 1) (len : Int) s = F len s) :
    ∀ (k i n : Nat) (s : σ), i + k = len → k < n → I i s → L n (i : Int) s = F i s := by
  intro k
  induction k with
  | zero =>
    intro i n s hi hn hI
    obtain ⟨m, rfl⟩ : ∃ m, n = m + 1 := ⟨n - 1, by omega⟩
    obtain rfl : i = len := by omega
    exact hend m s hI
  | succ k ih =>
    intro i n s hi hn hI
    obtain ⟨m, rfl⟩ : ∃ m, n = m + 1 := ⟨n - 1, by omega⟩
    refine hstep m i s (by omega) hI fun s' hI' => ?_
    have := ih (i + 1) m s' (by omega) (by omega) hI'
    rw [show (i : Int) + 1 = ((i + 1 : Nat) : Int) by omega]
    exact this
theorem zU6 {σ ρ : Type} {L : Nat → Int → σ → Option ρ} {len : Nat} (hl : len ≤ Go.maxLen) (F : Nat → σ → Option ρ) (I : Nat → σ → Prop)
    (hstep : ∀ n i s, i < len → I i s → (∀ s', I (i + 1) s' → L n ((i : Int) + 1) s' = F (i + 1) s') → L (n + 1) (i : Int) s = F i s)
    (hend : ∀ n s, I len s → L (n + 1) (len : Int) s = F len s) (n : Nat) (hn : len < n) (s : σ) (h0 : I 0 s) : L n 0 s = F 0 s :=
  zVZ hl F I hstep hend len 0 n s (by omega) hn h0
end Go.Ev
end
section
namespace Go.Ev
set_option linter.unusedVariables false
abbrev Fnc (A R : Ty) : Type := A.I → Option R.I
def iter {σ ρ : Type} (B : (σ → Option ρ) → σ → Option ρ) : Nat → σ → Option ρ
  | 0, _ => none
  | n + 1, s => B (iter B n) s
noncomputable def evV {σ : Type} (E : Env) (K : Nat) (f : Func) (md : Nat) (R : Ty) (p ns : List Nat) (S : σ → St) (n : Nat) : σ → Option R.I := fun s => evL E K f md R p ns n (S s)
theorem zQj {E : Env} {K : Nat} {f : Func} {md : Nat} {R : Ty} {p ns : List Nat} {st : St} : evL E K f md R p ns 0 st = none := by
  unfold evL
  split
  · split <;> rfl
  · rfl
theorem zx {σ : Type} {E : Env} {K : Nat} {f : Func} {md : Nat} {R : Ty} {p ns : List Nat} {S : σ → St} {B : (σ → Option R.I) → σ → Option R.I}
    (h : ∀ n s, evV E K f md R p ns S (n + 1) s = B (evV E K f md R p ns S n) s) : ∀ n, evV E K f md R p ns S n = iter B n
  | 0 => by funext s; exact zQj
  | n + 1 => by funext s; rw [h, zx h n]; rfl
theorem zoe {σ τ : Type} {E : Env} {K : Nat} {f : Func} {md : Nat} {R : Ty} {p ns : List Nat} {S : σ → St} {B : (τ → Option R.I) → (σ → Option R.I) → σ → Option R.I} {V1 : Nat → τ → Option R.I} {W1 : (σ → Option R.I) → τ → Option R.I}
    (h1 : ∀ n, V1 n = W1 (evV E K f md R p ns S n)) (h : ∀ n s, evV E K f md R p ns S (n + 1) s = B (V1 n) (evV E K f md R p ns S n) s) : ∀ n, evV E K f md R p ns S n = iter (fun k => B (W1 k) k) n :=
  zx fun n s => by rw [← h1]; exact h n s
def zKF {σ τ ρ : Type} (B0 : (τ → Option ρ) → σ → Option ρ) (B1 : (τ → Option ρ) → τ → Option ρ) : Nat → σ → Option ρ
  | 0, _ => none
  | n + 1, s => B0 (iter B1 n) s
theorem zU7 {σ τ : Type} {E : Env} {K : Nat} {f : Func} {md : Nat} {R : Ty} {p ns : List Nat} {S0 : σ → St} {S1 : τ → St} {B0 : (τ → Option R.I) → σ → Option R.I} {B1 : (τ → Option R.I) → τ → Option R.I}
    (h1 : ∀ n, evV E K f md R p ns S1 n = iter B1 n) (h : ∀ n s, evV E K f md R p ns S0 (n + 1) s = B0 (evV E K f md R p ns S1 n) s) : ∀ n, evV E K f md R p ns S0 n = zKF B0 B1 n
  | 0 => by funext s; exact zQj
  | n + 1 => by funext s; rw [h, h1]; rfl
theorem tr1 {α X Y : Type} {T : α → X → Y} {V W : α} (h : V = W) {F : X → Y} (hx : ∀ x, F x = T V x) : F = T W := by subst h; funext x; exact hx x
def En (E : Env) (d : Bool) (l : List Fun) : Env := ⟨E.types, l.map fun F => (F.id, F), E.glob, 0, d, E.ext, []⟩
def Sd (P : Program) (E : Env) (F : Fun) : Prop := ∀ G, zQ P G E → zC1 P G F.id F
def Sds (P : Program) (E : Env) : List Fun → Prop
  | [] => True
  | F :: l => Sd P E F ∧ Sds P E l
def zV0 (f : Func) : Bool := !(f.name == "runtime.NumGoroutine") && !f.body.isNone
theorem Sds.env {P : Program} {E : Env} {l : List Fun} {d : Bool} {G : FH} (h : Sds P E l) (hE : zQ P G E) : zQ P G (En E d l) := by
  refine ⟨hE.types, ?_, hE.glob, hE.ext⟩
  intro f F hf
  have key : ∀ l : List Fun, Sds P E l → look (l.map fun F => (F.id, F)) f = some F → zC1 P G f F := by
    intro l
    induction l with
    | nil => intro _ h; cases h
    | cons F' l ih =>
      intro hs hl
      simp only [List.map_cons, look] at hl
      cases hb : Nat.beq F'.id f with
      | true =>
        rw [hb] at hl
        cases hl
        rw [← Nat.eq_of_beq_eq_true hb]
        exact hs.1 G hE
      | false => rw [hb] at hl; exact ih hs.2 hl
  exact key l h hf
theorem Sd.mk {P : Program} {E : Env} {l : List Fun} {d : Bool} {F : Fun} {f : Func} {K : Nat} (hm : P.follows .mixedOrders = true) (hl : Sds P E l) (hf : P.funcs[F.id]? = some f) (ho : zV0 f = true)
    (h : evF (En E d l) K f F.md F.a F.r = F.spec) : Sd P E F := by
  intro G hE
  unfold zV0 at ho
  simp only [Bool.and_eq_true, Bool.not_eq_true'] at ho
  exact zC1.mk hm (hl.env hE) hf ho.1 ho.2 fun x y hy => ⟨K, by rw [h]; exact hy⟩
def inR {ρ : Type} (i n : Int) (x : Option ρ) : Option ρ := cond (decide (0 ≤ i)) (cond (decide (i < n)) x none) none
theorem zU8 {ρ : Type} {i n : Int} {x : Option ρ} (h0 : 0 ≤ i) (h1 : i < n) : inR i n x = x := by unfold inR; rw [decide_eq_true h0, decide_eq_true h1]; rfl
abbrev ix {α : Type} (d : α) (l : List α) (i : Int) : α := List.getD l (Int.toNat i) d
def K0 : Nat := Go.maxLen + 2
theorem zPC {n : Nat} (h : n ≤ Go.maxLen) : n < K0 := by unfold K0; omega
abbrev tI : Ty := .int .i64
abbrev tU : Ty := .int .u64
abbrev wI (n : Int) : Int := IntKind.wrap .i64 n
abbrev wU (n : Int) : Int := IntKind.wrap .u64 n
end Go.Ev
end
section
namespace Go.Ev
set_option linter.unusedVariables false
set_option linter.unusedSimpArgs false
theorem zkd {σ α ρ : Type} {B : (σ → Option ρ) → σ → Option ρ} {len : Nat} (hl : len ≤ Go.maxLen) (st : Int → α → σ) (F : Nat → α → Option ρ) (I : Nat → α → Prop)
    (hstep : ∀ k (i : Nat) s, i < len → I i s → (∀ s', I (i + 1) s' → k (st (wI (i + 1)) s') = F (i + 1) s') → B k (st i s) = F i s)
    (hend : ∀ k s, I len s → B k (st len s) = F len s) (s : α) (h0 : I 0 s) : iter B K0 (st 0 s) = F 0 s := by
  refine zU6 (L := fun n i s => iter B n (st i s)) hl F I (fun n i s hi hI h => ?_) (fun n s hI => hend _ s hI) K0 (zPC hl) s h0
  refine hstep _ i s hi hI fun s' hI' => ?_
  rw [wI, zTI hi hl]
  exact h s' hI'
theorem vm {α : Type} {l : List α} {i : Nat} {d : α} (h : i < l.length) : l.getD i d ∈ l := by
  rw [List.getD_eq_getElem?_getD, List.getElem?_eq_getElem h]
  exact List.getElem_mem h
theorem qd (p : Bool) : some (p, ()) = bif p then some (true, ()) else some (false, ()) := by cases p <;> rfl
theorem zV1 {σ α ρ : Type} {B : (σ → Option ρ) → σ → Option ρ} {l : List α} (d : α) {p : α → Bool} {fin bad : Option ρ} (st : Int → σ) (hl : l.length ≤ Go.maxLen)
    (hin : ∀ k (i : Nat) x, i < l.length → l.getD i d = x → x ∈ l → B k (st i) = bif p x then k (st (wI (i + 1))) else bad) (hout : ∀ k, B k (st l.length) = fin) : iter B K0 (st 0) = bif l.all p then fin else bad := by
  have := zkd (α := Unit) (B := B) hl (fun i _ => st i) (fun i _ => bif (l.drop i).all p then fin else bad) (fun _ _ => True) (fun k i s hi _ h => ?_) (fun k s _ => ?_) () trivial
  · simpa using this
  · rw [hin k i _ hi rfl (vm hi), h () trivial, zgI d hi, List.all_cons]
    cases p (l.getD i d) <;> rfl
  · rw [hout, List.drop_of_length_le (Nat.le_refl _)]; rfl
theorem zFL {σ α β ρ : Type} {B : (σ → Option ρ) → σ → Option ρ} {l : List β} (d : β) (st : Int → α → σ) (G : List β → α → Option ρ) (hl : l.length ≤ Go.maxLen)
    (hin : ∀ k (i : Nat) x rest s, i < l.length → l.getD i d = x → x ∈ l → l.drop (i + 1) = rest → (∀ s', k (st (wI (i + 1)) s') = G rest s') → B k (st i s) = G (x :: rest) s) (hout : ∀ k s, B k (st l.length s) = G [] s) (s : α) : iter B K0 (st 0 s) = G l s := by
  have := zkd (B := B) hl st (fun i s => G (l.drop i) s) (fun _ _ => True) (fun k i s hi _ h => ?_) (fun k s _ => ?_) s trivial
  · simpa using this
  · rw [zgI d hi]
    exact hin k i _ _ s hi rfl (vm hi) rfl fun s' => h s' trivial
  · rw [hout, List.drop_of_length_le (Nat.le_refl _)]
def qM (p : Nat → Bool) (i : Nat) : Nat → Bool
  | 0 => true
  | n + 1 => p i && qM p (i + 1) n
theorem yb {p : Nat → Bool} : ∀ {n i : Nat}, qM p i n = true ↔ ∀ j, i ≤ j → j < i + n → p j = true
  | 0, i => by simp only [qM, true_iff]; intro j h1 h2; omega
  | n + 1, i => by
    simp only [qM, Bool.and_eq_true, yb (n := n)]
    constructor
    · rintro ⟨h1, h2⟩ j h3 h4
      by_cases e : j = i
      · subst e; exact h1
      · exact h2 j (by omega) (by omega)
    · intro h
      exact ⟨h i (Nat.le_refl i) (by omega), fun j h1 h2 => h j (by omega) (by omega)⟩
theorem zas {σ ρ : Type} {B : (σ → Option ρ) → σ → Option ρ} {i0 n : Nat} (hn : n ≤ Go.maxLen) (h0 : i0 ≤ n) {p : Nat → Bool} {fin bad : Option ρ} (st : Int → σ)
    (hin : ∀ k (i : Nat), i0 ≤ i → i < n → B k (st i) = bif p i then k (st (wI (i + 1))) else bad) (hout : ∀ k, B k (st n) = fin) : iter B K0 (st i0) = bif qM p i0 (n - i0) then fin else bad := by
  have key : ∀ (m i fuel : Nat), i0 ≤ i → i + m = n → m < fuel → iter B fuel (st i) = bif qM p i m then fin else bad := by
    intro m
    induction m with
    | zero =>
      intro i fuel _ h1 h2
      obtain ⟨f, rfl⟩ : ∃ f, fuel = f + 1 := ⟨fuel - 1, by omega⟩
      obtain rfl : i = n := by omega
      exact hout _
    | succ m ih =>
      intro i fuel h1 h2 h3
      obtain ⟨f, rfl⟩ : ∃ f, fuel = f + 1 := ⟨fuel - 1, by omega⟩
      show B (iter B f) (st i) = _
      rw [hin _ i h1 (by omega), wI, zTI (len := n) (by omega) hn, show ((i : Int) + 1) = ((i + 1 : Nat) : Int) by omega, ih (i + 1) f (by omega) (by omega) (by omega)]
      simp only [qM]
      cases p i <;> rfl
  exact key (n - i0) i0 K0 (Nat.le_refl _) (by omega) (by have := zPC hn; omega)
theorem zMF {i : Nat} (h : 1 ≤ i) (hi : i ≤ Go.maxLen) : wI ((i : Int) - 1) = ((i - 1 : Nat) : Int) := by
  rw [show ((i : Int) - 1) = ((i - 1 : Nat) : Int) by omega]
  exact zQi (by omega)
section
variable {τ : Ty} {l : List τ.I} {g : τ.I × Unit → Option (Bool × Unit)} {p : τ.I → Bool}
theorem qo {ρ : Type} {i n : Nat} {x : Option ρ} (h : i < n) : inR (i : Int) (n : Int) x = x := zU8 (by omega) (by omega)
theorem ltT {i n : Nat} (h : i < n) : decide ((i : Int) < (n : Int)) = true := decide_eq_true (by omega)
theorem ltF (n : Nat) : decide ((n : Int) < (n : Int)) = false := decide_eq_false (by omega)
theorem vM {α : Type} {d : α} {l : List α} {i : Nat} : ix d l (i : Int) = l.getD i d := by rw [ix, Int.toNat_natCast]
theorem jz {B : ((List τ.I × Option (τ.I × Unit → Option (Bool × Unit)) × Int × Int) → Option (Int × Unit)) → (List τ.I × Option (τ.I × Unit → Option (Bool × Unit)) × Int × Int) → Option (Int × Unit)}
    (hB : ∀ k l g n i, B k (l, g, n, i) = bif decide (i < n) then inR i (List.length l : Int) (Option.bind g fun q0 => Option.bind (q0 (ix (zb τ) l i, ())) fun q1 => bif q1.1 then some (i, ()) else k (l, g, n, wI (i + 1))) else some (-1, ()))
    (hl : l.length ≤ Go.maxLen) (hp : ∀ x ∈ l, g (x, ()) = some (p x, ())) : iter B K0 (l, some g, (l.length : Int), 0) = some (zar p l 0, ()) := by
  have := zkd (α := Unit) (B := B) hl (fun i _ => (l, some g, (l.length : Int), i)) (fun i _ => some (zar p (l.drop i) i, ())) (fun _ _ => True) (fun k i s hi _ h => ?_) (fun k s _ => ?_) () trivial
  · simpa using this
  · rw [hB, ltT hi, qo hi, vM, Option.bind_some, hp _ (vm hi), Option.bind_some, h () trivial, zgI (zb τ) hi]
    simp only [zar, cond_true]
    cases p (l.getD i (zb τ)) <;> rfl
  · rw [hB, ltF, List.drop_of_length_le (Nat.le_refl _)]; rfl
theorem qN {f : Fnc (.pair (.sl τ) (.pair (.fn (.pair τ .unit) (.pair .bool .unit)) .unit)) (.pair (.int .i64) .unit)} (hf : f (l, some g, ()) = some (zar p l 0, ())) :
    (Option.bind (f (l, some g, ())) fun q0 => bif decide ((q0.1 : Int) ≥ 0) then some (true, ()) else some (false, ())) = some (l.any p, ()) := by
  rw [hf, Option.bind_some, zIJ (p := p) l 0 (Int.le_refl 0)]
  cases l.any p <;> rfl
theorem yi {α : Type} {l : List α} {p : α → Bool} : (!(l.any fun x => !p x)) = l.all p := by
  rw [List.not_any_eq_all_not]
  congr 1
  funext x
  simp
theorem zHg (a b : Nat) : ((a : Int) != (b : Int)) = !decide (a = b) := by
  by_cases h : a = b
  · subst h; simp
  · have : (a : Int) ≠ (b : Int) := by omega
    simp [h, this]
theorem zOb {x : Option (List τ.I × Unit)} (h : l.length ≤ lim) (hx : x = bif decide (List.length (List.replicate 0 (zb τ)) + List.length l ≤ lim) then some (List.replicate 0 (zb τ) ++ l, ()) else none) :
    (bif List.isEmpty l then both (some ([], ())) x else x) = some (l, ()) := by
  have e : x = some (l, ()) := by rw [hx, decide_eq_true (by simpa using h)]; rfl
  rw [e]
  cases l with
  | nil => exact zUV _
  | cons y l => rfl
end
end Go.Ev
end
section
namespace Go.Proofs.YtaokpakfhdeiiaaGreatDoor
open Go.Ev
set_option linter.unusedVariables false
abbrev zW : Ty := .st (.pair (.int .i64) (.pair (.int .i64) .unit))
abbrev qX : Type := (Int × (Int × Unit))
abbrev zMG : qX := zb zW
abbrev tMe : Ty := .st (.pair (.int .i64) (.pair (.int .i64) (.pair (.int .i64) .unit)))
abbrev pMe : Type := (Int × (Int × (Int × Unit)))
abbrev qU : Ty := .st (.pair .bool (.pair .str .unit))
abbrev jm : Type := (Bool × (ByteArray × Unit))
abbrev zvG : jm := zb qU
abbrev qj : Ty := .st (.pair .bool (.pair zW (.pair zW (.pair (.int .i64) .unit))))
abbrev z3 : Type := (Bool × (qX × (qX × (Int × Unit))))
abbrev zak : z3 := zb qj
abbrev qi : Ty := .st (.pair .bool (.pair .str (.pair (.int .i64) (.pair (.int .i64) (.pair zW .unit)))))
abbrev z8 : Type := (Bool × (ByteArray × (Int × (Int × (qX × Unit)))))
abbrev zgM : z8 := zb qi
abbrev qu : Ty := .st (.pair .bool (.pair (.int .i64) (.pair (.int .i64) (.pair (.int .i64) (.pair .str .unit)))))
abbrev qk : Type := (Bool × (Int × (Int × (Int × (ByteArray × Unit)))))
abbrev zPD : qk := zb qu
abbrev ziP : Ty := .st (.pair (.int .i64) (.pair (.int .u64) (.pair (.int .i64) .unit)))
abbrev zsO : Type := (Int × (Int × (Int × Unit)))
abbrev zA : Ty := .st (.pair .bool (.pair (.int .i64) (.pair (.int .i64) (.pair ziP (.pair ziP .unit)))))
abbrev zm : Type := (Bool × (Int × (Int × (zsO × (zsO × Unit)))))
abbrev jX : zm := zb zA
abbrev zp : Ty := .st (.pair .bool (.pair (.int .i64) (.pair (.int .i64) (.pair (.int .i64) (.pair (.int .i64) (.pair (.int .i64) (.pair (.int .u64) (.pair (.int .u64) (.pair (.int .u64) (.pair (.int .i64) .unit))))))))))
abbrev zl : Type := (Bool × (Int × (Int × (Int × (Int × (Int × (Int × (Int × (Int × (Int × Unit))))))))))
abbrev qD : zl := zb zp
abbrev zy : Ty := .st (.pair (.int .u64) (.pair (.int .i64) (.pair (.int .i64) (.pair (.int .i64) (.pair (.int .i64) (.pair (.int .i64) (.pair (.int .i64) (.pair (.int .u64) (.pair (.int .u64) (.pair (.int .i64) .unit))))))))))
abbrev zC : Type := (Int × (Int × (Int × (Int × (Int × (Int × (Int × (Int × (Int × (Int × Unit))))))))))
abbrev zoA : zC := zb zy
abbrev zfQ : Ty := .st (.pair (.int .i64) (.pair (.int .i64) (.pair (.int .i64) (.pair (.int .i64) (.pair (.int .i64) (.pair (.int .u64) .unit))))))
abbrev za0 : Type := (Int × (Int × (Int × (Int × (Int × (Int × Unit))))))
abbrev jQ : za0 := zb zfQ
abbrev zJ : Ty := .st (.pair (.int .i64) (.pair (.int .u64) .unit))
abbrev zD : Type := (Int × (Int × Unit))
abbrev za1 : zD := zb zJ
abbrev yT : Ty := .st (.pair (.int .i64) (.pair (.int .i64) .unit))
abbrev qm : Type := (Int × (Int × Unit))
abbrev vz : qm := zb yT
abbrev jG : Ty := .st (.pair .str (.pair .str (.pair (.int .i64) (.pair .bool .unit))))
abbrev qY : Type := (ByteArray × (ByteArray × (Int × (Bool × Unit))))
abbrev zwb : qY := zb jG
abbrev zat : Ty := .st (.pair (.sl zA) (.pair (.fn (.pair zA .unit) (.pair .bool .unit)) .unit))
abbrev yJ : Type := ((List zm) × ((Option ((zm × Unit) → Option (Bool × Unit))) × Unit))
abbrev zbr : Ty := .st (.pair (.sl zp) (.pair (.fn (.pair zp .unit) (.pair .bool .unit)) .unit))
abbrev zau : Type := ((List zl) × ((Option ((zl × Unit) → Option (Bool × Unit))) × Unit))
abbrev zHh : Ty := .st (.pair (.int .i64) (.pair (.int .i64) (.pair zW .unit)))
abbrev zBR : Type := (Int × (Int × (qX × Unit)))
abbrev zu7 : Ty := .st (.pair (.int .u8) (.pair (.int .u8) .unit))
abbrev zL : Ty := .st (.pair (.sl zJ) (.pair (.sl (.int .i64)) (.pair (.sl jG) (.pair (.sl yT) (.pair (.sl zfQ) (.pair (.int .i64) (.pair (.int .i64) (.pair (.int .i64) (.pair (.int .i64) .unit)))))))))
abbrev ze : Type := ((List zD) × ((List Int) × ((List qY) × ((List qm) × ((List za0) × (Int × (Int × (Int × (Int × Unit)))))))))
abbrev zi : Ty := .st (.pair (.sl qU) (.pair (.sl qj) (.pair (.sl qi) (.pair (.sl qu) (.pair (.sl zA) (.pair (.sl (.arr 4 (.int .u64))) (.pair (.sl zW) (.pair (.arr 4 (.int .u64)) (.pair (.arr 4 (.int .u64)) .unit)))))))))
abbrev zj : Type := ((List jm) × ((List z3) × ((List z8) × ((List qk) × ((List zm) × ((List (List Int)) × ((List qX) × ((List Int) × ((List Int) × Unit)))))))))
abbrev za : zj := zb zi
abbrev qV : Ty := .st (.pair (.int .u64) (.pair (.sl zi) (.pair (.sl (.sl (.int .i64))) (.pair (.sl zp) (.pair (.sl zy) (.pair (.sl (.int .i64)) .unit))))))
abbrev zq : Type := (Int × ((List zj) × ((List (List Int)) × ((List zl) × ((List zC) × ((List Int) × Unit))))))
abbrev qy : Ty := .st (.pair zL (.pair qV .unit))
abbrev qp : Type := (ze × (zq × Unit))
def types : TT := (.node (.node (.node (.node (.node (.node (.node (.node (.node .nil 1 (.fn .unit .unit) .nil) 2 (.int .i64) .nil) 3 (.int .i64) (.node .nil 4 .bool .nil)) 5 (.int .u8) (.node (.node .nil 6 (.int .u8) .nil) 7 (.st (.pair (.int .i64) (.pair (.int .i64) (.pair .bool (.pair (.int .u8) .unit))))) (.node .nil 8 (.st (.pair (.int .i64) (.pair (.int .i64) (.pair .bool (.pair (.int .u8) .unit))))) .nil))) 9 .str (.node (.node (.node .nil 10 .str .nil) 11 .str (.node .nil 12 (.int .u64) .nil)) 21 (.int .i32) (.node (.node .nil 22 (.sl zJ) .nil) 23 (.sl (.int .i64)) (.node .nil 24 (.sl jG) .nil)))) 25 (.sl yT) (.node (.node (.node (.node (.node .nil 26 (.sl zfQ) .nil) 27 (.st (.pair (.sl zJ) (.pair (.sl (.int .i64)) (.pair (.sl jG) (.pair (.sl yT) (.pair (.sl zfQ) (.pair (.int .i64) (.pair (.int .i64) (.pair (.int .i64) (.pair (.int .i64) .unit)))))))))) .nil) 28 zL (.node .nil 29 (.int .u64) .nil)) 30 (.sl zi) (.node (.node .nil 31 (.sl (.sl (.int .i64))) .nil) 32 (.sl zp) (.node .nil 33 (.sl zy) .nil))) 34 (.st (.pair (.int .u64) (.pair (.sl zi) (.pair (.sl (.sl (.int .i64))) (.pair (.sl zp) (.pair (.sl zy) (.pair (.sl (.int .i64)) .unit))))))) (.node (.node (.node .nil 35 qV .nil) 36 (.st (.pair (.int .i64) (.pair (.int .i64) .unit))) (.node .nil 37 zW .nil)) 38 (.int .i64) (.node (.node .nil 40 (.fn (.pair zL .unit) (.pair qV (.pair (.int .i64) .unit))) .nil) 41 (.fn (.pair zL .unit) (.pair .bool .unit)) (.node .nil 42 (.fn (.pair qV (.pair qV .unit)) (.pair .bool .unit)) .nil))))) 43 (.fn (.pair zL .unit) (.pair qV .unit)) (.node (.node (.node (.node (.node (.node .nil 44 (.fn (.pair zL (.pair qV .unit)) (.pair .bool .unit)) .nil) 46 (.fn (.pair qV (.pair (.int .i64) .unit)) (.pair (.int .u64) (.pair (.int .i64) .unit))) .nil) 47 (.fn (.pair zL (.pair qV (.pair zW .unit))) (.pair .bool .unit)) (.node .nil 48 (.fn (.pair qV (.pair zW .unit)) (.pair .bool .unit)) .nil)) 49 (.st (.pair (.int .i64) (.pair (.int .i64) (.pair (.int .i64) .unit)))) (.node (.node .nil 50 tMe .nil) 52 (.fn (.pair zL (.pair qV (.pair (.int .i64) .unit))) (.pair tMe (.pair (.int .i64) .unit))) (.node .nil 53 (.fn .unit (.pair .bool .unit)) .nil))) 54 (.fn (.pair zL (.pair qV (.pair zW (.pair (.int .i64) (.pair (.int .i64) .unit))))) (.pair .bool .unit)) (.node (.node (.node .nil 55 (.fn (.pair qV .unit) (.pair qV .unit)) .nil) 56 (.sl qU) (.node .nil 57 (.sl qj) .nil)) 58 (.sl qi) (.node (.node .nil 59 (.sl qu) .nil) 60 (.sl zA) (.node .nil 61 (.sl (.arr 4 (.int .u64))) .nil)))) 62 (.sl zW) (.node (.node (.node (.node .nil 63 (.arr 4 (.int .u64)) .nil) 64 (.st (.pair (.sl qU) (.pair (.sl qj) (.pair (.sl qi) (.pair (.sl qu) (.pair (.sl zA) (.pair (.sl (.arr 4 (.int .u64))) (.pair (.sl zW) (.pair (.arr 4 (.int .u64)) (.pair (.arr 4 (.int .u64)) .unit)))))))))) (.node .nil 65 zi .nil)) 66 (.st (.pair .bool (.pair .str .unit))) (.node (.node .nil 67 qU .nil) 68 (.st (.pair .bool (.pair zW (.pair zW (.pair (.int .i64) .unit))))) (.node .nil 69 qj .nil))) 70 (.st (.pair .bool (.pair .str (.pair (.int .i64) (.pair (.int .i64) (.pair zW .unit)))))) (.node (.node (.node .nil 71 qi .nil) 72 (.st (.pair .bool (.pair (.int .i64) (.pair (.int .i64) (.pair (.int .i64) (.pair .str .unit)))))) (.node .nil 73 qu .nil)) 74 (.st (.pair (.int .i64) (.pair (.int .u64) (.pair (.int .i64) .unit)))) (.node (.node .nil 75 ziP .nil) 76 (.st (.pair .bool (.pair (.int .i64) (.pair (.int .i64) (.pair ziP (.pair ziP .unit)))))) (.node .nil 77 zA .nil)))))) 78 (.st (.pair .bool (.pair (.int .i64) (.pair (.int .i64) (.pair (.int .i64) (.pair (.int .i64) (.pair (.int .i64) (.pair (.int .u64) (.pair (.int .u64) (.pair (.int .u64) (.pair (.int .i64) .unit))))))))))) (.node (.node (.node (.node (.node (.node (.node .nil 79 zp .nil) 80 (.st (.pair (.int .u64) (.pair (.int .i64) (.pair (.int .i64) (.pair (.int .i64) (.pair (.int .i64) (.pair (.int .i64) (.pair (.int .i64) (.pair (.int .u64) (.pair (.int .u64) (.pair (.int .i64) .unit))))))))))) .nil) 81 zy (.node .nil 82 (.fn (.pair zL (.pair zW .unit)) (.pair .bool .unit)) .nil)) 83 (.fn (.pair zL (.pair qV (.pair tMe .unit))) (.pair .bool .unit)) (.node (.node .nil 84 (.fn (.pair zL (.pair tMe .unit)) (.pair .bool .unit)) .nil) 85 (.fn (.pair zL (.pair (.int .i64) (.pair (.int .i64) .unit))) (.pair .bool .unit)) (.node .nil 86 (.fn (.pair zL .unit) (.pair (.sl (.sl (.int .i64))) .unit)) .nil))) 87 (.st (.pair (.int .i64) (.pair (.int .i64) (.pair (.int .i64) (.pair (.int .i64) (.pair (.int .i64) (.pair (.int .u64) .unit))))))) (.node (.node (.node .nil 88 zfQ .nil) 89 (.fn (.pair zL (.pair zfQ .unit)) (.pair zi .unit)) (.node .nil 90 (.fn (.pair (.sl zJ) .unit) (.pair .bool .unit)) .nil)) 91 (.fn (.pair (.sl jG) .unit) (.pair .bool .unit)) (.node (.node .nil 92 (.fn (.pair (.sl yT) (.pair (.sl zJ) (.pair (.int .i64) .unit))) (.pair .bool .unit)) .nil) 93 (.fn (.pair (.sl zfQ) .unit) (.pair .bool .unit)) (.node .nil 94 (.fn (.pair (.sl (.sl (.int .i64))) (.pair (.sl (.sl (.int .i64))) .unit)) (.pair .bool .unit)) .nil)))) 95 (.fn (.pair (.sl zp) (.pair (.sl zp) .unit)) (.pair .bool .unit)) (.node (.node (.node (.node .nil 96 (.fn (.pair (.sl zy) (.pair (.sl zy) .unit)) (.pair .bool .unit)) .nil) 97 (.fn (.pair zi (.pair zi .unit)) (.pair .bool .unit)) (.node .nil 98 (.fn (.pair zL (.pair qV (.pair (.int .i64) .unit))) (.pair .bool .unit)) .nil)) 99 (.fn (.pair (.int .i64) .unit) (.pair .bool .unit)) (.node (.node .nil 100 (.fn (.pair (.sl zp) (.pair (.int .i64) .unit)) (.pair (.int .u64) (.pair (.int .i64) .unit))) .nil) 101 (.sl (.int .u64)) (.node .nil 102 (.fn (.pair (.sl zA) (.pair (.int .i64) .unit)) (.pair (.int .u64) (.pair (.int .i64) .unit))) .nil))) 103 (.fn (.pair (.sl (.int .u64)) .unit) (.pair (.int .u64) (.pair (.int .i64) .unit))) (.node (.node (.node .nil 104 (.fn (.pair (.int .u64) (.pair (.int .u64) .unit)) (.pair (.int .u64) (.pair (.int .i64) .unit))) .nil) 105 (.fn (.pair qV (.pair (.int .i64) (.pair (.fn (.pair zi .unit) (.pair (.arr 4 (.int .u64)) .unit)) .unit))) (.pair (.int .u64) (.pair (.int .i64) .unit))) (.node .nil 106 (.fn (.pair zi .unit) (.pair (.arr 4 (.int .u64)) .unit)) .nil)) 107 (.st (.pair zL (.pair qV .unit))) (.node (.node .nil 108 qy .nil) 109 (.sl (.fn .unit (.pair .bool .unit))) (.node .nil 110 (.fn (.pair zL (.pair (.sl (.sl (.int .i64))) (.pair (.int .i64) (.pair (.int .i64) .unit)))) (.pair .bool .unit)) .nil))))) 111 (.fn .unit (.pair zL .unit)) (.node (.node (.node (.node (.node (.node .nil 112 (.fn (.pair (.sl zp) .unit) (.pair (.sl zp) .unit)) .nil) 113 (.fn (.pair (.sl zy) .unit) (.pair (.sl zy) .unit)) .nil) 114 (.fn (.pair (.sl (.int .i64)) .unit) (.pair (.sl (.int .i64)) .unit)) (.node .nil 115 (.fn (.pair (.sl (.sl (.int .i64))) .unit) (.pair (.sl (.sl (.int .i64))) .unit)) .nil)) 116 (.fn (.pair (.sl zi) .unit) (.pair (.sl zi) .unit)) (.node (.node .nil 117 (.fn (.pair (.sl qU) .unit) (.pair (.sl qU) .unit)) .nil) 118 (.fn (.pair (.sl qj) .unit) (.pair (.sl qj) .unit)) (.node .nil 119 (.fn (.pair (.sl qi) .unit) (.pair (.sl qi) .unit)) .nil))) 120 (.fn (.pair (.sl qu) .unit) (.pair (.sl qu) .unit)) (.node (.node (.node .nil 121 (.fn (.pair (.sl zA) .unit) (.pair (.sl zA) .unit)) .nil) 122 (.fn (.pair (.sl (.arr 4 (.int .u64))) .unit) (.pair (.sl (.arr 4 (.int .u64))) .unit)) (.node .nil 123 (.fn (.pair (.sl zW) .unit) (.pair (.sl zW) .unit)) .nil)) 124 (.fn (.pair (.sl zi) (.pair (.sl zi) (.pair (.fn (.pair zi (.pair zi .unit)) (.pair .bool .unit)) .unit))) (.pair .bool .unit)) (.node (.node .nil 125 (.fn (.pair (.sl (.sl (.int .i64))) (.pair (.sl (.sl (.int .i64))) (.pair (.fn (.pair (.sl (.int .i64)) (.pair (.sl (.int .i64)) .unit)) (.pair .bool .unit)) .unit))) (.pair .bool .unit)) .nil) 126 (.fn (.pair (.sl (.int .i64)) (.pair (.sl (.int .i64)) .unit)) (.pair .bool .unit)) (.node .nil 127 (.sl (.fn (.pair zL .unit) (.pair .bool .unit))) .nil)))) 128 (.fn (.pair zL (.pair (.int .i64) .unit)) (.pair .bool .unit)) (.node (.node (.node (.node .nil 129 (.fn (.pair zJ (.pair zJ .unit)) (.pair .bool .unit)) .nil) 130 (.st (.pair (.int .i64) (.pair (.int .u64) .unit))) (.node .nil 131 zJ .nil)) 132 (.st (.pair (.int .i64) (.pair (.int .i64) .unit))) (.node (.node .nil 133 yT .nil) 134 (.fn (.pair zJ .unit) (.pair .bool .unit)) (.node .nil 135 (.fn (.pair zJ (.pair zJ .unit)) (.pair (.int .i64) .unit)) .nil))) 136 (.fn (.pair .str .unit) (.pair .bool .unit)) (.node (.node (.node .nil 137 (.st (.pair .str (.pair .str (.pair (.int .i64) (.pair .bool .unit))))) .nil) 138 jG (.node .nil 139 (.fn (.pair (.sl zJ) (.pair zJ .unit)) (.pair (.int .i64) .unit)) .nil)) 140 (.fn (.pair (.int .i64) .unit) (.pair zJ .unit)) (.node (.node .nil 141 (.fn (.pair zJ (.pair (.int .i64) .unit)) (.pair .bool .unit)) .nil) 142 (.fn (.pair (.sl yT) (.pair (.int .i64) .unit)) (.pair .bool .unit)) (.node .nil 143 (.fn (.pair (.sl qU) (.pair (.sl qU) .unit)) (.pair .bool .unit)) .nil))))))) 144 (.fn (.pair (.sl qj) (.pair (.sl qj) .unit)) (.pair .bool .unit)) (.node (.node (.node (.node (.node (.node (.node (.node .nil 145 (.fn (.pair (.sl qi) (.pair (.sl qi) .unit)) (.pair .bool .unit)) .nil) 146 (.fn (.pair (.sl qu) (.pair (.sl qu) .unit)) (.pair .bool .unit)) .nil) 147 (.fn (.pair (.sl zA) (.pair (.sl zA) .unit)) (.pair .bool .unit)) (.node .nil 148 (.fn (.pair zL (.pair (.sl (.sl (.int .i64))) .unit)) (.pair .bool .unit)) .nil)) 149 (.fn (.pair (.sl zp) .unit) (.pair .bool .unit)) (.node (.node .nil 150 (.fn (.pair (.sl zy) .unit) (.pair .bool .unit)) .nil) 151 (.fn (.pair (.sl qU) .unit) (.pair .bool .unit)) (.node .nil 152 (.fn (.pair (.sl qj) .unit) (.pair .bool .unit)) .nil))) 153 (.fn (.pair (.sl qi) .unit) (.pair .bool .unit)) (.node (.node (.node .nil 154 (.fn (.pair (.sl qu) .unit) (.pair .bool .unit)) .nil) 155 (.fn (.pair (.sl zA) .unit) (.pair .bool .unit)) (.node .nil 156 (.fn (.pair zL (.pair qV (.pair zW (.pair (.int .i64) .unit)))) (.pair .bool .unit)) .nil)) 157 (.fn (.pair zL (.pair qV (.pair (.int .i64) (.pair (.int .i64) .unit)))) (.pair .bool .unit)) (.node (.node .nil 158 (.fn (.pair zL (.pair zi (.pair (.int .i64) .unit))) (.pair .bool .unit)) .nil) 159 (.fn (.pair (.sl zp) .unit) (.pair (.sl (.int .i64)) .unit)) (.node .nil 160 (.fn (.pair zp .unit) (.pair (.int .i64) .unit)) .nil)))) 161 (.ptr zat) (.node (.node (.node (.node .nil 162 (.fn (.pair (.sl zA) .unit) (.pair (.ptr zat) .unit)) .nil) 163 (.fn .unit (.pair (.sl (.int .i64)) .unit)) (.node .nil 164 (.fn (.pair zp (.pair (.int .i64) .unit)) (.pair (.int .u64) .unit)) .nil)) 166 (.fn (.pair (.int .u64) (.pair (.int .u64) (.pair (.int .u64) .unit))) (.pair (.int .u64) (.pair (.int .u64) .unit))) (.node (.node .nil 167 (.fn (.pair (.sl zi) (.pair (.fn (.pair zi .unit) (.pair .bool .unit)) .unit)) (.pair .bool .unit)) .nil) 168 (.fn (.pair zi .unit) (.pair .bool .unit)) (.node .nil 169 (.fn (.pair (.sl zp) (.pair (.fn (.pair zp .unit) (.pair .bool .unit)) .unit)) (.pair .bool .unit)) .nil))) 170 (.fn (.pair zp .unit) (.pair .bool .unit)) (.node (.node (.node .nil 171 (.fn (.pair (.sl zy) (.pair (.fn (.pair zy .unit) (.pair .bool .unit)) .unit)) (.pair .bool .unit)) .nil) 172 (.fn (.pair zy .unit) (.pair .bool .unit)) (.node .nil 173 (.fn (.pair (.sl (.int .i64)) (.pair (.fn (.pair (.int .i64) .unit) (.pair .bool .unit)) .unit)) (.pair .bool .unit)) .nil)) 174 (.fn (.pair zW .unit) (.pair .bool .unit)) (.node (.node .nil 175 (.fn (.pair (.int .i64) .unit) (.pair (.fn (.pair zW .unit) (.pair .bool .unit)) .unit)) .nil) 176 (.fn (.pair (.sl qj) (.pair (.fn (.pair qj .unit) (.pair .bool .unit)) .unit)) (.pair .bool .unit)) (.node .nil 177 (.fn (.pair qj .unit) (.pair .bool .unit)) .nil))))) 178 (.fn (.pair (.sl qi) (.pair (.fn (.pair qi .unit) (.pair .bool .unit)) .unit)) (.pair .bool .unit)) (.node (.node (.node (.node (.node (.node .nil 179 (.fn (.pair qi .unit) (.pair .bool .unit)) .nil) 180 (.fn (.pair (.sl zW) (.pair (.fn (.pair zW .unit) (.pair .bool .unit)) .unit)) (.pair .bool .unit)) .nil) 181 (.fn (.pair (.sl qu) (.pair (.fn (.pair qu .unit) (.pair .bool .unit)) .unit)) (.pair .bool .unit)) (.node .nil 182 (.fn (.pair (.int .i64) (.pair (.int .i64) .unit)) (.pair .bool .unit)) .nil)) 183 (.fn (.pair qu .unit) (.pair .bool .unit)) (.node (.node .nil 184 (.fn (.pair (.sl zA) (.pair (.fn (.pair zA .unit) (.pair .bool .unit)) .unit)) (.pair .bool .unit)) .nil) 185 (.fn (.pair zA .unit) (.pair .bool .unit)) (.node .nil 186 (.fn (.pair (.sl zA) (.pair (.fn (.pair zA .unit) (.pair .bool .unit)) .unit)) (.pair (.ptr zat) .unit)) .nil))) 187 (.fn (.pair zL (.pair (.int .i64) .unit)) (.pair (.sl (.int .i64)) .unit)) (.node (.node (.node .nil 188 (.fn (.pair (.sl (.arr 4 (.int .u64))) (.pair (.sl (.arr 4 (.int .u64))) .unit)) (.pair .bool .unit)) .nil) 189 (.fn (.pair (.sl zW) (.pair (.sl zW) .unit)) (.pair .bool .unit)) (.node .nil 190 (.fn (.pair (.int .i64) (.pair (.int .i64) (.pair (.int .i64) .unit))) (.pair .bool .unit)) .nil)) 191 (.fn (.pair (.sl zJ) (.pair (.fn (.pair zJ .unit) (.pair .bool .unit)) .unit)) (.pair .bool .unit)) (.node (.node .nil 192 (.fn (.pair jG .unit) (.pair .bool .unit)) .nil) 193 (.fn (.pair (.sl jG) (.pair (.fn (.pair jG .unit) (.pair .bool .unit)) .unit)) (.pair .bool .unit)) (.node .nil 194 (.fn (.pair (.sl .str) .unit) (.pair .bool .unit)) .nil)))) 195 (.sl .str) (.node (.node (.node (.node .nil 196 (.fn (.pair zL .unit) (.pair (.sl .str) .unit)) .nil) 198 (.fn (.pair (.int .i64) .unit) (.pair zJ (.pair (.int .i64) .unit))) (.node .nil 199 (.fn (.pair (.sl zJ) (.pair zJ .unit)) (.pair .bool .unit)) .nil)) 200 (.fn (.pair zfQ .unit) (.pair (.sl (.int .i64)) .unit)) (.node (.node .nil 201 (.int .u64) .nil) 202 (.fn (.pair (.sl zp) (.pair (.int .i64) (.pair (.int .i64) .unit))) (.pair .bool .unit)) (.node .nil 203 (.fn (.pair zy (.pair zy .unit)) (.pair .bool .unit)) .nil))) 204 (.ptr zbr) (.node (.node (.node .nil 205 (.fn (.pair (.sl zp) .unit) (.pair (.ptr zbr) .unit)) .nil) 206 (.st (.pair (.sl zA) (.pair (.fn (.pair zA .unit) (.pair .bool .unit)) .unit))) (.node .nil 207 zat .nil)) 208 (.fn (.pair (.sl qU) (.pair (.fn (.pair qU .unit) (.pair .bool .unit)) .unit)) (.pair .bool .unit)) (.node (.node .nil 209 (.fn (.pair qU .unit) (.pair .bool .unit)) .nil) 210 (.fn (.pair (.sl qj) (.pair zW (.pair (.int .i64) .unit))) (.pair (.int .i64) .unit)) (.node .nil 211 (.pair (.int .i64) (.int .i64)) .nil)))))) 212 (.fn (.pair zy (.pair zy .unit)) (.pair (.int .i64) .unit)) (.node (.node (.node (.node (.node (.node (.node .nil 213 (.fn (.pair (.sl (.int .i64)) (.pair (.fn (.pair (.int .i64) .unit) (.pair .bool .unit)) .unit)) (.pair (.int .i64) .unit)) .nil) 214 (.fn (.pair (.sl (.int .i64)) (.pair (.int .i64) .unit)) (.pair .bool .unit)) .nil) 215 (.fn (.pair zJ .unit) (.pair (.sl (.int .i64)) .unit)) (.node .nil 216 (.fn (.pair (.sl zJ) (.pair (.fn (.pair zJ .unit) (.pair .bool .unit)) .unit)) (.pair (.int .i64) .unit)) .nil)) 217 (.fn (.pair (.sl (.int .i64)) .unit) (.pair (.int .i64) .unit)) (.node (.node .nil 218 (.fn (.pair (.int .i64) (.pair (.int .i64) .unit)) (.pair (.int .i64) .unit)) .nil) 219 (.fn (.pair (.int .u64) (.pair (.int .u64) .unit)) (.pair (.int .i64) .unit)) (.node .nil 220 (.fn (.pair (.int .u8) .unit) (.pair .bool .unit)) .nil))) 221 (.fn (.pair .str (.pair (.fn (.pair (.int .u8) .unit) (.pair .bool .unit)) .unit)) (.pair .bool .unit)) (.node (.node (.node .nil 222 (.fn (.pair (.sl jG) (.pair (.fn (.pair jG .unit) (.pair .bool .unit)) .unit)) (.pair (.int .i64) .unit)) .nil) 223 (.pair .str (.int .i64)) (.node .nil 224 (.fn (.pair (.int .i64) (.pair (.int .u64) (.pair (.int .u64) .unit))) (.pair (.int .u64) (.pair (.int .i64) .unit))) .nil)) 225 (.fn (.pair ziP .unit) (.pair .bool .unit)) (.node (.node .nil 226 (.fn (.pair (.sl zp) (.pair (.fn (.pair zp .unit) (.pair .bool .unit)) .unit)) (.pair (.ptr zbr) .unit)) .nil) 227 (.st (.pair (.sl zp) (.pair (.fn (.pair zp .unit) (.pair .bool .unit)) .unit))) (.node .nil 228 zbr .nil)))) 229 (.fn (.pair (.sl zi) (.pair (.fn (.pair zi .unit) (.pair .bool .unit)) .unit)) (.pair (.int .i64) .unit)) (.node (.node (.node (.node .nil 230 (.fn (.pair (.sl qU) (.pair (.fn (.pair qU .unit) (.pair .bool .unit)) .unit)) (.pair (.int .i64) .unit)) .nil) 231 (.fn (.pair (.sl qj) (.pair (.fn (.pair qj .unit) (.pair .bool .unit)) .unit)) (.pair (.int .i64) .unit)) (.node .nil 232 (.fn (.pair (.sl qi) (.pair (.fn (.pair qi .unit) (.pair .bool .unit)) .unit)) (.pair (.int .i64) .unit)) .nil)) 233 (.st (.pair (.int .i64) (.pair (.int .i64) (.pair zW .unit)))) (.node (.node .nil 234 zHh .nil) 235 (.fn (.pair qi .unit) (.pair zHh .unit)) (.node .nil 236 (.fn (.pair (.sl qu) (.pair (.fn (.pair qu .unit) (.pair .bool .unit)) .unit)) (.pair (.int .i64) .unit)) .nil))) 237 (.fn (.pair (.sl zA) (.pair (.fn (.pair zA .unit) (.pair .bool .unit)) .unit)) (.pair (.int .i64) .unit)) (.node (.node (.node .nil 238 (.fn (.pair (.sl zp) (.pair (.fn (.pair zp .unit) (.pair .bool .unit)) .unit)) (.pair (.int .i64) .unit)) .nil) 239 (.fn (.pair (.sl zy) (.pair (.fn (.pair zy .unit) (.pair .bool .unit)) .unit)) (.pair (.int .i64) .unit)) (.node .nil 240 (.fn (.pair (.sl zW) (.pair (.fn (.pair zW .unit) (.pair .bool .unit)) .unit)) (.pair (.int .i64) .unit)) .nil)) 241 (.fn (.pair (.sl (.int .i64)) (.pair (.int .i64) .unit)) (.pair (.int .i64) .unit)) (.node (.node .nil 242 (.fn (.pair (.fn (.pair (.int .i64) .unit) (.pair .bool .unit)) .unit) .unit) .nil) 243 (.fn (.pair (.fn (.pair (.int .i64) .unit) (.pair .bool .unit)) .unit) .unit) (.node .nil 244 (.fn (.pair zJ .unit) (.pair (.fn (.pair (.fn (.pair (.int .i64) .unit) (.pair .bool .unit)) .unit) .unit) .unit)) .nil))))) 245 (.fn (.pair (.int .u64) .unit) (.pair .bool .unit)) (.node (.node (.node (.node (.node (.node .nil 246 (.fn (.pair (.sl (.int .u8)) (.pair (.fn (.pair (.int .u8) .unit) (.pair .bool .unit)) .unit)) (.pair .bool .unit)) .nil) 247 (.sl (.int .u8)) .nil) 248 (.fn (.pair .str (.pair .str .unit)) (.pair .str .unit)) (.node .nil 249 (.fn (.pair (.int .u64) .unit) (.pair (.int .i64) .unit)) .nil)) 250 (.fn (.pair (.sl (.int .u8)) (.pair (.fn (.pair (.int .u8) .unit) (.pair .bool .unit)) .unit)) (.pair (.int .i64) .unit)) (.node (.node .nil 251 (.fn (.pair .str (.pair (.int .u8) .unit)) (.pair .str .unit)) .nil) 252 (.arr 256 .bool) (.node .nil 253 (.arr 256 .bool) .nil))) 255 (.fn (.pair .str .unit) (.pair (.arr 256 .bool) (.pair .bool .unit))) (.node (.node (.node .nil 256 (.fn (.pair .str (.pair (.ptr (.arr 256 .bool)) .unit)) (.pair .str .unit)) .nil) 257 (.ptr (.arr 256 .bool)) (.node .nil 258 (.fn (.pair (.int .u64) (.pair (.int .u64) .unit)) (.pair (.int .u64) (.pair (.int .u64) .unit))) .nil)) 259 (.arr 64 (.int .u8)) (.node (.node .nil 261 (.fn (.pair .str .unit) (.pair (.int .i32) (.pair (.int .i64) .unit))) .nil) 262 (.fn (.pair .str (.pair (.int .i32) .unit)) (.pair .bool .unit)) (.node .nil 263 (.fn (.pair .str (.pair (.int .i32) .unit)) (.pair (.int .i64) .unit)) .nil)))) 264 (.arr 256 (.int .u8)) (.node (.node (.node (.node .nil 265 (.st (.pair (.int .u8) (.pair (.int .u8) .unit))) .nil) 266 zu7 (.node .nil 267 (.arr 16 zu7) .nil)) 268 (.fn (.pair .str (.pair (.int .u8) .unit)) (.pair (.int .i64) .unit)) (.node (.node .nil 269 (.fn (.pair (.int .i32) .unit) (.pair .bool .unit)) .nil) 270 (.fn (.pair (.int .i64) .unit) (.pair (.int .i64) .unit)) (.node .nil 271 (.fn (.pair .str (.pair .str .unit)) (.pair (.int .i64) .unit)) .nil))) 272 (.fn .unit (.pair .str .unit)) (.node (.node (.node .nil 278 (.fn .unit (.pair (.int .i64) .unit)) .nil) 279 (.int .u32) (.node .nil 280 (.int .u8) .nil)) 281 (.int .u8) (.node (.node .nil 283 (.ptr (.int .u8)) .nil) 284 (.int .i32) (.node .nil 285 (.int .i32) .nil))))))))
def glob : List (Nat × AV) := [(0, .dat (.ptr (.arr 64 (.int .u8))) (some [0, 1, 56, 2, 57, 49, 28, 3, 61, 58, 42, 50, 38, 29, 17, 4, 62, 47, 59, 36, 45, 43, 51, 22, 53, 39, 33, 30, 24, 18, 12, 5, 63, 55, 48, 27, 60, 41, 37, 16, 46, 35, 44, 21, 52, 32, 23, 11, 54, 26, 40, 15, 34, 20, 31, 10, 25, 14, 19, 9, 13, 8, 7, 6]))]
abbrev zgN : Ty := (.pair zL (.pair zW .unit))
abbrev zgO : Ty := (.pair .bool .unit)
abbrev zIK : Type := (ze × (qX × Unit)) → Option (Bool × Unit)
abbrev zHu (g : Fnc zgN zgO) : Fun := ⟨5, zgN, zgO, 0, g⟩
abbrev zAw : Ty := (.pair zL .unit)
abbrev zh0 : Ty := (.pair qV (.pair (.int .i64) .unit))
abbrev zAx : Type := (ze × Unit) → Option (zq × (Int × Unit))
abbrev zjc (g : Fnc zAw zh0) : Fun := ⟨8, zAw, zh0, 3, g⟩
abbrev zwc : Ty := (.pair qV (.pair (.int .i64) .unit))
abbrev zdb : Ty := (.pair (.int .u64) (.pair (.int .i64) .unit))
abbrev zoB : Type := (zq × (Int × Unit)) → Option (Int × (Int × Unit))
abbrev zcc (g : Fnc zwc zdb) : Fun := ⟨13, zwc, zdb, 0, g⟩
abbrev zwd : Ty := (.pair qV (.pair (.int .i64) .unit))
abbrev zwe : Ty := (.pair (.int .u64) (.pair (.int .i64) .unit))
abbrev zoC : Type := (zq × (Int × Unit)) → Option (Int × (Int × Unit))
abbrev zcd (g : Fnc zwd zwe) : Fun := ⟨15, zwd, zwe, 0, g⟩
abbrev ztw : Ty := (.pair zL (.pair qV .unit))
abbrev zml : Ty := (.pair .bool .unit)
abbrev zhI : Type := (ze × (zq × Unit)) → Option (Bool × Unit)
abbrev vN (g : Fnc ztw zml) : Fun := ⟨17, ztw, zml, 0, g⟩
abbrev zre : Ty := (.pair zL (.pair qV (.pair zW .unit)))
abbrev zrf : Ty := (.pair .bool .unit)
abbrev zrg : Type := (ze × (zq × (qX × Unit))) → Option (Bool × Unit)
abbrev zey (g : Fnc zre zrf) : Fun := ⟨18, zre, zrf, 0, g⟩
abbrev zDg : Ty := (.pair zL (.pair qV (.pair (.int .i64) .unit)))
abbrev zDh : Ty := (.pair tMe (.pair (.int .i64) .unit))
abbrev zKG : Type := (ze × (zq × (Int × Unit))) → Option (pMe × (Int × Unit))
abbrev zAy (g : Fnc zDg zDh) : Fun := ⟨20, zDg, zDh, 0, g⟩
abbrev ztx : Ty := .unit
abbrev zty : Ty := (.pair .bool .unit)
abbrev zEp : Type := Unit → Option (Bool × Unit)
abbrev zrh (g : Fnc ztx zty) : Fun := ⟨21, ztx, zty, 0, g⟩
abbrev ztz : Ty := (.pair qV .unit)
abbrev zeb : Ty := (.pair qV .unit)
abbrev ztA : Type := (zq × Unit) → Option (zq × Unit)
abbrev zri (g : Fnc ztz zeb) : Fun := ⟨23, ztz, zeb, 3, g⟩
abbrev zwf : Ty := (.pair qV (.pair qV .unit))
abbrev zwg : Ty := (.pair .bool .unit)
abbrev zFM : Type := (zq × (zq × Unit)) → Option (Bool × Unit)
abbrev ztB (g : Fnc zwf zwg) : Fun := ⟨24, zwf, zwg, 0, g⟩
abbrev ztC : Ty := (.pair zL .unit)
abbrev zmm : Ty := (.pair .bool .unit)
abbrev zce : Type := (ze × Unit) → Option (Bool × Unit)
abbrev ja (g : Fnc ztC zmm) : Fun := ⟨25, ztC, zmm, 0, g⟩
abbrev zDi : Ty := (.pair zL .unit)
abbrev zvH : Ty := (.pair (.sl (.sl (.int .i64))) .unit)
abbrev zKH : Type := (ze × Unit) → Option ((List (List Int)) × Unit)
abbrev zAz (g : Fnc zDi zvH) : Fun := ⟨29, zDi, zvH, 4, g⟩
abbrev ztD : Ty := (.pair zL (.pair zfQ .unit))
abbrev ztE : Ty := (.pair zi .unit)
abbrev zEq : Type := (ze × (za0 × Unit)) → Option (zj × Unit)
abbrev zrj (g : Fnc ztD ztE) : Fun := ⟨30, ztD, ztE, 3, g⟩
abbrev zwh : Ty := (.pair (.int .i64) .unit)
abbrev zwi : Ty := (.pair .bool .unit)
abbrev zbC : Type := (Int × Unit) → Option (Bool × Unit)
abbrev qS (g : Fnc zwh zwi) : Fun := ⟨43, zwh, zwi, 0, g⟩
abbrev zAA : Ty := (.pair (.sl zp) (.pair (.int .i64) .unit))
abbrev zsP : Ty := (.pair (.int .u64) (.pair (.int .i64) .unit))
abbrev zId : Type := ((List zl) × (Int × Unit)) → Option (Int × (Int × Unit))
abbrev zwj (g : Fnc zAA zsP) : Fun := ⟨44, zAA, zsP, 0, g⟩
abbrev zwk : Ty := (.pair (.sl zA) (.pair (.int .i64) .unit))
abbrev zoD : Ty := (.pair (.int .u64) (.pair (.int .i64) .unit))
abbrev zFN : Type := ((List zm) × (Int × Unit)) → Option (Int × (Int × Unit))
abbrev ztF (g : Fnc zwk zoD) : Fun := ⟨45, zwk, zoD, 0, g⟩
abbrev zDj : Ty := (.pair (.sl (.int .u64)) .unit)
abbrev zvI : Ty := (.pair (.int .u64) (.pair (.int .i64) .unit))
abbrev zoE : Type := ((List Int) × Unit) → Option (Int × (Int × Unit))
abbrev zbs (g : Fnc zDj zvI) : Fun := ⟨46, zDj, zvI, 0, g⟩
abbrev zrk : Ty := (.pair qV (.pair (.int .i64) (.pair (.fn (.pair zi .unit) (.pair (.arr 4 (.int .u64)) .unit)) .unit)))
abbrev zke : Ty := (.pair (.int .u64) (.pair (.int .i64) .unit))
abbrev zBS : Type := (zq × (Int × ((Option ((zj × Unit) → Option ((List Int) × Unit))) × Unit))) → Option (Int × (Int × Unit))
abbrev zoF (g : Fnc zrk zke) : Fun := ⟨50, zrk, zke, 0, g⟩
abbrev zrl : Ty := (.pair zi .unit)
abbrev zrm : Ty := (.pair (.arr 4 (.int .u64)) .unit)
abbrev zBT : Type := (zj × Unit) → Option ((List Int) × Unit)
abbrev zoG (g : Fnc zrl zrm) : Fun := ⟨51, zrl, zrm, 0, g⟩
abbrev zrn : Ty := (.pair zi .unit)
abbrev zro : Ty := (.pair (.arr 4 (.int .u64)) .unit)
abbrev zBU : Type := (zj × Unit) → Option ((List Int) × Unit)
abbrev zoH (g : Fnc zrn zro) : Fun := ⟨52, zrn, zro, 0, g⟩
abbrev zwl : Ty := (.pair (.int .u64) (.pair (.int .u64) .unit))
abbrev zwm : Ty := (.pair (.int .u64) (.pair (.int .i64) .unit))
abbrev zFO : Type := (Int × (Int × Unit)) → Option (Int × (Int × Unit))
abbrev ztG (g : Fnc zwl zwm) : Fun := ⟨53, zwl, zwm, 0, g⟩
abbrev ztH : Ty := (.pair qy .unit)
abbrev zmn : Ty := (.pair .bool .unit)
abbrev zEr : Type := (qp × Unit) → Option (Bool × Unit)
abbrev zrp (g : Fnc ztH zmn) : Fun := ⟨55, ztH, zmn, 0, g⟩
abbrev ztI : Ty := (.pair qy .unit)
abbrev ztJ : Ty := (.pair .bool .unit)
abbrev zEs : Type := (qp × Unit) → Option (Bool × Unit)
abbrev zrq (g : Fnc ztI ztJ) : Fun := ⟨56, ztI, ztJ, 0, g⟩
abbrev zrr : Ty := (.pair qy .unit)
abbrev zrs : Ty := (.pair .bool .unit)
abbrev zBV : Type := (qp × Unit) → Option (Bool × Unit)
abbrev zoI (g : Fnc zrr zrs) : Fun := ⟨57, zrr, zrs, 0, g⟩
abbrev ztK : Ty := (.pair qy .unit)
abbrev zmo : Ty := (.pair .bool .unit)
abbrev zEt : Type := (qp × Unit) → Option (Bool × Unit)
abbrev zrt (g : Fnc ztK zmo) : Fun := ⟨58, ztK, zmo, 0, g⟩
abbrev zru : Ty := (.pair qy .unit)
abbrev zfR : Ty := (.pair .bool .unit)
abbrev zBW : Type := (qp × Unit) → Option (Bool × Unit)
abbrev zoJ (g : Fnc zru zfR) : Fun := ⟨59, zru, zfR, 0, g⟩
abbrev ztL : Ty := (.pair qy .unit)
abbrev jA : Ty := (.pair .bool .unit)
abbrev zEu : Type := (qp × Unit) → Option (Bool × Unit)
abbrev zrv (g : Fnc ztL jA) : Fun := ⟨60, ztL, jA, 0, g⟩
abbrev ztM : Ty := (.pair qy .unit)
abbrev zcf : Ty := (.pair .bool .unit)
abbrev zEv : Type := (qp × Unit) → Option (Bool × Unit)
abbrev zrw (g : Fnc ztM zcf) : Fun := ⟨61, ztM, zcf, 0, g⟩
abbrev ztN : Ty := (.pair qV (.pair zW .unit))
abbrev ztO : Ty := (.pair .bool .unit)
abbrev zmp : Type := (zq × (qX × Unit)) → Option (Bool × Unit)
abbrev zba (g : Fnc ztN ztO) : Fun := ⟨62, ztN, ztO, 0, g⟩
abbrev zrx : Ty := (.pair zL (.pair (.sl (.sl (.int .i64))) (.pair (.int .i64) (.pair (.int .i64) .unit))))
abbrev zry : Ty := (.pair .bool .unit)
abbrev zBX : Type := (ze × ((List (List Int)) × (Int × (Int × Unit)))) → Option (Bool × Unit)
abbrev zoK (g : Fnc zrx zry) : Fun := ⟨63, zrx, zry, 0, g⟩
abbrev ztP : Ty := .unit
abbrev ztQ : Ty := (.pair zL .unit)
abbrev zEw : Type := Unit → Option (ze × Unit)
abbrev zrz (g : Fnc ztP ztQ) : Fun := ⟨64, ztP, ztQ, 0, g⟩
abbrev zmC : Ty := (.pair (.sl zp) .unit)
abbrev zmD : Ty := (.pair (.sl zp) .unit)
abbrev zmE : Type := ((List zl) × Unit) → Option ((List zl) × Unit)
abbrev zcp (g : Fnc zmC zmD) : Fun := ⟨66, zmC, zmD, 1, g⟩
abbrev zmF : Ty := (.pair (.sl zy) .unit)
abbrev zmG : Ty := (.pair (.sl zy) .unit)
abbrev zwn : Type := ((List zC) × Unit) → Option ((List zC) × Unit)
abbrev zkW (g : Fnc zmF zmG) : Fun := ⟨67, zmF, zmG, 1, g⟩
abbrev zrA : Ty := (.pair (.sl (.int .i64)) .unit)
abbrev zrB : Ty := (.pair (.sl (.int .i64)) .unit)
abbrev zBY : Type := ((List Int) × Unit) → Option ((List Int) × Unit)
abbrev zoL (g : Fnc zrA zrB) : Fun := ⟨68, zrA, zrB, 1, g⟩
abbrev zoM : Ty := (.pair (.sl (.sl (.int .i64))) .unit)
abbrev zoN : Ty := (.pair (.sl (.sl (.int .i64))) .unit)
abbrev zzp : Type := ((List (List Int)) × Unit) → Option ((List (List Int)) × Unit)
abbrev zmH (g : Fnc zoM zoN) : Fun := ⟨69, zoM, zoN, 1, g⟩
abbrev zmI : Ty := (.pair (.sl zi) .unit)
abbrev zmJ : Ty := (.pair (.sl zi) .unit)
abbrev zwo : Type := ((List zj) × Unit) → Option ((List zj) × Unit)
abbrev zkX (g : Fnc zmI zmJ) : Fun := ⟨70, zmI, zmJ, 1, g⟩
abbrev zoO : Ty := (.pair (.sl qU) .unit)
abbrev zoP : Ty := (.pair (.sl qU) .unit)
abbrev zzq : Type := ((List jm) × Unit) → Option ((List jm) × Unit)
abbrev zmK (g : Fnc zoO zoP) : Fun := ⟨71, zoO, zoP, 1, g⟩
abbrev zoQ : Ty := (.pair (.sl qj) .unit)
abbrev zoR : Ty := (.pair (.sl qj) .unit)
abbrev zzr : Type := ((List z3) × Unit) → Option ((List z3) × Unit)
abbrev zmL (g : Fnc zoQ zoR) : Fun := ⟨72, zoQ, zoR, 1, g⟩
abbrev zoS : Ty := (.pair (.sl qi) .unit)
abbrev zoT : Ty := (.pair (.sl qi) .unit)
abbrev zzs : Type := ((List z8) × Unit) → Option ((List z8) × Unit)
abbrev zmM (g : Fnc zoS zoT) : Fun := ⟨73, zoS, zoT, 1, g⟩
abbrev zoU : Ty := (.pair (.sl qu) .unit)
abbrev zoV : Ty := (.pair (.sl qu) .unit)
abbrev zzt : Type := ((List qk) × Unit) → Option ((List qk) × Unit)
abbrev zmN (g : Fnc zoU zoV) : Fun := ⟨74, zoU, zoV, 1, g⟩
abbrev zmO : Ty := (.pair (.sl zA) .unit)
abbrev zmP : Ty := (.pair (.sl zA) .unit)
abbrev zmQ : Type := ((List zm) × Unit) → Option ((List zm) × Unit)
abbrev zcq (g : Fnc zmO zmP) : Fun := ⟨75, zmO, zmP, 1, g⟩
abbrev ztR : Ty := (.pair (.sl (.arr 4 (.int .u64))) .unit)
abbrev ztS : Ty := (.pair (.sl (.arr 4 (.int .u64))) .unit)
abbrev zEx : Type := ((List (List Int)) × Unit) → Option ((List (List Int)) × Unit)
abbrev zrC (g : Fnc ztR ztS) : Fun := ⟨76, ztR, ztS, 1, g⟩
abbrev zrD : Ty := (.pair (.sl zW) .unit)
abbrev zrE : Ty := (.pair (.sl zW) .unit)
abbrev zBZ : Type := ((List qX) × Unit) → Option ((List qX) × Unit)
abbrev zoW (g : Fnc zrD zrE) : Fun := ⟨77, zrD, zrE, 1, g⟩
abbrev zgP : Ty := (.pair (.sl zi) (.pair (.sl zi) (.pair (.fn (.pair zi (.pair zi .unit)) (.pair .bool .unit)) .unit)))
abbrev zcJ : Ty := (.pair .bool .unit)
abbrev zoX : Type := ((List zj) × ((List zj) × ((Option ((zj × (zj × Unit)) → Option (Bool × Unit))) × Unit))) → Option (Bool × Unit)
abbrev zfS (g : Fnc zgP zcJ) : Fun := ⟨78, zgP, zcJ, 0, g⟩
abbrev zkY : Ty := (.pair zi (.pair zi .unit))
abbrev zkZ : Ty := (.pair .bool .unit)
abbrev zu8 : Type := (zj × (zj × Unit)) → Option (Bool × Unit)
abbrev zjd (g : Fnc zkY zkZ) : Fun := ⟨79, zkY, zkZ, 0, g⟩
abbrev zh8 : Ty := (.pair (.sl (.sl (.int .i64))) (.pair (.sl (.sl (.int .i64))) (.pair (.fn (.pair (.sl (.int .i64)) (.pair (.sl (.int .i64)) .unit)) (.pair .bool .unit)) .unit)))
abbrev zdE : Ty := (.pair .bool .unit)
abbrev zqK : Type := ((List (List Int)) × ((List (List Int)) × ((Option (((List Int) × ((List Int) × Unit)) → Option (Bool × Unit))) × Unit))) → Option (Bool × Unit)
abbrev zgQ (g : Fnc zh8 zdE) : Fun := ⟨80, zh8, zdE, 0, g⟩
abbrev zrF : Ty := (.pair (.sl (.int .i64)) (.pair (.sl (.int .i64)) .unit))
abbrev zkf : Ty := (.pair .bool .unit)
abbrev zB0 : Type := ((List Int) × ((List Int) × Unit)) → Option (Bool × Unit)
abbrev zoY (g : Fnc zrF zkf) : Fun := ⟨81, zrF, zkf, 0, g⟩
abbrev zmR : Ty := (.pair (.sl zp) (.pair (.sl zp) .unit))
abbrev zgR : Ty := (.pair .bool .unit)
abbrev zwp : Type := ((List zl) × ((List zl) × Unit)) → Option (Bool × Unit)
abbrev zk0 (g : Fnc zmR zgR) : Fun := ⟨82, zmR, zgR, 0, g⟩
abbrev zmS : Ty := (.pair (.sl zy) (.pair (.sl zy) .unit))
abbrev zgS : Ty := (.pair .bool .unit)
abbrev zwq : Type := ((List zC) × ((List zC) × Unit)) → Option (Bool × Unit)
abbrev zk1 (g : Fnc zmS zgS) : Fun := ⟨83, zmS, zgS, 0, g⟩
abbrev zrG : Ty := (.pair zL .unit)
abbrev zkg : Ty := (.pair .bool .unit)
abbrev zB1 : Type := (ze × Unit) → Option (Bool × Unit)
abbrev zoZ (g : Fnc zrG zkg) : Fun := ⟨84, zrG, zkg, 0, g⟩
abbrev ztT : Ty := (.pair zL .unit)
abbrev ztU : Ty := (.pair .bool .unit)
abbrev zEy : Type := (ze × Unit) → Option (Bool × Unit)
abbrev zrH (g : Fnc ztT ztU) : Fun := ⟨85, ztT, ztU, 0, g⟩
abbrev zmT : Ty := (.pair zL .unit)
abbrev zmU : Ty := (.pair .bool .unit)
abbrev zwr : Type := (ze × Unit) → Option (Bool × Unit)
abbrev zk2 (g : Fnc zmT zmU) : Fun := ⟨86, zmT, zmU, 0, g⟩
abbrev zrI : Ty := (.pair zL .unit)
abbrev zkh : Ty := (.pair .bool .unit)
abbrev zB2 : Type := (ze × Unit) → Option (Bool × Unit)
abbrev zo0 (g : Fnc zrI zkh) : Fun := ⟨87, zrI, zkh, 0, g⟩
abbrev zrJ : Ty := (.pair zL .unit)
abbrev zki : Ty := (.pair .bool .unit)
abbrev zB3 : Type := (ze × Unit) → Option (Bool × Unit)
abbrev zo1 (g : Fnc zrJ zki) : Fun := ⟨88, zrJ, zki, 0, g⟩
abbrev zws : Ty := (.pair zL .unit)
abbrev zwt : Ty := (.pair .bool .unit)
abbrev zFP : Type := (ze × Unit) → Option (Bool × Unit)
abbrev ztV (g : Fnc zws zwt) : Fun := ⟨89, zws, zwt, 0, g⟩
abbrev zo2 : Ty := (.pair zL (.pair (.int .i64) .unit))
abbrev zo3 : Ty := (.pair .bool .unit)
abbrev zzu : Type := (ze × (Int × Unit)) → Option (Bool × Unit)
abbrev zmV (g : Fnc zo2 zo3) : Fun := ⟨91, zo2, zo3, 0, g⟩
abbrev zAB : Ty := (.pair zJ (.pair zJ .unit))
abbrev zAC : Ty := (.pair .bool .unit)
abbrev zIe : Type := (zD × (zD × Unit)) → Option (Bool × Unit)
abbrev zwu (g : Fnc zAB zAC) : Fun := ⟨92, zAB, zAC, 0, g⟩
abbrev zwv : Ty := (.pair (.sl zp) .unit)
abbrev zww : Ty := (.pair (.sl (.int .i64)) .unit)
abbrev zFQ : Type := ((List zl) × Unit) → Option ((List Int) × Unit)
abbrev ztW (g : Fnc zwv zww) : Fun := ⟨118, zwv, zww, 0, g⟩
abbrev ztX : Ty := (.pair zp .unit)
abbrev ztY : Ty := (.pair (.int .i64) .unit)
abbrev zEz : Type := (zl × Unit) → Option (Int × Unit)
abbrev zrK (g : Fnc ztX ztY) : Fun := ⟨119, ztX, ztY, 0, g⟩
abbrev zAD : Ty := (.pair (.sl zA) .unit)
abbrev zAE : Ty := (.pair (.ptr zat) .unit)
abbrev zIf : Type := ((List zm) × Unit) → Option ((Option yJ) × Unit)
abbrev zwx (g : Fnc zAD zAE) : Fun := ⟨120, zAD, zAE, 0, g⟩
abbrev zk3 : Ty := (.pair (.ptr zat) .unit)
abbrev zfE : Ty := (.pair (.sl (.int .i64)) .unit)
abbrev zk4 : Type := ((Option yJ) × Unit) → Option ((List Int) × Unit)
abbrev zbD (g : Fnc zk3 zfE) : Fun := ⟨121, zk3, zfE, 0, g⟩
abbrev zAF : Ty := (.pair (.int .u64) (.pair (.int .u64) .unit))
abbrev zAG : Ty := (.pair (.int .u64) (.pair (.int .i64) .unit))
abbrev zIg : Type := (Int × (Int × Unit)) → Option (Int × (Int × Unit))
abbrev zwy (g : Fnc zAF zAG) : Fun := ⟨122, zAF, zAG, 0, g⟩
abbrev zk5 : Ty := (.pair (.sl zi) (.pair (.fn (.pair zi .unit) (.pair .bool .unit)) .unit))
abbrev zk6 : Ty := (.pair .bool .unit)
abbrev zu9 : Type := ((List zj) × ((Option ((zj × Unit) → Option (Bool × Unit))) × Unit)) → Option (Bool × Unit)
abbrev zje (g : Fnc zk5 zk6) : Fun := ⟨125, zk5, zk6, 0, g⟩
abbrev zo4 : Ty := (.pair zi .unit)
abbrev zo5 : Ty := (.pair .bool .unit)
abbrev zzv : Type := (zj × Unit) → Option (Bool × Unit)
abbrev zmW (g : Fnc zo4 zo5) : Fun := ⟨126, zo4, zo5, 0, g⟩
abbrev zwz : Ty := (.pair (.sl qU) .unit)
abbrev zwA : Ty := (.pair .bool .unit)
abbrev zFR : Type := ((List jm) × Unit) → Option (Bool × Unit)
abbrev ztZ (g : Fnc zwz zwA) : Fun := ⟨127, zwz, zwA, 0, g⟩
abbrev zwB : Ty := (.pair (.sl qj) .unit)
abbrev zo6 : Ty := (.pair .bool .unit)
abbrev zFS : Type := ((List z3) × Unit) → Option (Bool × Unit)
abbrev zt0 (g : Fnc zwB zo6) : Fun := ⟨128, zwB, zo6, 0, g⟩
abbrev zt1 : Ty := (.pair (.sl qi) .unit)
abbrev zt2 : Ty := (.pair .bool .unit)
abbrev zEA : Type := ((List z8) × Unit) → Option (Bool × Unit)
abbrev zrL (g : Fnc zt1 zt2) : Fun := ⟨129, zt1, zt2, 0, g⟩
abbrev zwC : Ty := (.pair (.sl qu) .unit)
abbrev zwD : Ty := (.pair .bool .unit)
abbrev zFT : Type := ((List qk) × Unit) → Option (Bool × Unit)
abbrev zt3 (g : Fnc zwC zwD) : Fun := ⟨130, zwC, zwD, 0, g⟩
abbrev zt4 : Ty := (.pair (.sl zA) .unit)
abbrev zt5 : Ty := (.pair .bool .unit)
abbrev zEB : Type := ((List zm) × Unit) → Option (Bool × Unit)
abbrev zrM (g : Fnc zt4 zt5) : Fun := ⟨131, zt4, zt5, 0, g⟩
abbrev zwE : Ty := (.pair zL (.pair (.sl (.sl (.int .i64))) .unit))
abbrev zo7 : Ty := (.pair .bool .unit)
abbrev zwF : Type := (ze × ((List (List Int)) × Unit)) → Option (Bool × Unit)
abbrev zhJ (g : Fnc zwE zo7) : Fun := ⟨132, zwE, zo7, 0, g⟩
abbrev zwG : Ty := (.pair (.sl zp) .unit)
abbrev zo8 : Ty := (.pair .bool .unit)
abbrev zFU : Type := ((List zl) × Unit) → Option (Bool × Unit)
abbrev zt6 (g : Fnc zwG zo8) : Fun := ⟨133, zwG, zo8, 0, g⟩
abbrev zt7 : Ty := (.pair (.sl zy) .unit)
abbrev zmq : Ty := (.pair .bool .unit)
abbrev zEC : Type := ((List zC) × Unit) → Option (Bool × Unit)
abbrev zrN (g : Fnc zt7 zmq) : Fun := ⟨134, zt7, zmq, 0, g⟩
abbrev zk7 : Ty := (.pair (.sl zp) (.pair (.fn (.pair zp .unit) (.pair .bool .unit)) .unit))
abbrev zk8 : Ty := (.pair .bool .unit)
abbrev zva : Type := ((List zl) × ((Option ((zl × Unit) → Option (Bool × Unit))) × Unit)) → Option (Bool × Unit)
abbrev zjf (g : Fnc zk7 zk8) : Fun := ⟨135, zk7, zk8, 0, g⟩
abbrev zmX : Ty := (.pair zp (.pair (.ptr qy) .unit))
abbrev zmY : Ty := (.pair .bool .unit)
abbrev zwH : Type := (zl × ((Option qp) × Unit)) → Option (Bool × Unit)
abbrev zk9 (g : Fnc zmX zmY) : Fun := ⟨136, zmX, zmY, 0, g⟩
abbrev zt8 : Ty := (.pair qy (.pair (.int .i64) .unit))
abbrev zt9 : Ty := (.pair .bool .unit)
abbrev zua : Type := (qp × (Int × Unit)) → Option (Bool × Unit)
abbrev zfT (g : Fnc zt8 zt9) : Fun := ⟨137, zt8, zt9, 0, g⟩
abbrev zo9 : Ty := (.pair qy (.pair (.int .i64) .unit))
abbrev zpa : Ty := (.pair .bool .unit)
abbrev zav : Type := (qp × (Int × Unit)) → Option (Bool × Unit)
abbrev qO (g : Fnc zo9 zpa) : Fun := ⟨138, zo9, zpa, 0, g⟩
abbrev zla : Ty := (.pair (.sl zy) (.pair (.fn (.pair zy .unit) (.pair .bool .unit)) .unit))
abbrev zlb : Ty := (.pair .bool .unit)
abbrev zvb : Type := ((List zC) × ((Option ((zC × Unit) → Option (Bool × Unit))) × Unit)) → Option (Bool × Unit)
abbrev zjg (g : Fnc zla zlb) : Fun := ⟨139, zla, zlb, 0, g⟩
abbrev zmZ : Ty := (.pair zy (.pair (.ptr qy) .unit))
abbrev zm0 : Ty := (.pair .bool .unit)
abbrev zwI : Type := (zC × ((Option qp) × Unit)) → Option (Bool × Unit)
abbrev zlc (g : Fnc zmZ zm0) : Fun := ⟨140, zmZ, zm0, 0, g⟩
abbrev zpb : Ty := (.pair (.sl (.int .i64)) (.pair (.fn (.pair (.int .i64) .unit) (.pair .bool .unit)) .unit))
abbrev zpc : Ty := (.pair .bool .unit)
abbrev zzw : Type := ((List Int) × ((Option ((Int × Unit) → Option (Bool × Unit))) × Unit)) → Option (Bool × Unit)
abbrev zm1 (g : Fnc zpb zpc) : Fun := ⟨141, zpb, zpc, 0, g⟩
abbrev zm2 : Ty := (.pair (.int .i64) (.pair (.ptr qy) .unit))
abbrev zm3 : Ty := (.pair .bool .unit)
abbrev zwJ : Type := (Int × ((Option qp) × Unit)) → Option (Bool × Unit)
abbrev zld (g : Fnc zm2 zm3) : Fun := ⟨142, zm2, zm3, 0, g⟩
abbrev zub : Ty := (.pair qy (.pair (.int .i64) .unit))
abbrev zuc : Ty := (.pair (.fn (.pair zW .unit) (.pair .bool .unit)) .unit)
abbrev zED : Type := (qp × (Int × Unit)) → Option ((Option ((qX × Unit) → Option (Bool × Unit))) × Unit)
abbrev zrO (g : Fnc zub zuc) : Fun := ⟨143, zub, zuc, 0, g⟩
abbrev zm4 : Ty := (.pair (.sl qj) (.pair (.fn (.pair qj .unit) (.pair .bool .unit)) .unit))
abbrev zm5 : Ty := (.pair .bool .unit)
abbrev zwK : Type := ((List z3) × ((Option ((z3 × Unit) → Option (Bool × Unit))) × Unit)) → Option (Bool × Unit)
abbrev zle (g : Fnc zm4 zm5) : Fun := ⟨144, zm4, zm5, 0, g⟩
abbrev zpd : Ty := (.pair qj (.pair (.ptr (.fn (.pair zW .unit) (.pair .bool .unit))) .unit))
abbrev zpe : Ty := (.pair .bool .unit)
abbrev zzx : Type := (z3 × ((Option (Option ((qX × Unit) → Option (Bool × Unit)))) × Unit)) → Option (Bool × Unit)
abbrev zm6 (g : Fnc zpd zpe) : Fun := ⟨145, zpd, zpe, 0, g⟩
abbrev zm7 : Ty := (.pair (.sl qi) (.pair (.fn (.pair qi .unit) (.pair .bool .unit)) .unit))
abbrev zm8 : Ty := (.pair .bool .unit)
abbrev zm9 : Type := ((List z8) × ((Option ((z8 × Unit) → Option (Bool × Unit))) × Unit)) → Option (Bool × Unit)
abbrev zcr (g : Fnc zm7 zm8) : Fun := ⟨146, zm7, zm8, 0, g⟩
abbrev zpf : Ty := (.pair qi (.pair (.ptr (.fn (.pair zW .unit) (.pair .bool .unit))) .unit))
abbrev zpg : Ty := (.pair .bool .unit)
abbrev zzy : Type := (z8 × ((Option (Option ((qX × Unit) → Option (Bool × Unit)))) × Unit)) → Option (Bool × Unit)
abbrev zna (g : Fnc zpf zpg) : Fun := ⟨147, zpf, zpg, 0, g⟩
abbrev zph : Ty := (.pair (.sl zW) (.pair (.fn (.pair zW .unit) (.pair .bool .unit)) .unit))
abbrev zpi : Ty := (.pair .bool .unit)
abbrev zzz : Type := ((List qX) × ((Option ((qX × Unit) → Option (Bool × Unit))) × Unit)) → Option (Bool × Unit)
abbrev znb (g : Fnc zph zpi) : Fun := ⟨148, zph, zpi, 0, g⟩
abbrev znc : Ty := (.pair qi (.pair (.ptr qy) .unit))
abbrev znd : Ty := (.pair .bool .unit)
abbrev zwL : Type := (z8 × ((Option qp) × Unit)) → Option (Bool × Unit)
abbrev zlf (g : Fnc znc znd) : Fun := ⟨149, znc, znd, 0, g⟩
abbrev zne : Ty := (.pair (.sl qu) (.pair (.fn (.pair qu .unit) (.pair .bool .unit)) .unit))
abbrev znf : Ty := (.pair .bool .unit)
abbrev zwM : Type := ((List qk) × ((Option ((qk × Unit) → Option (Bool × Unit))) × Unit)) → Option (Bool × Unit)
abbrev zlg (g : Fnc zne znf) : Fun := ⟨150, zne, znf, 0, g⟩
abbrev zng : Ty := (.pair qu (.pair (.ptr qy) (.pair (.ptr (.int .i64)) .unit)))
abbrev znh : Ty := (.pair .bool .unit)
abbrev zwN : Type := (qk × ((Option qp) × ((Option Int) × Unit))) → Option (Bool × Unit)
abbrev zlh (g : Fnc zng znh) : Fun := ⟨151, zng, znh, 0, g⟩
abbrev zAH : Ty := (.pair qy (.pair (.int .i64) (.pair (.int .i64) .unit)))
abbrev zAI : Ty := (.pair .bool .unit)
abbrev zAJ : Type := (qp × (Int × (Int × Unit))) → Option (Bool × Unit)
abbrev zjh (g : Fnc zAH zAI) : Fun := ⟨152, zAH, zAI, 0, g⟩
abbrev zli : Ty := (.pair (.sl zA) (.pair (.fn (.pair zA .unit) (.pair .bool .unit)) .unit))
abbrev zlj : Ty := (.pair .bool .unit)
abbrev zvc : Type := ((List zm) × ((Option ((zm × Unit) → Option (Bool × Unit))) × Unit)) → Option (Bool × Unit)
abbrev zji (g : Fnc zli zlj) : Fun := ⟨153, zli, zlj, 0, g⟩
abbrev zni : Ty := (.pair zA (.pair (.ptr qy) .unit))
abbrev znj : Ty := (.pair .bool .unit)
abbrev zwO : Type := (zm × ((Option qp) × Unit)) → Option (Bool × Unit)
abbrev zlk (g : Fnc zni znj) : Fun := ⟨154, zni, znj, 0, g⟩
abbrev znk : Ty := (.pair (.sl zA) (.pair (.fn (.pair zA .unit) (.pair .bool .unit)) .unit))
abbrev znl : Ty := (.pair (.ptr zat) .unit)
abbrev znm : Type := ((List zm) × ((Option ((zm × Unit) → Option (Bool × Unit))) × Unit)) → Option ((Option yJ) × Unit)
abbrev zcs (g : Fnc znk znl) : Fun := ⟨155, znk, znl, 0, g⟩
abbrev zpj : Ty := (.pair zA .unit)
abbrev zpk : Ty := (.pair .bool .unit)
abbrev zzA : Type := (zm × Unit) → Option (Bool × Unit)
abbrev znn (g : Fnc zpj zpk) : Fun := ⟨156, zpj, zpk, 0, g⟩
abbrev zpl : Ty := (.pair (.ptr zat) (.pair (.int .i64) .unit))
abbrev zpm : Ty := (.pair .bool .unit)
abbrev zpn : Type := ((Option yJ) × (Int × Unit)) → Option (Bool × Unit)
abbrev zdc (g : Fnc zpl zpm) : Fun := ⟨157, zpl, zpm, 0, g⟩
abbrev zFV : Ty := (.pair (.int .i64) (.pair (.int .i64) .unit))
abbrev zFW : Ty := (.pair .bool .unit)
abbrev zOc : Type := (Int × (Int × Unit)) → Option (Bool × Unit)
abbrev zDk (g : Fnc zFV zFW) : Fun := ⟨158, zFV, zFW, 0, g⟩
abbrev zno : Ty := (.pair (.int .i64) (.pair (.ptr (.sl (.sl (.int .i64)))) (.pair (.ptr (.int .i64)) .unit)))
abbrev znp : Ty := (.pair .bool .unit)
abbrev zwP : Type := (Int × ((Option (List (List Int))) × ((Option Int) × Unit))) → Option (Bool × Unit)
abbrev zll (g : Fnc zno znp) : Fun := ⟨159, zno, znp, 0, g⟩
abbrev zfU : Ty := (.pair (.sl (.int .i64)) (.pair (.fn (.pair (.int .i64) .unit) (.pair .bool .unit)) .unit))
abbrev zfV : Ty := (.pair .bool .unit)
abbrev vw : Type := ((List Int) × ((Option ((Int × Unit) → Option (Bool × Unit))) × Unit)) → Option (Bool × Unit)
abbrev qn (g : Fnc zfU zfV) : Fun := ⟨160, zfU, zfV, 0, g⟩
abbrev zrP : Ty := (.pair zL (.pair (.int .i64) .unit))
abbrev zkj : Ty := (.pair (.sl (.int .i64)) .unit)
abbrev zB4 : Type := (ze × (Int × Unit)) → Option ((List Int) × Unit)
abbrev zpo (g : Fnc zrP zkj) : Fun := ⟨161, zrP, zkj, 0, g⟩
abbrev zpp : Ty := (.pair (.sl qU) (.pair (.sl qU) .unit))
abbrev ziQ : Ty := (.pair .bool .unit)
abbrev zzB : Type := ((List jm) × ((List jm) × Unit)) → Option (Bool × Unit)
abbrev znq (g : Fnc zpp ziQ) : Fun := ⟨162, zpp, ziQ, 0, g⟩
abbrev zpq : Ty := (.pair (.sl qj) (.pair (.sl qj) .unit))
abbrev ziR : Ty := (.pair .bool .unit)
abbrev zzC : Type := ((List z3) × ((List z3) × Unit)) → Option (Bool × Unit)
abbrev znr (g : Fnc zpq ziR) : Fun := ⟨163, zpq, ziR, 0, g⟩
abbrev zpr : Ty := (.pair (.sl qi) (.pair (.sl qi) .unit))
abbrev ziS : Ty := (.pair .bool .unit)
abbrev zzD : Type := ((List z8) × ((List z8) × Unit)) → Option (Bool × Unit)
abbrev zns (g : Fnc zpr ziS) : Fun := ⟨164, zpr, ziS, 0, g⟩
abbrev zps : Ty := (.pair (.sl qu) (.pair (.sl qu) .unit))
abbrev ziT : Ty := (.pair .bool .unit)
abbrev zzE : Type := ((List qk) × ((List qk) × Unit)) → Option (Bool × Unit)
abbrev znt (g : Fnc zps ziT) : Fun := ⟨165, zps, ziT, 0, g⟩
abbrev znu : Ty := (.pair (.sl zA) (.pair (.sl zA) .unit))
abbrev zgT : Ty := (.pair .bool .unit)
abbrev zwQ : Type := ((List zm) × ((List zm) × Unit)) → Option (Bool × Unit)
abbrev zlm (g : Fnc znu zgT) : Fun := ⟨166, znu, zgT, 0, g⟩
abbrev zud : Ty := (.pair (.sl (.arr 4 (.int .u64))) (.pair (.sl (.arr 4 (.int .u64))) .unit))
abbrev zmr : Ty := (.pair .bool .unit)
abbrev zEE : Type := ((List (List Int)) × ((List (List Int)) × Unit)) → Option (Bool × Unit)
abbrev zrQ (g : Fnc zud zmr) : Fun := ⟨167, zud, zmr, 0, g⟩
abbrev zrR : Ty := (.pair (.sl zW) (.pair (.sl zW) .unit))
abbrev zkk : Ty := (.pair .bool .unit)
abbrev zB5 : Type := ((List qX) × ((List qX) × Unit)) → Option (Bool × Unit)
abbrev zpt (g : Fnc zrR zkk) : Fun := ⟨168, zrR, zkk, 0, g⟩
abbrev znv : Ty := (.pair zJ .unit)
abbrev znw : Ty := (.pair .bool .unit)
abbrev zwR : Type := (zD × Unit) → Option (Bool × Unit)
abbrev zln (g : Fnc znv znw) : Fun := ⟨169, znv, znw, 0, g⟩
abbrev zue : Ty := (.pair zJ .unit)
abbrev zuf : Ty := (.pair .bool .unit)
abbrev zEF : Type := (zD × Unit) → Option (Bool × Unit)
abbrev zrS (g : Fnc zue zuf) : Fun := ⟨170, zue, zuf, 0, g⟩
abbrev zrT : Ty := (.pair (.int .i64) (.pair (.int .i64) (.pair (.int .i64) .unit)))
abbrev zrU : Ty := (.pair .bool .unit)
abbrev vi : Type := (Int × (Int × (Int × Unit))) → Option (Bool × Unit)
abbrev z4 (g : Fnc zrT zrU) : Fun := ⟨171, zrT, zrU, 0, g⟩
abbrev zdL : Ty := (.pair (.sl zJ) (.pair (.fn (.pair zJ .unit) (.pair .bool .unit)) .unit))
abbrev zdM : Ty := (.pair .bool .unit)
abbrev zdN : Type := ((List zD) × ((Option ((zD × Unit) → Option (Bool × Unit))) × Unit)) → Option (Bool × Unit)
abbrev vA (g : Fnc zdL zdM) : Fun := ⟨172, zdL, zdM, 0, g⟩
abbrev zAK : Ty := (.pair zJ (.pair zJ .unit))
abbrev zAL : Ty := (.pair (.int .i64) .unit)
abbrev zIh : Type := (zD × (zD × Unit)) → Option (Int × Unit)
abbrev zwS (g : Fnc zAK zAL) : Fun := ⟨173, zAK, zAL, 0, g⟩
abbrev zpu : Ty := (.pair (.int .i64) (.pair (.ptr zL) .unit))
abbrev zpv : Ty := (.pair .bool .unit)
abbrev zzF : Type := (Int × ((Option ze) × Unit)) → Option (Bool × Unit)
abbrev znx (g : Fnc zpu zpv) : Fun := ⟨174, zpu, zpv, 0, g⟩
abbrev zjj : Ty := (.pair jG .unit)
abbrev zjk : Ty := (.pair .bool .unit)
abbrev zs2 : Type := (qY × Unit) → Option (Bool × Unit)
abbrev zh9 (g : Fnc zjj zjk) : Fun := ⟨175, zjj, zjk, 0, g⟩
abbrev zwT : Ty := (.pair .str .unit)
abbrev zwU : Ty := (.pair .bool .unit)
abbrev zpw : Type := (ByteArray × Unit) → Option (Bool × Unit)
abbrev zcg (g : Fnc zwT zwU) : Fun := ⟨176, zwT, zwU, 0, g⟩
abbrev zcK : Ty := (.pair (.sl jG) (.pair (.fn (.pair jG .unit) (.pair .bool .unit)) .unit))
abbrev zcL : Ty := (.pair .bool .unit)
abbrev ziU : Type := ((List qY) × ((Option ((qY × Unit) → Option (Bool × Unit))) × Unit)) → Option (Bool × Unit)
abbrev zch (g : Fnc zcK zcL) : Fun := ⟨177, zcK, zcL, 0, g⟩
abbrev zwV : Ty := (.pair (.sl .str) .unit)
abbrev zpx : Ty := (.pair .bool .unit)
abbrev zFX : Type := ((List ByteArray) × Unit) → Option (Bool × Unit)
abbrev zug (g : Fnc zwV zpx) : Fun := ⟨178, zwV, zpx, 0, g⟩
abbrev zlo : Ty := (.pair zL .unit)
abbrev zfF : Ty := (.pair (.sl .str) .unit)
abbrev zvd : Type := (ze × Unit) → Option ((List ByteArray) × Unit)
abbrev zjl (g : Fnc zlo zfF) : Fun := ⟨179, zlo, zfF, 0, g⟩
abbrev zwW : Ty := (.pair (.int .i64) .unit)
abbrev zwX : Ty := (.pair zJ (.pair (.int .i64) .unit))
abbrev zFY : Type := (Int × Unit) → Option (zD × (Int × Unit))
abbrev zuh (g : Fnc zwW zwX) : Fun := ⟨180, zwW, zwX, 0, g⟩
abbrev zia : Ty := (.pair (.sl zJ) (.pair zJ .unit))
abbrev zib : Ty := (.pair .bool .unit)
abbrev zqL : Type := ((List zD) × (zD × Unit)) → Option (Bool × Unit)
abbrev zgU (g : Fnc zia zib) : Fun := ⟨181, zia, zib, 0, g⟩
abbrev zny : Ty := (.pair zJ (.pair (.ptr (.int .u64)) .unit))
abbrev znz : Ty := (.pair .bool .unit)
abbrev zwY : Type := (zD × ((Option Int) × Unit)) → Option (Bool × Unit)
abbrev zlp (g : Fnc zny znz) : Fun := ⟨182, zny, znz, 0, g⟩
abbrev znA : Ty := (.pair (.int .i64) .unit)
abbrev znB : Ty := (.pair .bool .unit)
abbrev zwZ : Type := (Int × Unit) → Option (Bool × Unit)
abbrev zlq (g : Fnc znA znB) : Fun := ⟨183, znA, znB, 0, g⟩
abbrev zpy : Ty := (.pair zfQ .unit)
abbrev zpz : Ty := (.pair (.sl (.int .i64)) .unit)
abbrev zzG : Type := (za0 × Unit) → Option ((List Int) × Unit)
abbrev znC (g : Fnc zpy zpz) : Fun := ⟨184, zpy, zpz, 0, g⟩
abbrev zDl : Ty := (.pair (.sl zp) .unit)
abbrev zDm : Ty := (.pair (.ptr zbr) .unit)
abbrev zKI : Type := ((List zl) × Unit) → Option ((Option zau) × Unit)
abbrev zAM (g : Fnc zDl zDm) : Fun := ⟨195, zDl, zDm, 0, g⟩
abbrev zlr : Ty := (.pair (.ptr zbr) .unit)
abbrev zfG : Ty := (.pair (.sl (.int .i64)) .unit)
abbrev zve : Type := ((Option zau) × Unit) → Option ((List Int) × Unit)
abbrev zjm (g : Fnc zlr zfG) : Fun := ⟨196, zlr, zfG, 0, g⟩
abbrev zui : Ty := (.pair zA .unit)
abbrev zuj : Ty := (.pair .bool .unit)
abbrev zEG : Type := (zm × Unit) → Option (Bool × Unit)
abbrev zrV (g : Fnc zui zuj) : Fun := ⟨197, zui, zuj, 0, g⟩
abbrev znD : Ty := (.pair (.ptr zat) .unit)
abbrev znE : Ty := (.pair .bool .unit)
abbrev znF : Type := ((Option yJ) × Unit) → Option (Bool × Unit)
abbrev zct (g : Fnc znD znE) : Fun := ⟨198, znD, znE, 0, g⟩
abbrev zdO : Ty := (.pair (.sl zi) (.pair (.fn (.pair zi .unit) (.pair .bool .unit)) .unit))
abbrev zdP : Ty := (.pair .bool .unit)
abbrev zkJ : Type := ((List zj) × ((Option ((zj × Unit) → Option (Bool × Unit))) × Unit)) → Option (Bool × Unit)
abbrev zdd (g : Fnc zdO zdP) : Fun := ⟨200, zdO, zdP, 0, g⟩
abbrev zic : Ty := (.pair zi (.pair (.ptr (.fn (.pair zi .unit) (.pair .bool .unit))) .unit))
abbrev zid : Ty := (.pair .bool .unit)
abbrev zqM : Type := (zj × ((Option (Option ((zj × Unit) → Option (Bool × Unit)))) × Unit)) → Option (Bool × Unit)
abbrev zgV (g : Fnc zic zid) : Fun := ⟨201, zic, zid, 0, g⟩
abbrev ze4 : Ty := (.pair (.sl qU) (.pair (.fn (.pair qU .unit) (.pair .bool .unit)) .unit))
abbrev ze5 : Ty := (.pair .bool .unit)
abbrev zlV : Type := ((List jm) × ((Option ((jm × Unit) → Option (Bool × Unit))) × Unit)) → Option (Bool × Unit)
abbrev zdQ (g : Fnc ze4 ze5) : Fun := ⟨202, ze4, ze5, 0, g⟩
abbrev zrW : Ty := (.pair qU .unit)
abbrev zrX : Ty := (.pair .bool .unit)
abbrev zB6 : Type := (jm × Unit) → Option (Bool × Unit)
abbrev zpA (g : Fnc zrW zrX) : Fun := ⟨203, zrW, zrX, 0, g⟩
abbrev zw0 : Ty := (.pair qj .unit)
abbrev zw1 : Ty := (.pair .bool .unit)
abbrev zFZ : Type := (z3 × Unit) → Option (Bool × Unit)
abbrev zuk (g : Fnc zw0 zw1) : Fun := ⟨204, zw0, zw1, 0, g⟩
abbrev zw2 : Ty := (.pair (.sl qj) (.pair zW (.pair (.int .i64) .unit)))
abbrev zw3 : Ty := (.pair (.int .i64) .unit)
abbrev zF0 : Type := ((List z3) × (qX × (Int × Unit))) → Option (Int × Unit)
abbrev zul (g : Fnc zw2 zw3) : Fun := ⟨205, zw2, zw3, 0, g⟩
abbrev ze6 : Ty := (.pair (.sl qi) (.pair (.fn (.pair qi .unit) (.pair .bool .unit)) .unit))
abbrev ze7 : Ty := (.pair .bool .unit)
abbrev ze8 : Type := ((List z8) × ((Option ((z8 × Unit) → Option (Bool × Unit))) × Unit)) → Option (Bool × Unit)
abbrev vX (g : Fnc ze6 ze7) : Fun := ⟨206, ze6, ze7, 0, g⟩
abbrev zum : Ty := (.pair qi .unit)
abbrev zun : Ty := (.pair .bool .unit)
abbrev zEH : Type := (z8 × Unit) → Option (Bool × Unit)
abbrev zrY (g : Fnc zum zun) : Fun := ⟨207, zum, zun, 0, g⟩
abbrev ze9 : Ty := (.pair (.sl qu) (.pair (.fn (.pair qu .unit) (.pair .bool .unit)) .unit))
abbrev zfa : Ty := (.pair .bool .unit)
abbrev zfb : Type := ((List qk) × ((Option ((qk × Unit) → Option (Bool × Unit))) × Unit)) → Option (Bool × Unit)
abbrev vY (g : Fnc ze9 zfa) : Fun := ⟨208, ze9, zfa, 0, g⟩
abbrev zw4 : Ty := (.pair qu .unit)
abbrev zw5 : Ty := (.pair .bool .unit)
abbrev zF1 : Type := (qk × Unit) → Option (Bool × Unit)
abbrev zuo (g : Fnc zw4 zw5) : Fun := ⟨209, zw4, zw5, 0, g⟩
abbrev zdR : Ty := (.pair (.sl zA) (.pair (.fn (.pair zA .unit) (.pair .bool .unit)) .unit))
abbrev zdS : Ty := (.pair .bool .unit)
abbrev zdT : Type := ((List zm) × ((Option ((zm × Unit) → Option (Bool × Unit))) × Unit)) → Option (Bool × Unit)
abbrev vB (g : Fnc zdR zdS) : Fun := ⟨210, zdR, zdS, 0, g⟩
abbrev zpB : Ty := (.pair zA .unit)
abbrev zpC : Ty := (.pair .bool .unit)
abbrev zzH : Type := (zm × Unit) → Option (Bool × Unit)
abbrev znG (g : Fnc zpB zpC) : Fun := ⟨211, zpB, zpC, 0, g⟩
abbrev zAN : Ty := (.pair zA .unit)
abbrev zAO : Ty := (.pair .bool .unit)
abbrev zIi : Type := (zm × Unit) → Option (Bool × Unit)
abbrev zw6 (g : Fnc zAN zAO) : Fun := ⟨212, zAN, zAO, 0, g⟩
abbrev zrZ : Ty := (.pair (.int .i64) .unit)
abbrev zr0 : Ty := (.pair .bool .unit)
abbrev zB7 : Type := (Int × Unit) → Option (Bool × Unit)
abbrev zpD (g : Fnc zrZ zr0) : Fun := ⟨213, zrZ, zr0, 0, g⟩
abbrev zDn : Ty := (.pair zp .unit)
abbrev zDo : Ty := (.pair .bool .unit)
abbrev zKJ : Type := (zl × Unit) → Option (Bool × Unit)
abbrev zAP (g : Fnc zDn zDo) : Fun := ⟨214, zDn, zDo, 0, g⟩
abbrev zAQ : Ty := (.pair zy .unit)
abbrev zAR : Ty := (.pair .bool .unit)
abbrev zIj : Type := (zC × Unit) → Option (Bool × Unit)
abbrev zw7 (g : Fnc zAQ zAR) : Fun := ⟨215, zAQ, zAR, 0, g⟩
abbrev zup : Ty := (.pair zy (.pair zy .unit))
abbrev zuq : Ty := (.pair (.int .i64) .unit)
abbrev zEI : Type := (zC × (zC × Unit)) → Option (Int × Unit)
abbrev zr1 (g : Fnc zup zuq) : Fun := ⟨216, zup, zuq, 0, g⟩
abbrev zdU : Ty := (.pair (.sl zp) (.pair (.fn (.pair zp .unit) (.pair .bool .unit)) .unit))
abbrev zdV : Ty := (.pair .bool .unit)
abbrev zkK : Type := ((List zl) × ((Option ((zl × Unit) → Option (Bool × Unit))) × Unit)) → Option (Bool × Unit)
abbrev zde (g : Fnc zdU zdV) : Fun := ⟨217, zdU, zdV, 0, g⟩
abbrev zie : Ty := (.pair zp (.pair (.ptr (.fn (.pair zp .unit) (.pair .bool .unit))) .unit))
abbrev zif : Ty := (.pair .bool .unit)
abbrev zqN : Type := (zl × ((Option (Option ((zl × Unit) → Option (Bool × Unit)))) × Unit)) → Option (Bool × Unit)
abbrev zgW (g : Fnc zie zif) : Fun := ⟨218, zie, zif, 0, g⟩
abbrev zdW : Ty := (.pair (.sl zy) (.pair (.fn (.pair zy .unit) (.pair .bool .unit)) .unit))
abbrev zdX : Ty := (.pair .bool .unit)
abbrev zkL : Type := ((List zC) × ((Option ((zC × Unit) → Option (Bool × Unit))) × Unit)) → Option (Bool × Unit)
abbrev zdf (g : Fnc zdW zdX) : Fun := ⟨219, zdW, zdX, 0, g⟩
abbrev zig : Ty := (.pair zy (.pair (.ptr (.fn (.pair zy .unit) (.pair .bool .unit))) .unit))
abbrev zih : Ty := (.pair .bool .unit)
abbrev zqO : Type := (zC × ((Option (Option ((zC × Unit) → Option (Bool × Unit)))) × Unit)) → Option (Bool × Unit)
abbrev zgX (g : Fnc zig zih) : Fun := ⟨220, zig, zih, 0, g⟩
abbrev zls : Ty := (.pair (.int .i64) (.pair (.ptr (.fn (.pair (.int .i64) .unit) (.pair .bool .unit))) .unit))
abbrev zlt : Ty := (.pair .bool .unit)
abbrev zvf : Type := (Int × ((Option (Option ((Int × Unit) → Option (Bool × Unit)))) × Unit)) → Option (Bool × Unit)
abbrev zjn (g : Fnc zls zlt) : Fun := ⟨221, zls, zlt, 0, g⟩
abbrev zpE : Ty := (.pair zW (.pair (.ptr qy) (.pair (.ptr (.int .i64)) .unit)))
abbrev zpF : Ty := (.pair .bool .unit)
abbrev zzI : Type := (qX × ((Option qp) × ((Option Int) × Unit))) → Option (Bool × Unit)
abbrev znH (g : Fnc zpE zpF) : Fun := ⟨222, zpE, zpF, 0, g⟩
abbrev zfc : Ty := (.pair (.sl qj) (.pair (.fn (.pair qj .unit) (.pair .bool .unit)) .unit))
abbrev zfd : Ty := (.pair .bool .unit)
abbrev zlW : Type := ((List z3) × ((Option ((z3 × Unit) → Option (Bool × Unit))) × Unit)) → Option (Bool × Unit)
abbrev zdY (g : Fnc zfc zfd) : Fun := ⟨223, zfc, zfd, 0, g⟩
abbrev zjo : Ty := (.pair qj (.pair (.ptr (.fn (.pair qj .unit) (.pair .bool .unit))) .unit))
abbrev zjp : Ty := (.pair .bool .unit)
abbrev zs3 : Type := (z3 × ((Option (Option ((z3 × Unit) → Option (Bool × Unit)))) × Unit)) → Option (Bool × Unit)
abbrev zii (g : Fnc zjo zjp) : Fun := ⟨224, zjo, zjp, 0, g⟩
abbrev zjq : Ty := (.pair qi (.pair (.ptr (.fn (.pair qi .unit) (.pair .bool .unit))) .unit))
abbrev zjr : Ty := (.pair .bool .unit)
abbrev zs4 : Type := (z8 × ((Option (Option ((z8 × Unit) → Option (Bool × Unit)))) × Unit)) → Option (Bool × Unit)
abbrev zij (g : Fnc zjq zjr) : Fun := ⟨225, zjq, zjr, 0, g⟩
abbrev zfW : Ty := (.pair (.sl zW) (.pair (.fn (.pair zW .unit) (.pair .bool .unit)) .unit))
abbrev zfX : Ty := (.pair .bool .unit)
abbrev zof : Type := ((List qX) × ((Option ((qX × Unit) → Option (Bool × Unit))) × Unit)) → Option (Bool × Unit)
abbrev zfe (g : Fnc zfW zfX) : Fun := ⟨226, zfW, zfX, 0, g⟩
abbrev zlu : Ty := (.pair zW (.pair (.ptr (.fn (.pair zW .unit) (.pair .bool .unit))) .unit))
abbrev zlv : Ty := (.pair .bool .unit)
abbrev zvg : Type := (qX × ((Option (Option ((qX × Unit) → Option (Bool × Unit)))) × Unit)) → Option (Bool × Unit)
abbrev zjs (g : Fnc zlu zlv) : Fun := ⟨227, zlu, zlv, 0, g⟩
abbrev zjt : Ty := (.pair qu (.pair (.ptr (.fn (.pair qu .unit) (.pair .bool .unit))) .unit))
abbrev zju : Ty := (.pair .bool .unit)
abbrev zs5 : Type := (qk × ((Option (Option ((qk × Unit) → Option (Bool × Unit)))) × Unit)) → Option (Bool × Unit)
abbrev zik (g : Fnc zjt zju) : Fun := ⟨228, zjt, zju, 0, g⟩
abbrev zil : Ty := (.pair zA (.pair (.ptr (.fn (.pair zA .unit) (.pair .bool .unit))) .unit))
abbrev zim : Ty := (.pair .bool .unit)
abbrev zqP : Type := (zm × ((Option (Option ((zm × Unit) → Option (Bool × Unit)))) × Unit)) → Option (Bool × Unit)
abbrev zgY (g : Fnc zil zim) : Fun := ⟨229, zil, zim, 0, g⟩
abbrev zjv : Ty := (.pair (.sl (.int .i64)) (.pair (.fn (.pair (.int .i64) .unit) (.pair .bool .unit)) .unit))
abbrev zez : Ty := (.pair (.int .i64) .unit)
abbrev zs6 : Type := ((List Int) × ((Option ((Int × Unit) → Option (Bool × Unit))) × Unit)) → Option (Int × Unit)
abbrev zin (g : Fnc zjv zez) : Fun := ⟨230, zjv, zez, 0, g⟩
abbrev zlw : Ty := (.pair (.sl (.int .i64)) (.pair (.int .i64) .unit))
abbrev zlx : Ty := (.pair .bool .unit)
abbrev zvh : Type := ((List Int) × (Int × Unit)) → Option (Bool × Unit)
abbrev zjw (g : Fnc zlw zlx) : Fun := ⟨231, zlw, zlx, 0, g⟩
abbrev zF2 : Ty := (.pair zJ .unit)
abbrev zF3 : Ty := (.pair (.sl (.int .i64)) .unit)
abbrev zF4 : Type := (zD × Unit) → Option ((List Int) × Unit)
abbrev zur (g : Fnc zF2 zF3) : Fun := ⟨232, zF2, zF3, 0, g⟩
abbrev zgZ : Ty := (.pair (.sl zJ) (.pair (.fn (.pair zJ .unit) (.pair .bool .unit)) .unit))
abbrev zcM : Ty := (.pair (.int .i64) .unit)
abbrev zpG : Type := ((List zD) × ((Option ((zD × Unit) → Option (Bool × Unit))) × Unit)) → Option (Int × Unit)
abbrev zfY (g : Fnc zgZ zcM) : Fun := ⟨233, zgZ, zcM, 0, g⟩
abbrev zw8 : Ty := (.pair (.sl (.int .i64)) .unit)
abbrev zpH : Ty := (.pair (.int .i64) .unit)
abbrev zw9 : Type := ((List Int) × Unit) → Option (Int × Unit)
abbrev zhK (g : Fnc zw8 zpH) : Fun := ⟨234, zw8, zpH, 0, g⟩
abbrev zly : Ty := (.pair (.int .i64) (.pair (.int .i64) .unit))
abbrev zlz : Ty := (.pair (.int .i64) .unit)
abbrev zlA : Type := (Int × (Int × Unit)) → Option (Int × Unit)
abbrev zbE (g : Fnc zly zlz) : Fun := ⟨235, zly, zlz, 0, g⟩
abbrev zg0 : Ty := (.pair (.int .u64) (.pair (.int .u64) .unit))
abbrev zg1 : Ty := (.pair (.int .i64) .unit)
abbrev zg2 : Type := (Int × (Int × Unit)) → Option (Int × Unit)
abbrev yU (g : Fnc zg0 zg1) : Fun := ⟨236, zg0, zg1, 0, g⟩
abbrev zxa : Ty := (.pair (.int .u8) .unit)
abbrev zxb : Ty := (.pair .bool .unit)
abbrev zxc : Type := (Int × Unit) → Option (Bool × Unit)
abbrev zhL (g : Fnc zxa zxb) : Fun := ⟨237, zxa, zxb, 0, g⟩
abbrev zDp : Ty := (.pair .str (.pair (.fn (.pair (.int .u8) .unit) (.pair .bool .unit)) .unit))
abbrev zDq : Ty := (.pair .bool .unit)
abbrev zDr : Type := (ByteArray × ((Option ((Int × Unit) → Option (Bool × Unit))) × Unit)) → Option (Bool × Unit)
abbrev zlX (g : Fnc zDp zDq) : Fun := ⟨238, zDp, zDq, 0, g⟩
abbrev zr2 : Ty := (.pair (.int .u8) .unit)
abbrev zr3 : Ty := (.pair .bool .unit)
abbrev zB8 : Type := (Int × Unit) → Option (Bool × Unit)
abbrev zpI (g : Fnc zr2 zr3) : Fun := ⟨239, zr2, zr3, 0, g⟩
abbrev zxd : Ty := (.pair (.int .u8) .unit)
abbrev zxe : Ty := (.pair .bool .unit)
abbrev zF5 : Type := (Int × Unit) → Option (Bool × Unit)
abbrev zus (g : Fnc zxd zxe) : Fun := ⟨240, zxd, zxe, 0, g⟩
abbrev zff : Ty := (.pair (.sl jG) (.pair (.fn (.pair jG .unit) (.pair .bool .unit)) .unit))
abbrev zbt : Ty := (.pair (.int .i64) .unit)
abbrev zlY : Type := ((List qY) × ((Option ((qY × Unit) → Option (Bool × Unit))) × Unit)) → Option (Int × Unit)
abbrev zdZ (g : Fnc zff zbt) : Fun := ⟨241, zff, zbt, 0, g⟩
abbrev znI : Ty := (.pair (.sl zJ) (.pair zJ .unit))
abbrev zg3 : Ty := (.pair (.int .i64) .unit)
abbrev zxf : Type := ((List zD) × (zD × Unit)) → Option (Int × Unit)
abbrev zlB (g : Fnc znI zg3) : Fun := ⟨242, znI, zg3, 0, g⟩
abbrev znJ : Ty := (.pair (.sl zp) (.pair (.fn (.pair zp .unit) (.pair .bool .unit)) .unit))
abbrev znK : Ty := (.pair (.ptr zbr) .unit)
abbrev zxg : Type := ((List zl) × ((Option ((zl × Unit) → Option (Bool × Unit))) × Unit)) → Option ((Option zau) × Unit)
abbrev zlC (g : Fnc znJ znK) : Fun := ⟨249, znJ, znK, 0, g⟩
abbrev zxh : Ty := (.pair zp .unit)
abbrev zxi : Ty := (.pair .bool .unit)
abbrev zF6 : Type := (zl × Unit) → Option (Bool × Unit)
abbrev zut (g : Fnc zxh zxi) : Fun := ⟨250, zxh, zxi, 0, g⟩
abbrev znL : Ty := (.pair (.ptr zbr) .unit)
abbrev znM : Ty := (.pair .bool .unit)
abbrev znN : Type := ((Option zau) × Unit) → Option (Bool × Unit)
abbrev zcu (g : Fnc znL znM) : Fun := ⟨251, znL, znM, 0, g⟩
abbrev zpJ : Ty := (.pair (.ptr zbr) (.pair (.int .i64) .unit))
abbrev zpK : Ty := (.pair .bool .unit)
abbrev zzJ : Type := ((Option zau) × (Int × Unit)) → Option (Bool × Unit)
abbrev znO (g : Fnc zpJ zpK) : Fun := ⟨252, zpJ, zpK, 0, g⟩
abbrev zg4 : Ty := (.pair (.sl zi) (.pair (.fn (.pair zi .unit) (.pair .bool .unit)) .unit))
abbrev zcN : Ty := (.pair (.int .i64) .unit)
abbrev zpL : Type := ((List zj) × ((Option ((zj × Unit) → Option (Bool × Unit))) × Unit)) → Option (Int × Unit)
abbrev zfZ (g : Fnc zg4 zcN) : Fun := ⟨253, zg4, zcN, 0, g⟩
abbrev zio : Ty := (.pair (.sl qU) (.pair (.fn (.pair qU .unit) (.pair .bool .unit)) .unit))
abbrev zdF : Ty := (.pair (.int .i64) .unit)
abbrev zqQ : Type := ((List jm) × ((Option ((jm × Unit) → Option (Bool × Unit))) × Unit)) → Option (Int × Unit)
abbrev zg5 (g : Fnc zio zdF) : Fun := ⟨254, zio, zdF, 0, g⟩
abbrev zxj : Ty := (.pair zW .unit)
abbrev zxk : Ty := (.pair .bool .unit)
abbrev zF7 : Type := (qX × Unit) → Option (Bool × Unit)
abbrev zuu (g : Fnc zxj zxk) : Fun := ⟨255, zxj, zxk, 0, g⟩
abbrev zxl : Ty := (.pair (.int .i64) .unit)
abbrev zxm : Ty := (.pair .bool .unit)
abbrev zF8 : Type := (Int × Unit) → Option (Bool × Unit)
abbrev zuv (g : Fnc zxl zxm) : Fun := ⟨256, zxl, zxm, 0, g⟩
abbrev ziq : Ty := (.pair (.sl qj) (.pair (.fn (.pair qj .unit) (.pair .bool .unit)) .unit))
abbrev zdG : Ty := (.pair (.int .i64) .unit)
abbrev zir : Type := ((List z3) × ((Option ((z3 × Unit) → Option (Bool × Unit))) × Unit)) → Option (Int × Unit)
abbrev zaw (g : Fnc ziq zdG) : Fun := ⟨257, ziq, zdG, 0, g⟩
abbrev zr4 : Ty := (.pair qj (.pair (.ptr zW) (.pair (.ptr (.int .i64)) .unit)))
abbrev zr5 : Ty := (.pair .bool .unit)
abbrev zB9 : Type := (z3 × ((Option qX) × ((Option Int) × Unit))) → Option (Bool × Unit)
abbrev zpM (g : Fnc zr4 zr5) : Fun := ⟨258, zr4, zr5, 0, g⟩
abbrev zis : Ty := (.pair (.sl qi) (.pair (.fn (.pair qi .unit) (.pair .bool .unit)) .unit))
abbrev zdH : Ty := (.pair (.int .i64) .unit)
abbrev zqR : Type := ((List z8) × ((Option ((z8 × Unit) → Option (Bool × Unit))) × Unit)) → Option (Int × Unit)
abbrev zg6 (g : Fnc zis zdH) : Fun := ⟨259, zis, zdH, 0, g⟩
abbrev zDs : Ty := (.pair qi .unit)
abbrev zDt : Ty := (.pair zHh .unit)
abbrev zKK : Type := (z8 × Unit) → Option (zBR × Unit)
abbrev zAS (g : Fnc zDs zDt) : Fun := ⟨260, zDs, zDt, 0, g⟩
abbrev zjx : Ty := (.pair zHh .unit)
abbrev zjy : Ty := (.pair .bool .unit)
abbrev zs7 : Type := (zBR × Unit) → Option (Bool × Unit)
abbrev zit (g : Fnc zjx zjy) : Fun := ⟨261, zjx, zjy, 0, g⟩
abbrev ziu : Ty := (.pair (.sl qu) (.pair (.fn (.pair qu .unit) (.pair .bool .unit)) .unit))
abbrev zdI : Ty := (.pair (.int .i64) .unit)
abbrev zqS : Type := ((List qk) × ((Option ((qk × Unit) → Option (Bool × Unit))) × Unit)) → Option (Int × Unit)
abbrev zg7 (g : Fnc ziu zdI) : Fun := ⟨262, ziu, zdI, 0, g⟩
abbrev zr6 : Ty := (.pair qu .unit)
abbrev zr7 : Ty := (.pair .bool .unit)
abbrev zCa : Type := (qk × Unit) → Option (Bool × Unit)
abbrev zpN (g : Fnc zr6 zr7) : Fun := ⟨263, zr6, zr7, 0, g⟩
abbrev zAT : Ty := (.pair .str .unit)
abbrev zAU : Ty := (.pair .bool .unit)
abbrev zIk : Type := (ByteArray × Unit) → Option (Bool × Unit)
abbrev zxn (g : Fnc zAT zAU) : Fun := ⟨264, zAT, zAU, 0, g⟩
abbrev zg8 : Ty := (.pair (.sl zA) (.pair (.fn (.pair zA .unit) (.pair .bool .unit)) .unit))
abbrev zcO : Ty := (.pair (.int .i64) .unit)
abbrev zpO : Type := ((List zm) × ((Option ((zm × Unit) → Option (Bool × Unit))) × Unit)) → Option (Int × Unit)
abbrev zf0 (g : Fnc zg8 zcO) : Fun := ⟨265, zg8, zcO, 0, g⟩
abbrev zDu : Ty := (.pair (.int .i64) .unit)
abbrev zDv : Ty := (.pair .bool .unit)
abbrev zDw : Type := (Int × Unit) → Option (Bool × Unit)
abbrev zlZ (g : Fnc zDu zDv) : Fun := ⟨266, zDu, zDv, 0, g⟩
abbrev zAV : Ty := (.pair ziP .unit)
abbrev zAW : Ty := (.pair .bool .unit)
abbrev zIl : Type := (zsO × Unit) → Option (Bool × Unit)
abbrev zxo (g : Fnc zAV zAW) : Fun := ⟨267, zAV, zAW, 0, g⟩
abbrev zxp : Ty := (.pair ziP .unit)
abbrev zxq : Ty := (.pair .bool .unit)
abbrev zF9 : Type := (zsO × Unit) → Option (Bool × Unit)
abbrev zuw (g : Fnc zxp zxq) : Fun := ⟨268, zxp, zxq, 0, g⟩
abbrev zAX : Ty := (.pair (.int .i64) (.pair (.int .u64) (.pair (.int .u64) .unit)))
abbrev zAY : Ty := (.pair (.int .u64) (.pair (.int .i64) .unit))
abbrev zAZ : Type := (Int × (Int × (Int × Unit))) → Option (Int × (Int × Unit))
abbrev zjz (g : Fnc zAX zAY) : Fun := ⟨269, zAX, zAY, 0, g⟩
abbrev zGa : Ty := (.pair (.int .i64) .unit)
abbrev zGb : Ty := (.pair .bool .unit)
abbrev zOd : Type := (Int × Unit) → Option (Bool × Unit)
abbrev zDx (g : Fnc zGa zGb) : Fun := ⟨270, zGa, zGb, 0, g⟩
abbrev zDy : Ty := (.pair (.int .i64) .unit)
abbrev zDz : Ty := (.pair .bool .unit)
abbrev zKL : Type := (Int × Unit) → Option (Bool × Unit)
abbrev zA0 (g : Fnc zDy zDz) : Fun := ⟨271, zDy, zDz, 0, g⟩
abbrev zg9 : Ty := (.pair (.sl zp) (.pair (.fn (.pair zp .unit) (.pair .bool .unit)) .unit))
abbrev zcP : Ty := (.pair (.int .i64) .unit)
abbrev zpP : Type := ((List zl) × ((Option ((zl × Unit) → Option (Bool × Unit))) × Unit)) → Option (Int × Unit)
abbrev zf1 (g : Fnc zg9 zcP) : Fun := ⟨272, zg9, zcP, 0, g⟩
abbrev zha : Ty := (.pair (.sl zy) (.pair (.fn (.pair zy .unit) (.pair .bool .unit)) .unit))
abbrev zcQ : Ty := (.pair (.int .i64) .unit)
abbrev zpQ : Type := ((List zC) × ((Option ((zC × Unit) → Option (Bool × Unit))) × Unit)) → Option (Int × Unit)
abbrev zf2 (g : Fnc zha zcQ) : Fun := ⟨273, zha, zcQ, 0, g⟩
abbrev zjA : Ty := (.pair (.sl zW) (.pair (.fn (.pair zW .unit) (.pair .bool .unit)) .unit))
abbrev zeA : Ty := (.pair (.int .i64) .unit)
abbrev zs8 : Type := ((List qX) × ((Option ((qX × Unit) → Option (Bool × Unit))) × Unit)) → Option (Int × Unit)
abbrev ziv (g : Fnc zjA zeA) : Fun := ⟨274, zjA, zeA, 0, g⟩
abbrev zr8 : Ty := (.pair (.sl (.int .i64)) (.pair (.int .i64) .unit))
abbrev zkl : Ty := (.pair (.int .i64) .unit)
abbrev zCb : Type := ((List Int) × (Int × Unit)) → Option (Int × Unit)
abbrev zpR (g : Fnc zr8 zkl) : Fun := ⟨275, zr8, zkl, 0, g⟩
abbrev zpS : Ty := (.pair (.int .i64) .unit)
abbrev zpT : Ty := (.pair .bool .unit)
abbrev zzK : Type := (Int × Unit) → Option (Bool × Unit)
abbrev znP (g : Fnc zpS zpT) : Fun := ⟨277, zpS, zpT, 0, g⟩
abbrev zjB : Ty := (.pair (.int .u64) .unit)
abbrev zjC : Ty := (.pair .bool .unit)
abbrev zs9 : Type := (Int × Unit) → Option (Bool × Unit)
abbrev ziw (g : Fnc zjB zjC) : Fun := ⟨278, zjB, zjC, 0, g⟩
abbrev zxr : Ty := (.pair (.int .u8) (.pair (.ptr (.fn (.pair (.int .u8) .unit) (.pair .bool .unit))) .unit))
abbrev zxs : Ty := (.pair .bool .unit)
abbrev zGc : Type := (Int × ((Option (Option ((Int × Unit) → Option (Bool × Unit)))) × Unit)) → Option (Bool × Unit)
abbrev zux (g : Fnc zxr zxs) : Fun := ⟨279, zxr, zxs, 0, g⟩
abbrev zfg : Ty := (.pair (.sl (.int .u8)) (.pair (.fn (.pair (.int .u8) .unit) (.pair .bool .unit)) .unit))
abbrev zfh : Ty := (.pair .bool .unit)
abbrev zl0 : Type := ((List Int) × ((Option ((Int × Unit) → Option (Bool × Unit))) × Unit)) → Option (Bool × Unit)
abbrev zd0 (g : Fnc zfg zfh) : Fun := ⟨280, zfg, zfh, 0, g⟩
abbrev zDA : Ty := (.pair (.int .i64) .unit)
abbrev zDB : Ty := (.pair .bool .unit)
abbrev zKM : Type := (Int × Unit) → Option (Bool × Unit)
abbrev zA1 (g : Fnc zDA zDB) : Fun := ⟨282, zDA, zDB, 0, g⟩
abbrev zGd : Ty := (.pair (.int .i64) .unit)
abbrev zGe : Ty := (.pair .bool .unit)
abbrev zOe : Type := (Int × Unit) → Option (Bool × Unit)
abbrev zDC (g : Fnc zGd zGe) : Fun := ⟨283, zGd, zGe, 0, g⟩
abbrev zxt : Ty := (.pair (.int .u8) .unit)
abbrev zxu : Ty := (.pair .bool .unit)
abbrev zGf : Type := (Int × Unit) → Option (Bool × Unit)
abbrev zuy (g : Fnc zxt zxu) : Fun := ⟨284, zxt, zxu, 0, g⟩
abbrev zr9 : Ty := (.pair .str (.pair .str .unit))
abbrev zsa : Ty := (.pair .str .unit)
abbrev zCc : Type := (ByteArray × (ByteArray × Unit)) → Option (ByteArray × Unit)
abbrev zpU (g : Fnc zr9 zsa) : Fun := ⟨285, zr9, zsa, 0, g⟩
abbrev zxv : Ty := (.pair (.int .u64) (.pair (.int .u64) .unit))
abbrev zxw : Ty := (.pair (.int .u64) (.pair (.int .i64) .unit))
abbrev zGg : Type := (Int × (Int × Unit)) → Option (Int × (Int × Unit))
abbrev zuz (g : Fnc zxv zxw) : Fun := ⟨286, zxv, zxw, 0, g⟩
abbrev zix : Ty := (.pair (.sl (.int .u8)) (.pair (.fn (.pair (.int .u8) .unit) (.pair .bool .unit)) .unit))
abbrev zdJ : Ty := (.pair (.int .i64) .unit)
abbrev zqT : Type := ((List Int) × ((Option ((Int × Unit) → Option (Bool × Unit))) × Unit)) → Option (Int × Unit)
abbrev zhb (g : Fnc zix zdJ) : Fun := ⟨289, zix, zdJ, 0, g⟩
abbrev zfi : Ty := (.pair .str (.pair (.int .u8) .unit))
abbrev zbu : Ty := (.pair .str .unit)
abbrev zl1 : Type := (ByteArray × (Int × Unit)) → Option (ByteArray × Unit)
abbrev zd1 (g : Fnc zfi zbu) : Fun := ⟨290, zfi, zbu, 0, g⟩
abbrev zd2 : Ty := (.pair .str (.pair (.int .u8) .unit))
abbrev zaX : Ty := (.pair .str .unit)
abbrev zkM : Type := (ByteArray × (Int × Unit)) → Option (ByteArray × Unit)
abbrev zdg (g : Fnc zd2 zaX) : Fun := ⟨291, zd2, zaX, 0, g⟩
abbrev zlD : Ty := (.pair (.int .u64) (.pair (.int .u64) .unit))
abbrev zlE : Ty := (.pair (.int .u64) (.pair (.int .u64) .unit))
abbrev zvi : Type := (Int × (Int × Unit)) → Option (Int × (Int × Unit))
abbrev zjD (g : Fnc zlD zlE) : Fun := ⟨297, zlD, zlE, 0, g⟩
def ext : List (Nat × Bool) := [(124, false), (199, true)]
def E0 : Env := ⟨types, [], glob, 0, false, ext, []⟩
theorem mixed : Tryz.prog.follows .mixedOrders = true := by kernel_rfl
theorem mkS {l : List Fun} {d : Bool} {F : Fun} {f : Go.Func} {K : Nat} (hl : Sds Tryz.prog E0 l) (hf : Tryz.prog.funcs[F.id]? = some f) (ho : zV0 f = true) (h : evF (En E0 d l) K f F.md F.a F.r = F.spec) : Sd Tryz.prog E0 F := Sd.mk mixed hl hf ho h
end Go.Proofs.YtaokpakfhdeiiaaGreatDoor
end
section
namespace Go.Proofs.YtaokpakfhdeiiaaGreatDoor
open Go.Ev Go.RowKit Go.Shelf Go.Proofs
set_option linter.unusedVariables false
set_option linter.unusedSimpArgs false
attribute [local go_sem] Oper.semAt_some
def zal (c : Nat) : List Nat := (List.range 64).filter c.testBit
theorem zGh (p q : Nat → Bool) (k : Nat) (hp : ∀ i, i < k → p i = false ∧ q i = false) (hk : p k = true ∧ q k = false) (hq : ∀ i, k < i → p i = q i) : ∀ n, (List.range n).filter p = (if k < n then [k] else []) ++ (List.range n).filter q
  | 0 => rfl
  | n + 1 => by
    rw [List.range_succ, List.filter_append, List.filter_append, zGh p q k hp hk hq n]
    by_cases h1 : k < n
    · rw [if_pos h1, if_pos (by omega), List.append_assoc]
      have := hq n h1
      simp [List.filter_cons, this]
    · by_cases h2 : k = n
      · subst h2
        rw [if_neg h1, if_pos (by omega)]
        have e : (List.range k).filter q = [] := by
          rw [List.filter_eq_nil_iff]
          intro i hi
          rw [(hp i (by simpa using hi)).2]; simp
        simp [hk.1, hk.2, e]
      · rw [if_neg h1, if_neg (by omega)]
        have := hp n (by omega)
        simp [this.1, this.2]
theorem zxx {k m i : Nat} : (2 ^ k * (2 * m + 1)).testBit i = (decide (k ≤ i) && (decide (i = k) || (2 ^ k * (2 * m)).testBit i)) ∧ ((2 ^ k * (2 * m)).testBit i = true → k < i) := by
  rw [Nat.mul_comm (2 ^ k), Nat.mul_comm (2 ^ k), Nat.testBit_mul_two_pow, Nat.testBit_mul_two_pow]
  by_cases h : k ≤ i
  · by_cases e : i = k
    · subst e
      simp [Nat.testBit_zero]
    · obtain ⟨j, rfl⟩ : ∃ j, i = k + (j + 1) := ⟨i - k - 1, by omega⟩
      rw [show k + (j + 1) - k = j + 1 by omega, Nat.testBit_succ, Nat.testBit_succ, show (2 * m + 1) / 2 = m by omega, show 2 * m / 2 = m by omega]
      simp
  · simp [h]
theorem zV2 {k m : Nat} : (2 ^ k * (2 * m + 1)) &&& (2 ^ k * (2 * m + 1) - 1) = 2 ^ k * (2 * m) := by
  have e : 2 ^ k * (2 * m + 1) - 1 = 2 ^ k * (2 * m) + (2 ^ k - 1) := by
    have := Nat.two_pow_pos k
    rw [Nat.mul_add, Nat.mul_one]; omega
  apply Nat.eq_of_testBit_eq
  intro i
  rw [Nat.testBit_and, e, Nat.testBit_two_pow_mul_add _ (by have := Nat.two_pow_pos k; omega)]
  have := @zxx k m i
  rw [this.1]
  by_cases h : i < k
  · have h2 : (2 ^ k * (2 * m)).testBit i = false := by
      cases hb : (2 ^ k * (2 * m)).testBit i with
      | false => rfl
      | true => have := this.2 hb; omega
    simp [h2, h]
    omega
  · have h3 : (2 ^ k * (2 * m)).testBit i = (2 * m).testBit (i - k) := by
      rw [Nat.mul_comm, Nat.testBit_mul_two_pow]; simp; omega
    rw [if_neg h, h3]
    by_cases e : i = k
    · subst e; simp [Nat.testBit_zero]
    · simp [e]; omega
theorem zU9 {c : Nat} (h0 : c ≠ 0) (h : c < 18446744073709551616) : zal c = Lib.ctz 64 c :: zal (c &&& (c - 1)) := by
  obtain ⟨m, hm, hk⟩ := Lib.ctzFrom_spec 64 c (by omega) h
  have e : Lib.ctz 64 c = Lib.ctzFrom 64 c := by simp [Lib.ctz, h0]
  rw [e]
  generalize Lib.ctzFrom 64 c = k at hm hk
  subst hm
  rw [zV2]
  unfold zal
  have hlow : ∀ i, i ≤ k → (2 ^ k * (2 * m)).testBit i = false := by
    intro i hi
    cases hb : (2 ^ k * (2 * m)).testBit i with
    | false => rfl
    | true => have := zxx.2 hb; omega
  rw [zGh (2 ^ k * (2 * m + 1)).testBit (2 ^ k * (2 * m)).testBit k (fun i hi => ⟨by rw [zxx.1]; simp; omega, hlow i (by omega)⟩) ⟨by rw [zxx.1]; simp, hlow k (Nat.le_refl _)⟩ (fun i hi => by rw [zxx.1]; simp [show k ≤ i by omega, show i ≠ k by omega]) 64, if_pos hk]
  rfl
theorem zVa : zal 0 = [] := by
  unfold zal
  rw [List.filter_eq_nil_iff]
  intro i _
  simp
theorem zV3 (c : Nat) : (zal c).length ≤ 64 := by
  unfold zal
  have := List.length_filter_le c.testBit (List.range 64)
  simpa using this
theorem zXe {c : Nat} (h0 : c ≠ 0) : c &&& (c - 1) < c := by
  have := @Nat.and_le_right c (c - 1)
  omega
def TabAt (w : World) : Prop := ∀ j, j < Lib.deBruijn64tab.length → w.cell? ⟨0, j, none⟩ = some (.int .u8 (Lib.deBruijn64tab.getD j 0))
theorem zXf (x a : Nat) (hx : x < 18446744073709551616) (hx0 : x ≠ 0) (hlow : x &&& (18446744073709551616 - x) = a) :
    IntKind.u64.wrap (bits BinOp.and IntKind.u64 (x : Int) (IntKind.u64.wrap (-(x : Int))) * 285870213051353865) / 288230376151711744 = ((a * 285870213051353865 % 18446744073709551616 / 288230376151711744 : Nat) : Int) := by
  have e1 : IntKind.u64.wrap (-(x : Int)) = ((18446744073709551616 - x : Nat) : Int) := by rw [IntKind.wrap_u64]; omega
  rw [e1, bits_and_u64_nat x _ hx (by omega), hlow, IntKind.wrap_u64]
  omega
set_option maxRecDepth 100000 in
set_option maxHeartbeats 1000000 in
theorem zWJ (n : Nat) (x k idx : Nat) (w : World) (hx1 : ((x : Int) == 0) = false)
    (key : IntKind.u64.wrap (bits BinOp.and IntKind.u64 (x : Int) (IntKind.u64.wrap (-(x : Int))) * 285870213051353865) / 288230376151711744 = (idx : Int))
    (hi : idx < 64) (hk : k < 64) (hcell : w.cell? ⟨0, idx, none⟩ = some (.int .u8 k)) :
    CallsIn Fence.wide n Tryz.prog 288 #[.int .u64 x] w fun e w' => e = .returned (.int .i64 k) ∧ w' = w := by
  refine callsIn_of_wp Tryz.func288 rfl trivial ?_ rfl
  simp only [show Tryz.f288.ntmps = 14 by kernel_rfl, List.size_toArray, List.length_cons, List.length_nil, Nat.reduceAdd, Nat.reduceSub, Array.replicate_succ, Array.replicate_zero, List.push_toArray, List.append_toArray, List.nil_append, List.cons_append]
  gi_wp2_with (simp only [key])
  go_ret
  exact ⟨rfl, rfl⟩
theorem zXu (n : Nat) (x : Nat) (hx : x < 18446744073709551616) (hx0 : x ≠ 0) (w : World) (hT : TabAt w) :
    CallsIn Fence.wide n Tryz.prog 288 #[.int .u64 x] w fun e w' => e = .returned (.int .i64 (Lib.ctz 64 x)) ∧ w' = w := by
  obtain ⟨hlow, hk⟩ := Lib.lowest_bit 64 x hx0 hx
  obtain ⟨hi, htab⟩ := Lib.deBruijn64_at _ hk
  have hcell := hT _ hi
  rw [htab] at hcell
  exact zWJ n x _ _ w (by simp; omega) (zXf x _ hx hx0 hlow) hi hk hcell
end Go.Proofs.YtaokpakfhdeiiaaGreatDoor
end
