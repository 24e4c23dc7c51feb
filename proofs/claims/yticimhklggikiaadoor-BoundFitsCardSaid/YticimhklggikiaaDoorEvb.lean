import Derived.Test.YticimhklggikiaaDoorEva
import Derived.Laws.BytesString
import Derived.IntWalk
import Derived.Orders
import Derived.Scope
import Derived.Carry
import Derived.OpenShut
/-! Slices, conversions, rows made. -/
namespace Go.Ev
open Go.RowKit
set_option linter.unusedSimpArgs false
set_option linter.unusedVariables false

section
variable {P : Program} {nt : Nat} {F0 F G : FH} {w0 w : World} {st st' : St} {m : MM} {a : Act} {E : Env} {v : AV} {u : Value}

theorem RelB.mono {h h' : List Obj} {F F' : FH} (hh : HLe h h') (hF : F.le F') {x : Option (Option AV)} {o : Option Value} (hb : RelB P h m F x o) : RelB P h' m F' x o := by
  match x, hb with
  | none, hb => exact hb
  | some none, _ => trivial
  | some (some v), ⟨u, e, hu⟩ => exact ⟨u, e, RelV.mono hh (fun _ _ _ => rfl) hF hu⟩

theorem RepV.sl' {τ : Ty} {xs : List τ.I} {p : Value} (h : RepV P F (.sl τ) xs p) : ∃ ad cap, p = .slice ad xs.length cap ∧ xs.length ≤ cap ∧ (xs ≠ [] → ∃ d cc, ad = some d ∧ At F d cc ∧ RepL (Rep P F τ) xs cc) := by
  obtain ⟨ad, cap, e, h1, h2⟩ := RepV.one' rfl h
  exact ⟨ad, cap, by simpa using e, h1, h2⟩
theorem RepV.str' {s : ByteArray} {p : Value} (h : RepV P F .str s p) : p = .string s := by
  have := RepV.one' rfl h; simpa [Rep, RR] using this

theorem evSlice_snd {q : Bool} {t : TypeId} {x : AV} {p : Value} {lo hi mx : Option (Option AV)} {lo' hi' mx' : Option Value} (hE : EnvOk P G E) (h : Rel P nt F0 w0 st m F a w) (hx : RelV P st.h m F x p)
    (hlo : RelB P st.h m F lo lo') (hhi : RelB P st.h m F hi hi') (hmx : RelB P st.h m F mx mx') (he : evSlice q E t x lo hi mx st pk = some (v, st')) :
    ∃ u, (Instr.sliceAt t p lo' hi' mx').run P w = .ok u w ∧ Post P nt F0 w0 st' a F v u w := by
  unfold evSlice at he
  split at he
  · rename_i s st1 hz
    obtain ⟨F', h1, h2, h3, h4⟩ := frz_spec hz h hx
    split at he
    · obtain ⟨h5, h6⟩ := cond_some he
      obtain rfl := h3.str'
      obtain rfl := hmx
      have hu := (hE.types t _ (Env.is_spec h5)).str
      have hfin : ∀ l hh : Nat, pk (.dat .str (ByteArray.extract s l hh)) st1 = some (v, st') → (Instr.sliceBounds false (ByteArray.size s) (ByteArray.size s) lo' hi' none).run P w = .ok (l, hh, ByteArray.size s) w →
          ∃ u, (Instr.sliceAt t (.string s) lo' hi' none).run P w = .ok u w ∧ Post P nt F0 w0 st' a F v u w := by
        intro l hh hk hb
        cases hk
        refine ⟨.string (ByteArray.extract s l hh), ?_, m, F', h1, h2, .mkStr⟩
        unfold Instr.sliceAt Instr.slice
        simp only [Sem.run_bind, run_underlying' hu, Result.andThen_ok, Option.isSome_none, Bool.false_eq_true, if_false, Sem.run_pure, hb]
      rcases bnd_some h6 with ⟨rfl, h7⟩ | ⟨κ, j, rfl, hj, h7⟩
      · obtain rfl := hhi
        rcases bnd_some h7 with ⟨rfl, h8⟩ | ⟨κ', j', rfl, hj', h8⟩
        · obtain rfl := hlo
          exact hfin _ _ h8 (by unfold Instr.sliceBounds; simp)
        · obtain rfl := hlo.val
          exact hfin _ _ h8 (by unfold Instr.sliceBounds; simp [run_bound hj'])
      · obtain rfl := hhi.val
        rcases bnd_some h7 with ⟨rfl, h8⟩ | ⟨κ', j', rfl, hj', h8⟩
        · obtain rfl := hlo
          exact hfin _ _ h8 (by unfold Instr.sliceBounds; simp [run_bound hj])
        · obtain rfl := hlo.val
          exact hfin _ _ h8 (by unfold Instr.sliceBounds; simp [run_bound hj', run_bound hj])
    · cases he
  · rename_i τ xs st1 hz
    obtain ⟨F', h1, h2, h3, h4⟩ := frz_spec hz h hx
    obtain ⟨h5, h6⟩ := cond_some he
    obtain ⟨ad, cap, rfl, hcap, hm⟩ := h3.sl'
    obtain ⟨e, hu, he2, _, hnp⟩ := (hE.types t _ (Env.is_spec h5)).sl
    obtain ⟨i, hi1, hsz⟩ := he2.size (Ty.np_spec hnp)
    obtain ⟨u, h7, rfl, h8⟩ := evSliceL_snd (w := w) hu hi1 hsz hcap hm (hlo.mono h4 h1) (hhi.mono h4 h1) (hmx.mono h4 h1) h6
    exact ⟨u, h7, m, F', h1, h2, h8⟩
  · cases he

/-! ### Conversions -/
theorem bytes_load {d : Addr} {xs : List Int} {cc : List Value} (hc : ∀ (j : Nat) (x : Value), cc[j]? = some x → w.cell? (d.add j) = some x) (hr : RepL (Rep P F (.int .u8)) xs cc) :
    (loadCells d xs.length).run P w = .ok (xs.map (Value.int .u8)).toArray w := by
  have hcc : cc = xs.map (Value.int .u8) := by
    have : ∀ (xs : List Int) cc, RepL (Rep P F (.int .u8)) xs cc → cc = xs.map (Value.int .u8) := by
      intro xs
      induction xs with
      | nil => intro cc h; exact h
      | cons x xs ih =>
        rintro cc ⟨c, d, rfl, h1, h2⟩
        rw [ih d h2, show c = [.int .u8 x] from h1]; rfl
    exact this xs cc hr
  subst hcc
  have := run_loadCells_list (P := P) w d _ hc
  simpa using this

theorem Rel.freezeAt (h : Rel P nt F0 w0 st m F a w) {i b n : Nat} {o o' : Obj} {el : TypeId} {fz : Nat × Nat} {cs : Array Value} {w' : World} (ho : atN st.h i = some o) (hl : o.like o')
    (hm : m i = some (b, n)) (hF : F b = none) (hos : w'.os = w.os) (htape : w'.tape = w.tape) (hout : w'.output = w.output) (hsz : w'.heap.size = w.heap.size) (hbl : ∀ k, k ≠ b → w'.heap[k]? = w.heap[k]?)
    (hw : w'.heap[b]? = some (.cells cs el fz)) (hnew : RelO P (setAt st.h i o') m (F.put b cs) w' i o') :
    Rel P nt F0 w0 ⟨st.fr, setAt st.h i o'⟩ m (F.put b cs) a w' ∧ F.le (F.put b cs) := by
  have hh : HLe st.h (setAt st.h i o') := HLe.set ho hl
  have hle : F.le (F.put b cs) := FH.put_le b cs hF
  have hi : i < st.h.length := by rw [atN_eq] at ho; exact (List.getElem?_eq_some_iff.1 ho).1
  have hr := h.rng _ _ _ hm
  refine ⟨⟨h.nt, fun t v ht => (h.fr t v ht).mono hh (fun _ _ _ => rfl) hle, fun j u hu => ?_, h.inj, fun j b n hj => ?_, fun k c hk => ?_, ⟨h.gro.1.trans hle, fun k hk => ?_⟩, ?_, h.dfr⟩, hle⟩
  · by_cases e : i = j
    · subst e
      rw [setAt_eq, atN_eq, List.getElem?_set_self hi] at hu
      cases hu
      exact hnew
    · have hu' : atN st.h j = some u := by rw [setAt_eq, atN_eq, List.getElem?_set_ne e] at hu; rw [atN_eq]; exact hu
      have hne : ∀ b' n', m j = some (b', n') → b' ≠ b := by rintro b' n' hb rfl; exact e (h.inj _ _ _ _ _ hm hb)
      refine (h.obs j u hu').mono hh (fun _ _ _ => rfl) hle hu' (fun b' n' hb => hbl b' (hne b' n' hb)) (fun b' n' hb hn => ?_)
      unfold FH.put
      rw [if_neg (hne b' n' hb)]
      exact hn
  · have := h.rng j b n hj
    simp only [setAt_eq, List.length_set]
    omega
  · unfold FH.put at hk
    by_cases e : k = b
    · subst e; rw [if_pos rfl] at hk; cases hk; exact ⟨el, fz, hw⟩
    · rw [if_neg e] at hk; rw [hbl k e]; exact h.fok k c hk
  · unfold FH.put
    rw [if_neg (by omega)]
    exact h.gro.2 k hk
  · exact h.bel.trans ⟨hos, htape, hout, by omega, fun k hk => hbl k (by omega)⟩

theorem evConvert_snd {q : Bool} {s d : TypeId} {x : AV} {p : Value} (hE : EnvOk P G E) (h : Rel P nt F0 w0 st m F a w) (hx : RelV P st.h m F x p) (he : evConvert q E s d x st pk = some (v, st')) :
    ∃ u w', (convert s d p).run P w = .ok u w' ∧ Post P nt F0 w0 st' a F v u w' := by
  unfold evConvert at he
  split at he
  · rename_i k0 k k1 n hs hd
    cases he
    obtain rfl := hx.int
    have h1 := (hE.types _ _ hs).int
    have h2 := (hE.types _ _ hd).int
    exact ⟨_, w, by simp [convert, run_underlying' h1, run_underlying' h2, Conv.intToInt], m, F, .refl F, h, .mkInt⟩
  · rename_i sv hs hd
    cases he
    obtain rfl := hx.str
    have h1 := (hE.types _ _ hs).str
    have h2 := (hE.types _ _ hd).str
    exact ⟨_, w, by simp [convert, run_underlying' h1, run_underlying' h2], m, F, .refl F, h, .mkStr⟩
  · rename_i sv hs hd
    obtain ⟨_, he⟩ := cond_none he
    cases he
    obtain rfl := hx.str
    have h1 := (hE.types _ _ hs).str
    obtain ⟨e, h2, h3, _⟩ := (hE.types _ _ hd).sl
    have h3 := h3.int
    let cap := Question.cut (.appendCap (ByteArray.size sv) 0 e) (w.tape w.drawn (.appendCap (ByteArray.size sv) 0 e))
    have hcap : ByteArray.size sv ≤ cap := by simp only [cap, Question.cut]; omega
    let elems : Array Value := (ByteArray.data sv).map fun b => .int .u8 b.toNat
    let cs : Array Value := elems ++ Array.replicate (cap - ByteArray.size sv) (.int .u8 0)
    have hcs : cs.size = cap := by
      simp only [cs, elems, Array.size_append, Array.size_map, Array.size_replicate]
      have : (ByteArray.data sv).size = ByteArray.size sv := rfl
      omega
    let w1 : World := { w with drawn := w.drawn + 1 }
    let w2 : World := { w1 with heap := w.heap.push (.cells cs e) }
    let w3 := w2.freeze ⟨w.heap.size, cs.size, none⟩ 1
    have hrel1 : Rel P nt F0 w0 st m F a w1 := h.drew
    let xs : List Int := (ByteArray.data sv).toList.map fun b => (b.toNat : Int)
    have hxl : xs.length = ByteArray.size sv := by simp only [xs, List.length_map]; rfl
    have hrep : RepL (Rep P F (.int .u8)) xs elems.toList := by
      have : ∀ l : List UInt8, RepL (Rep P F (.int .u8)) (l.map fun b => (b.toNat : Int)) (l.map fun b => Value.int .u8 b.toNat) := by
        intro l
        induction l with
        | nil => rfl
        | cons b l ih => exact ⟨[_], _, rfl, rfl, ih⟩
      have := this (ByteArray.data sv).toList
      simpa [xs, elems] using this
    have hheap3 : w3.heap[w.heap.size]? = some (.cells cs e (cs.size, cs.size + 1)) := by
      simp only [w3, World.freeze, w2, Nat.one_ne_zero, if_false]
      rw [Array.getElem?_modify, if_pos rfl, Array.getElem?_push, if_pos rfl]
      rfl
    have hother : ∀ k, k ≠ w.heap.size → w3.heap[k]? = w2.heap[k]? := by
      intro k hk
      simp only [w3, World.freeze, Nat.one_ne_zero, if_false]
      rw [Array.getElem?_modify, if_neg (Ne.symm hk)]
    have hrun : (convert s d (.string sv)).run P w = .ok (.slice (some ⟨w.heap.size, 0, none⟩) (ByteArray.size sv) cap) w3 := by
      simp only [convert, Sem.run_bind, run_underlying' h1, run_underlying' h2, run_underlying' h3, Result.andThen_ok, Conv.stringToBytes, run_choose, Question.forced, Bool.false_eq_true, if_false, newRow, run_newObj, markStringish, run_shape, Sem.run_pure]
      have hshape : w2.shape? w.heap.size = some (e, cs.size) := by simp [World.shape?, w2]
      change ((Sem.run P (match w2.shape? w.heap.size with | some (_, n) => freeze ⟨w.heap.size, n, none⟩ 1 | _ => pure ()) w2).andThen fun _ w' => .ok (Value.slice (some ⟨w.heap.size, 0, none⟩) (ByteArray.size sv) cap) w') = _
      rw [hshape]
      simp only [run_freeze, Result.andThen_ok]
      rfl
    obtain ⟨h5, h6⟩ := alloc_row (τ := .int .u8) (xs := xs) (cs := cs) (el := e) (c := elems.toList) (d := List.replicate (cap - ByteArray.size sv) (.int .u8 0)) (cap := cap) (w' := w2) hrel1 (by simp [cs]) hrep (by simp [nc, hcs]) (by omega) rfl rfl rfl rfl
    have hat : atN (st.h ++ [.row (.int .u8) xs false]) st.h.length = some (.row (.int .u8) xs false) := by rw [atN_eq]; simp
    have hmb : (m.put st.h.length (w.heap.size, cs.size)) st.h.length = some (w.heap.size, cs.size) := by simp [MM.put]
    have hle := FH.put_le (F := F) w.heap.size cs h.noF
    obtain ⟨h7, h8⟩ := h5.freezeAt (o' := .row (.int .u8) xs true) (w' := w3) hat (.inr ⟨rfl, rfl⟩) hmb h.noF (by simp [w3, World.freeze]) (by simp [w3, World.freeze]) (by simp [w3, World.freeze]) (by simp [w3, World.freeze]) hother hheap3 (by
      simp only [RelO]
      rw [show (m.put st.h.length (w1.heap.size, cs.size)) st.h.length = some (w.heap.size, cs.size) from hmb]
      exact ⟨e, _, cs, elems.toList, List.replicate (cap - ByteArray.size sv) (.int .u8 0), hheap3, rfl, by simp [cs], RepL.mono (fun _ _ h => Rep.mono hle h) _ _ hrep, by simp [FzOk, FH.put]⟩)
    have hset : setAt (st.h ++ [.row (.int .u8) xs false]) st.h.length (.row (.int .u8) xs true) = st.h ++ [.row (.int .u8) xs true] := by
      rw [setAt_eq]
      simp
    rw [hset] at h7
    refine ⟨_, w3, hrun, _, _, h8, h7, ?_⟩
    rw [← hxl]
    exact RelV.mono (by rw [← hset]; exact HLe.set hat (.inr ⟨rfl, rfl⟩)) (fun _ _ _ => rfl) h8 h6
  · rename_i xs hs hd
    cases he
    obtain ⟨ad, cap, rfl, hcap, hm⟩ := hx.sl
    obtain ⟨e, h1, h3, _⟩ := (hE.types _ _ hs).sl
    have h3 := h3.int
    have h2 := (hE.types _ _ hd).str
    refine ⟨.string (bytesOf xs), w, ?_, m, F, .refl F, h, .mkStr⟩
    rw [run_convert_bytes_string w s d e ad _ cap h1 h3 h2]
    cases xs with
    | nil =>
      cases ad with
      | none => simp [Conv.bytesToString, bytesOf]
      | some d => exact run_bytesToString w d _ cap [] (by simp [loadCells, loadCellsFrom])
    | cons x xs =>
      obtain ⟨d, cc, rfl, h4, h5⟩ := hm (by simp)
      exact run_bytesToString w d _ cap _ (bytes_load (at_cells h.fok h4) h5)
  · rename_i id hs hd
    split at he
    · rename_i xs fz ho
      cases he
      obtain ⟨e, h1, h3, _⟩ := (hE.types _ _ hs).sl
      have h3 := h3.int
      have h2 := (hE.types _ _ hd).str
      obtain ⟨τ', xs', fz', ho', hq⟩ := hx.owAt ho
      rw [ho] at ho'
      cases ho'
      refine ⟨.string (bytesOf xs), w, ?_, m, F, .refl F, h, .mkStr⟩
      cases hmi : m id with
      | none =>
        rw [hmi] at hq
        obtain ⟨rfl, ad, rfl⟩ := hq
        rw [run_convert_bytes_string w s d e ad _ 0 h1 h3 h2]
        cases ad with
        | none => simp [Conv.bytesToString, bytesOf]
        | some d => exact run_bytesToString w d _ 0 [] (by simp [loadCells, loadCellsFrom])
      | some bn =>
        obtain ⟨b, n⟩ := bn
        rw [hmi] at hq
        obtain ⟨cap, _, _, rfl⟩ := hq
        obtain ⟨el, fr, cs, c, dd, h4, h5, h6, h7, _⟩ := h.row ho hmi
        rw [run_convert_bytes_string w s d e _ _ cap h1 h3 h2]
        refine run_bytesToString w _ _ cap _ (bytes_load (fun j x hj => ?_) h7)
        rw [add_none, cell_block h4, h6, Nat.zero_add, List.getElem?_append_left (List.getElem?_eq_some_iff.1 hj).1]
        exact hj
    · cases he
  · cases he

end
end Go.Ev

/-! Appends. -/
namespace Go.Ev
open Go.RowKit
set_option linter.unusedSimpArgs false
set_option linter.unusedVariables false

section
variable {P : Program} {nt : Nat} {F0 F G : FH} {w0 w : World} {st st' : St} {m : MM} {a : Act} {E : Env} {v : AV} {u : Value}

/-- What an append asks of its types and of what is appended. -/
structure AppOk (P : Program) (ts : Array TypeId) (e : TypeId) (i : TypeInfo) (z : Value) (x : Value) (newc : List Value) (n : Nat) (w : World) : Prop where
  t0 : ∃ t, ts[0]? = some t ∧ P.underlying t = some (.slice e)
  t1 : ∃ t, ts[1]? = some t ∧ ((∃ e', P.underlying t = some (.slice e')) ∨ P.underlying t = some .string)
  hi : P.info? e = some i
  hz : i.zero = some z
  pos : 0 < i.bytes
  small : i.bytes ≤ 16384
  len : ∀ w', (Builtin.lenOf x).run P w' = .ok n w'
  first : ∀ w', w'.heap = w.heap → (Builtin.firstCells i.size n x).run P w' = .ok newc.toArray w'

/-- The cells behind a row's elements are written. -/
def stCells (base : Option Addr) (o : Nat) (newc : List Value) : Sem Unit :=
  match base with
  | some a => storeCells (a.add o) newc
  | none => pure ()

theorem run_append_room {ts : Array TypeId} {ty e : TypeId} {i : TypeInfo} {z x : Value} {newc : List Value} {n len cap : Nat} {base : Option Addr} (h : AppOk P ts e i z x newc n w) (hn : len + n ≤ cap) :
    (Builtin.append_ ts ty #[.slice base len cap, x]).run P w = ((stCells base (len * i.size) newc).run P w).andThen fun _ w' => .ok (.slice base (len + n) cap) w' := by
  obtain ⟨t, h0, h0'⟩ := h.t0
  obtain ⟨t', h1, h1'⟩ := h.t1
  have e0 : (#[Value.slice base len cap, x] : Array Value)[0]? = some (.slice base len cap) := rfl
  have e1 : (#[Value.slice base len cap, x] : Array Value)[1]? = some x := rfl
  unfold Builtin.append_
  rcases h1' with ⟨e', h1'⟩ | h1' <;>
    (simp only [h0, e0, e1, Sem.run_bind, run_underlying' h0', Result.andThen_ok, run_sizeOf' h.hi, h1, run_underlying' h1', Sem.run_pure, h.len, Bool.false_eq_true, if_false, hn, if_true, Bool.not_false, h.first w rfl]
     cases base <;> simp [stCells])

theorem run_append_grow {ts : Array TypeId} {ty e : TypeId} {i : TypeInfo} {z x : Value} {newc oldc : List Value} {n len cap : Nat} {base : Option Addr} (h : AppOk P ts e i z x newc n w) (hn : cap < len + n) (hlim : len + n ≤ lim)
    (hold : ∀ w', w'.heap = w.heap → (Builtin.firstCells i.size len (.slice base len cap)).run P w' = .ok oldc.toArray w') :
    ∃ ncap, len + n ≤ ncap ∧ (Builtin.append_ ts ty #[.slice base len cap, x]).run P w =
      .ok (.slice (some ⟨w.heap.size, 0, none⟩) (len + n) ncap) { w with drawn := w.drawn + 1, heap := w.heap.push (.cells (oldc.toArray ++ newc.toArray ++ Builtin.zeroCells z.cells (ncap - (len + n))) e) } := by
  obtain ⟨t, h0, h0'⟩ := h.t0
  obtain ⟨t', h1, h1'⟩ := h.t1
  have e0 : (#[Value.slice base len cap, x] : Array Value)[0]? = some (.slice base len cap) := rfl
  have e1 : (#[Value.slice base len cap, x] : Array Value)[1]? = some x := rfl
  refine ⟨Question.cut (.appendCap (len + n) cap e) (w.tape w.drawn (.appendCap (len + n) cap e)), by simp only [Question.cut]; omega, ?_⟩
  have hb : ¬ (((len + n : Nat) : Int) > IntKind.i64.max ∧ (False ∨ i.bytes = 0)) := by
    rintro ⟨_, h | h'⟩
    · exact h
    · have := h.pos; omega
  have hnb : i.bytes ≠ 0 := by have := h.pos; omega
  have hcap : ¬ Builtin.nextslicecap (len + n) cap * i.bytes > 2 ^ 48 := by
    have h2 := nextcap_le (len + n) cap hn
    have h3 := h.small
    have h4 : Builtin.nextslicecap (len + n) cap * i.bytes ≤ (2 * lim + 1000) * 16384 := Nat.mul_le_mul (by omega) h3
    have h5 : (2 * lim + 1000) * 16384 ≤ 2 ^ 48 := by decide
    omega
  unfold Builtin.append_
  rcases h1' with ⟨e', h1'⟩ | h1' <;>
    (simp only [h0, e0, e1, Sem.run_bind, run_underlying' h0', Result.andThen_ok, run_sizeOf' h.hi, h1, run_underlying' h1', Sem.run_pure, h.len, Bool.false_eq_true, if_false, show ¬ (len + n ≤ cap) by omega, run_typeInfo' h.hi, false_or, hnb, and_false, hcap, run_choose, Question.forced,
      run_askRoom, Bool.not_false, if_true, run_zeroValue' h.hi h.hz]
     rw [hold { w with drawn := w.drawn + 1 } rfl]
     simp only [Result.andThen_ok]
     rw [h.first { w with drawn := w.drawn + 1 } rfl]
     simp only [Result.andThen_ok, newRow, Sem.run_bind, run_newObj, Sem.run_pure, run_zeroValue' h.hi h.hz])

/-- The elements that are appended, out of a frozen slice. -/
theorem first_slice {τ : Ty} {ys : List τ.I} {q : Value} (hq : RepV P F (.sl τ) ys q) (hk : F.ok w) :
    ∃ c, RepL (Rep P F τ) ys c ∧ (∀ w', (Builtin.lenOf q).run P w' = .ok ys.length w') ∧ ∀ w', w'.heap = w.heap → (Builtin.firstCells (nc τ) ys.length q).run P w' = .ok c.toArray w' := by
  obtain ⟨ad, cap, rfl, hcap, hm⟩ := hq.sl'
  cases ys with
  | nil =>
    refine ⟨[], rfl, fun w' => rfl, fun w' hw' => ?_⟩
    cases ad with
    | none => rfl
    | some d => simp [Builtin.firstCells, loadCells, loadCellsFrom]
  | cons y ys =>
    obtain ⟨d, cc, rfl, h1, h2⟩ := hm (by simp)
    refine ⟨cc, h2, fun w' => rfl, fun w' hw' => ?_⟩
    have hl := RepL.length (fun x c h => Rep.length (P := P) (F := F) (x := x) h) _ _ h2
    have := run_loadCells_list (P := P) w' d cc (fun j x hj => by
      have := at_cells hk h1 j x hj
      unfold World.cell? at this ⊢
      rw [hw']; exact this)
    rw [hl] at this
    exact this

theorem first_str {s : ByteArray} : ∃ c, RepL (Rep P F (.int .u8)) ((ByteArray.data s).toList.map fun b => (b.toNat : Int)) c ∧ (∀ w', (Builtin.lenOf (.string s)).run P w' = .ok (ByteArray.size s) w') ∧
    ∀ w' : World, (Builtin.firstCells 1 (ByteArray.size s) (.string s)).run P w' = .ok c.toArray w' := by
  refine ⟨(ByteArray.data s).toList.map fun b => Value.int .u8 b.toNat, ?_, fun w' => rfl, fun w' => ?_⟩
  · have : ∀ l : List UInt8, RepL (Rep P F (.int .u8)) (l.map fun b => (b.toNat : Int)) (l.map fun b => Value.int .u8 b.toNat) := by
      intro l
      induction l with
      | nil => rfl
      | cons b l ih => exact ⟨[_], _, rfl, rfl, ih⟩
    exact this _
  · simp only [Builtin.firstCells, Sem.run_pure]
    congr 1
    have : s.extract 0 s.size = s := by simp
    rw [this]
    apply Array.ext'
    simp

/-- Old cells and new ones and spare ones, as a row. -/
theorem zeroCells_size (z : Array Value) (n : Nat) : (Builtin.zeroCells z n).size = n * z.size := by
  simp [Builtin.zeroCells]

/-- An object has a new name. -/
def MM.mv (m : MM) (id L : Nat) (x : Option (Nat × Nat)) : MM := fun j => if j = id then none else if j = L then x else m j

/-- A row of one's own is longer now, here or elsewhere, and has a new name; the old one is gone. -/
theorem Rel.regrow (h : Rel P nt F0 w0 st m F a w) {id : Nat} {τ : Ty} {xs zs : List τ.I} {m' : MM} {w' : World} (ho : atN st.h id = some (.row τ xs false))
    (hos : w'.os = w.os) (htape : w'.tape = w.tape) (hout : w'.output = w.output) (hsz : w.heap.size ≤ w'.heap.size)
    (hm : ∀ j, j ≠ id → j ≠ st.h.length → m' j = m j) (hmid : m' id = none) (hid : ∀ b n, m' st.h.length = some (b, n) → w0.heap.size ≤ b ∧ b < w'.heap.size ∧ ((∃ n0, m id = some (b, n0)) ∨ w.heap.size ≤ b))
    (hbl : ∀ b, b < w.heap.size → (∀ n, m id ≠ some (b, n)) → w'.heap[b]? = w.heap[b]?)
    (hnew : RelO P (setAt st.h id .gone ++ [.row τ zs false]) m' F w' st.h.length (.row τ zs false)) :
    Rel P nt F0 w0 ⟨st.fr, setAt st.h id .gone ++ [.row τ zs false]⟩ m' F a w' := by
  have hi : id < st.h.length := by rw [atN_eq] at ho; exact (List.getElem?_eq_some_iff.1 ho).1
  have hkl : (setAt st.h id .gone).length = st.h.length := by simp [setAt_eq]
  have hlt : ∀ {j u}, atN st.h j = some u → j < st.h.length := fun {j u} hu => by rw [atN_eq] at hu; exact (List.getElem?_eq_some_iff.1 hu).1
  have hlook : ∀ j, j ≠ id → j < st.h.length → atN (setAt st.h id .gone ++ [.row τ zs false]) j = atN st.h j := fun j hj hl => by
    rw [atN_eq, List.getElem?_append_left (by rw [hkl]; exact hl), setAt_eq, List.getElem?_set_ne (Ne.symm hj), ← atN_eq]
  have hgone : atN (setAt st.h id .gone ++ [.row τ zs false]) id = some .gone := by
    rw [atN_eq, List.getElem?_append_left (by rw [hkl]; exact hi), setAt_eq, List.getElem?_set_self hi]
  have hself : atN (setAt st.h id .gone ++ [.row τ zs false]) st.h.length = some (.row τ zs false) := by
    rw [atN_eq, List.getElem?_append_right (by rw [hkl]; exact Nat.le_refl _), hkl]
    simp
  have hh : HLe st.h (setAt st.h id .gone ++ [.row τ zs false]) := fun j o hj => by
    by_cases e : j = id
    · subst e; exact ⟨.gone, hgone, .inl rfl⟩
    · exact ⟨o, by rw [hlook j e (hlt hj)]; exact hj, .refl o⟩
  have hmm : ∀ j o, atN st.h j = some o → atN (setAt st.h id .gone ++ [.row τ zs false]) j ≠ some .gone → m' j = m j := fun j o hj hg => by
    refine hm j ?_ ?_
    · rintro rfl; exact hg hgone
    · have := hlt hj; omega
  have hblk : ∀ j b n, j ≠ id → m j = some (b, n) → w'.heap[b]? = w.heap[b]? := fun j b n e hb => hbl b (h.rng _ _ _ hb).2.2 fun n' hn' => e (h.inj _ _ _ _ _ hb hn')
  refine ⟨h.nt, fun t x ht => (h.fr t x ht).mono' hh hmm (.refl F), fun j u hu => ?_, fun i j b n n' hi' hj' => ?_, fun j b n hj => ?_, fun k c hk => ?_, h.gro, ?_, h.dfr⟩
  · by_cases e : j = id
    · subst e
      rw [hgone] at hu
      cases hu
      trivial
    · by_cases e2 : j = st.h.length
      · subst e2
        rw [hself] at hu
        cases hu
        exact hnew
      · have hjl : j < st.h.length := by
          rw [atN_eq] at hu
          have := (List.getElem?_eq_some_iff.1 hu).1
          simp [hkl] at this
          omega
        rw [hlook j e hjl] at hu
        exact (h.obs j u hu).mono' hh hmm (.refl F) (hm j e e2) (fun b n hb => hblk j b n e hb) (fun b n hb hn => hn)
  · have key : ∀ j, j ≠ st.h.length → ∀ b n n', m' st.h.length = some (b, n) → m' j = some (b, n') → False := by
      intro j hj b n n' h1 h2
      by_cases e : j = id
      · subst e; rw [hmid] at h2; cases h2
      rw [hm j e hj] at h2
      rcases (hid b n h1).2.2 with ⟨n0, h3⟩ | h3
      · exact e (h.inj _ _ _ _ _ h2 h3)
      · have := h.rng _ _ _ h2; omega
    by_cases e1 : i = st.h.length <;> by_cases e2 : j = st.h.length
    · omega
    · subst e1; exact (key j e2 b n n' hi' hj').elim
    · subst e2; exact (key i e1 b n' n hj' hi').elim
    · by_cases g1 : i = id
      · subst g1; rw [hmid] at hi'; cases hi'
      by_cases g2 : j = id
      · subst g2; rw [hmid] at hj'; cases hj'
      rw [hm i g1 e1] at hi'; rw [hm j g2 e2] at hj'; exact h.inj _ _ _ _ _ hi' hj'
  · simp only [List.length_append, hkl, List.length_cons, List.length_nil]
    by_cases e : j = st.h.length
    · subst e
      have := hid b n hj
      exact ⟨by omega, this.1, this.2.1⟩
    · by_cases g : j = id
      · subst g; rw [hmid] at hj; cases hj
      rw [hm j g e] at hj
      have := h.rng _ _ _ hj
      omega
  · obtain ⟨el, fz, hw⟩ := h.fok k c hk
    have hlt : k < w.heap.size := (Array.getElem?_eq_some_iff.1 hw).1
    refine ⟨el, fz, ?_⟩
    rw [hbl k hlt fun n hn => ?_]
    · exact hw
    · obtain ⟨el', fr, cs, c', d, h2, h3, h4, h5, h6⟩ := h.row ho hn
      rw [h6.1] at hk; cases hk
  · have hs := h.bel.size
    refine h.bel.trans ⟨hos, htape, hout, hsz, fun k hk => hbl k (by omega) fun n hn => ?_⟩
    have := h.rng _ _ _ hn
    omega

end
end Go.Ev

/-! Appends, put together. -/
namespace Go.Ev
open Go.RowKit
set_option linter.unusedSimpArgs false
set_option linter.unusedVariables false

section
variable {P : Program} {nt : Nat} {F0 F G : FH} {w0 w : World} {st st' : St} {m : MM} {a : Act} {E : Env} {v : AV} {u : Value}

/-- All that an append of typed elements leaves. -/
theorem evAppendRow_snd {ts : Array TypeId} {ty e : TypeId} {i : TypeInfo} {z q : Value} {τ : Ty} {x : AV} {p : Value} {ys : List τ.I} {newc : List Value} (h : Rel P nt F0 w0 st m F a w) (hx : RelV P st.h m F x p)
    (hok : AppOk P ts e i z q newc ys.length w) (hsz : i.size = nc τ) (hzc : z.cells.size = nc τ) (hr : RepL (Rep P F τ) ys newc) (he : evAppendRow τ x ys st pk = some (v, st')) :
    ∃ u w', (Builtin.append_ ts ty #[p, q]).run P w = .ok u w' ∧ Post P nt F0 w0 st' a F v u w' := by
  have hn : ∀ (z : τ.I) c, Rep P F τ z c → c.length = nc τ := fun z c h => Rep.length h
  have hnl := RepL.length hn _ _ hr
  -- the cells of a row that grew
  have hgrown : ∀ (xs : List τ.I) (oldc : List Value) (ncap : Nat), RepL (Rep P F τ) xs oldc → xs.length + ys.length ≤ ncap →
      RepL (Rep P F τ) (xs ++ ys) (oldc ++ newc) ∧ (oldc.toArray ++ newc.toArray ++ Builtin.zeroCells z.cells (ncap - (xs.length + ys.length))).toList = (oldc ++ newc) ++ (Builtin.zeroCells z.cells (ncap - (xs.length + ys.length))).toList ∧
        (oldc.toArray ++ newc.toArray ++ Builtin.zeroCells z.cells (ncap - (xs.length + ys.length))).size = ncap * nc τ := by
    intro xs oldc ncap h1 h2
    have hol := RepL.length hn _ _ h1
    refine ⟨RepL.append _ _ _ _ h1 hr, by simp, ?_⟩
    simp only [Array.size_append, List.size_toArray, zeroCells_size, hzc, hol, hnl]
    rw [← Nat.add_mul, ← Nat.add_mul]
    congr 1
    omega
  unfold evAppendRow at he
  split at he
  · rename_i σ xs0
    split at he
    · rename_i xs hc
      obtain ⟨e1, e2⟩ := castI_spec hc
      cases e1
      cases e2
      obtain ⟨hlim, he⟩ := cond_some he
      have hlim : xs0.length + ys.length ≤ lim := of_decide_eq_true hlim
      obtain ⟨ad, rfl, hm⟩ := hx
      have hold : ∃ oldc, RepL (Rep P F τ) xs0 oldc ∧ ∀ w', w'.heap = w.heap → (Builtin.firstCells i.size xs0.length (.slice ad xs0.length xs0.length)).run P w' = .ok oldc.toArray w' := by
        obtain ⟨c, h1, _, h3⟩ := first_slice (P := P) (F := F) (w := w) (τ := τ) (ys := xs0) (q := .slice ad xs0.length xs0.length) ⟨⟨ad, _, rfl, Nat.le_refl _, hm⟩, rfl⟩ h.fok
        exact ⟨c, h1, by rw [hsz]; exact h3⟩
      obtain ⟨oldc, ho1, ho2⟩ := hold
      cases hys : ys with
      | nil =>
        have hnc : newc = [] := by rw [hys] at hr; exact hr
        have hroom := run_append_room (ty := ty) (base := ad) (len := xs0.length) (cap := xs0.length) hok (by rw [hys]; simp)
        have hst : (stCells ad (xs0.length * i.size) newc).run P w = .ok () w := by
          rw [hnc]; cases ad <;> rfl
        rw [hst] at hroom
        simp only [Result.andThen_ok, hys, List.length_nil, Nat.add_zero] at hroom
        rw [hys] at he
        refine ⟨_, w, hroom, ?_⟩
        cases xs0 with
        | nil =>
          simp only [List.isEmpty_nil, cond_true] at he
          cases he
          obtain ⟨h5, h6⟩ := alloc_row0 (τ := τ) (ad := ad) h
          exact ⟨m, F, .refl F, h5, h6⟩
        | cons y xs1 =>
          simp only [List.isEmpty_cons, cond_false, List.isEmpty_nil, cond_true] at he
          cases he
          exact ⟨m, F, .refl F, h, ad, rfl, hm⟩
      | cons y ys1 =>
        have hpos : 0 < ys.length := by rw [hys]; simp
        obtain ⟨ncap, hn1, hrun⟩ := run_append_grow (ty := ty) (base := ad) hok (len := xs0.length) (cap := xs0.length) (oldc := oldc) (by omega) hlim ho2
        obtain ⟨h3, h4, h5⟩ := hgrown xs0 oldc ncap ho1 hn1
        refine ⟨_, _, hrun, ?_⟩
        have hst' : v = .ow st.h.length ∧ st' = ⟨st.fr, st.h ++ [.row τ (xs0 ++ ys) false]⟩ := by
          cases xs0 with
          | nil => simp only [List.isEmpty_nil, cond_true, List.nil_append] at he ⊢; cases he; exact ⟨rfl, rfl⟩
          | cons y' xs1 => rw [hys] at he ⊢; simp only [List.isEmpty_cons, cond_false] at he; cases he; exact ⟨rfl, rfl⟩
        obtain ⟨rfl, rfl⟩ := hst'
        obtain ⟨h6, h7⟩ := alloc_row (w' := { w with drawn := w.drawn + 1, heap := w.heap.push (.cells (oldc.toArray ++ newc.toArray ++ Builtin.zeroCells z.cells (ncap - (xs0.length + ys.length))) e) }) (el := e) (xs := xs0 ++ ys) (cap := ncap) h h4 h3 h5 (by simp; omega) rfl rfl rfl rfl
        refine ⟨_, F, .refl F, h6, ?_⟩
        have := h7
        rw [List.length_append] at this
        exact this
    · cases he
  · rename_i id
    split at he
    · rename_i σ xs0 ho
      split at he
      · rename_i xs hc
        obtain ⟨e1, e2⟩ := castI_spec hc
        cases e1
        cases e2
        obtain ⟨hlim, he⟩ := cond_some he
        have hlim : xs0.length + ys.length ≤ lim := of_decide_eq_true hlim
        cases he
        obtain ⟨τ', xs', fz', ho', hq⟩ := hx.owAt ho
        rw [ho] at ho'
        cases ho'
        have hi : id < st.h.length := by rw [atN_eq] at ho; exact (List.getElem?_eq_some_iff.1 ho).1
        have hself : atN (setAt st.h id .gone ++ [.row τ (xs0 ++ ys) false]) st.h.length = some (.row τ (xs0 ++ ys) false) := by
          rw [atN_eq, setAt_eq, List.getElem?_append_right (by simp)]; simp
        have hne : st.h.length ≠ id := by omega
        have hmvL : ∀ x, (m.mv id st.h.length x) st.h.length = x := fun x => by unfold MM.mv; rw [if_neg hne, if_pos rfl]
        have hmvi : ∀ x, (m.mv id st.h.length x) id = none := fun x => by unfold MM.mv; rw [if_pos rfl]
        have hmvo : ∀ x j, j ≠ id → j ≠ st.h.length → (m.mv id st.h.length x) j = m j := fun x j h1 h2 => by unfold MM.mv; rw [if_neg h1, if_neg h2]
        have hlen : (xs0 ++ ys).length = xs0.length + ys.length := by simp
        -- grown elsewhere
        have hgrow : ∀ (ad : Option Addr) (cap : Nat) (oldc : List Value), p = .slice ad xs0.length cap → cap < xs0.length + ys.length → RepL (Rep P F τ) xs0 oldc →
            (∀ w', w'.heap = w.heap → (Builtin.firstCells i.size xs0.length (.slice ad xs0.length cap)).run P w' = .ok oldc.toArray w') →
            ∃ u w', (Builtin.append_ ts ty #[p, q]).run P w = .ok u w' ∧ Post P nt F0 w0 ⟨st.fr, setAt st.h id .gone ++ [.row τ (xs0 ++ ys) false]⟩ a F (.ow st.h.length) u w' := by
          rintro ad cap oldc rfl hcap ho1 ho2
          obtain ⟨ncap, hn1, hrun⟩ := run_append_grow (ty := ty) (base := ad) hok (len := xs0.length) (cap := cap) (oldc := oldc) hcap hlim ho2
          obtain ⟨h3, h4, h5⟩ := hgrown xs0 oldc ncap ho1 hn1
          refine ⟨_, _, hrun, m.mv id st.h.length (some (w.heap.size, ncap * nc τ)), F, .refl F, ?_, ?_⟩
          · refine h.regrow (xs := xs0) ho rfl rfl rfl (by simp) (hmvo _) (hmvi _) (fun b n hb => ?_) (fun b hb _ => by simp [Array.getElem?_push]; omega) ?_
            · rw [hmvL] at hb
              simp only [Option.some.injEq, Prod.mk.injEq] at hb
              have := h.bel.size
              simp only [Array.size_push]
              omega
            · simp only [RelO, hmvL]
              exact ⟨e, (0, 0), _, oldc ++ newc, _, by simp, h5, h4, h3, h.noF, rfl⟩
          · refine .inr ⟨τ, xs0 ++ ys, false, hself, ?_⟩
            rw [hmvL]
            exact ⟨ncap, rfl, by rw [hlen]; exact hn1, by rw [hlen]⟩
        cases hmi : m id with
        | none =>
          rw [hmi] at hq
          obtain ⟨rfl, ad, rfl⟩ := hq
          cases hys : ys with
          | nil =>
            have hnc : newc = [] := by rw [hys] at hr; exact hr
            have hroom := run_append_room (ty := ty) (base := ad) (len := 0) (cap := 0) hok (by rw [hys]; simp)
            have hst : (stCells ad (0 * i.size) newc).run P w = .ok () w := by
              rw [hnc]; cases ad <;> rfl
            rw [hst] at hroom
            simp only [Result.andThen_ok, hys, List.length_nil, Nat.add_zero] at hroom
            rw [hys] at hself
            refine ⟨_, w, hroom, m.mv id st.h.length none, F, .refl F, ?_, .inr ⟨τ, _, false, hself, ?_⟩⟩
            · refine h.regrow (xs := []) ho rfl rfl rfl (Nat.le_refl _) (hmvo _) (hmvi _) (fun b n hb => by rw [hmvL] at hb; cases hb) (fun b hb _ => rfl) ?_
              simp only [RelO, hmvL, List.append_nil]
            · rw [hmvL]; exact ⟨by simp, ad, rfl⟩
          | cons y ys1 =>
            try rw [← hys]
            exact hgrow ad 0 [] rfl (by rw [hys]; simp) rfl (fun w' _ => by cases ad <;> simp [Builtin.firstCells, loadCells, loadCellsFrom])
        | some bn =>
          obtain ⟨b, n⟩ := bn
          rw [hmi] at hq
          obtain ⟨cap, hncap, hcap, rfl⟩ := hq
          obtain ⟨el, fr, cs, c, d, h1, h2, h3, h4, h5⟩ := h.row ho hmi
          obtain ⟨hFb, rfl⟩ := h5
          have hcl := RepL.length hn _ _ h4
          by_cases hroom : xs0.length + ys.length ≤ cap
          · have hrun := run_append_room (ty := ty) (base := some ⟨b, 0, none⟩) (len := xs0.length) (cap := cap) hok hroom
            have hcsl : cs.size = c.length + d.length := by rw [← Array.length_toList, h3]; simp
            have hfit : xs0.length * nc τ + newc.length ≤ cs.size := by
              rw [hnl, ← Nat.add_mul, h2, hncap]
              exact Nat.mul_le_mul_right _ hroom
            have hst := run_storeCells_at (P := P) b (xs0.length * nc τ) el newc 0 cs w h1 (by omega) (fun x hx => by
              have : ∀ (ys : List τ.I) nc', RepL (Rep P F τ) ys nc' → ∀ x ∈ nc', x.oneCell' = true := by
                intro ys
                induction ys with
                | nil => intro nc' h; cases h; simp
                | cons y ys ih =>
                  rintro nc' ⟨c1, d1, rfl, g1, g2⟩ x hx
                  rcases List.mem_append.1 hx with hx | hx
                  · exact Rep.one g1 x hx
                  · exact ih d1 g2 x hx
              exact this ys newc hr x hx)
            simp only [stCells] at hrun
            rw [add_none, Nat.zero_add, hsz] at hrun
            rw [hst] at hrun
            simp only [Result.andThen_ok, Nat.add_zero] at hrun
            refine ⟨_, _, hrun, m.mv id st.h.length (some (b, n)), F, .refl F, ?_, .inr ⟨τ, _, false, hself, ?_⟩⟩
            · refine h.regrow (xs := xs0) ho rfl rfl rfl (by simp) (hmvo _) (hmvi _) (fun b' n' hb => ?_) (fun k hk hne => setRow_other w b k _ (fun e => hne n (e ▸ hmi))) ?_
              · rw [hmvL] at hb
                cases hb
                have := h.rng _ _ _ hmi
                exact ⟨this.2.1, by simpa using this.2.2, .inl ⟨_, hmi⟩⟩
              · simp only [RelO, hmvL]
                refine ⟨el, (0, 0), _, c ++ newc, d.drop newc.length, setRow_heap w b _ _ el _ h1, ?_, ?_, RepL.append _ _ _ _ h4 hr, hFb, rfl⟩
                · simp only [List.size_toArray, List.length_append, List.length_take, List.length_drop, Array.length_toList]
                  omega
                · have e1 : cs.toList.take (xs0.length * nc τ) = c := by rw [h3, ← hcl, List.take_left']; rfl
                  have e2 : cs.toList.drop (xs0.length * nc τ + newc.length) = d.drop newc.length := by rw [h3, ← hcl, List.drop_length_add_append]
                  rw [e1, e2]
            · rw [hmvL]; exact ⟨cap, hncap, by rw [hlen]; exact hroom, by rw [hlen]⟩
          · refine hgrow (some ⟨b, 0, none⟩) cap c rfl (by omega) h4 (fun w' hw' => ?_)
            have := run_loadCells_list (P := P) w' ⟨b, 0, none⟩ c (fun j x hj => by
              have hlt := (List.getElem?_eq_some_iff.1 hj).1
              rw [add_none]
              have h1' : w'.heap[b]? = some (.cells cs el (0, 0)) := by rw [hw']; exact h1
              rw [cell_block h1', h3, Nat.zero_add, List.getElem?_append_left hlt]; exact hj)
            rw [hcl, ← hsz] at this
            exact this
      · cases he
    · cases he
  · cases he

theorem rep_zero_size {τ : Ty} {z : Value} (h : RepV P F τ (dflt τ) z) : z.cells.size = nc τ := by
  have := Rep.length h.1; simpa using this

theorem evAppend_snd {t t' : TypeId} {ts : Array TypeId} {ty : TypeId} {x y : AV} {p q : Value} (hE : EnvOk P G E) (h : Rel P nt F0 w0 st m F a w) (hx : RelV P st.h m F x p) (hy : RelV P st.h m F y q)
    (hts : ts.toList = [t, t']) (he : evAppend E t t' x y st pk = some (v, st')) :
    ∃ u w', (Builtin.append_ ts ty #[p, q]).run P w = .ok u w' ∧ Post P nt F0 w0 st' a F v u w' := by
  have ht0 : ts[0]? = some t := by rw [← Array.getElem?_toList, hts]; rfl
  have ht1 : ts[1]? = some t' := by rw [← Array.getElem?_toList, hts]; rfl
  unfold evAppend at he
  split at he
  · rename_i τ ys st1 hz
    obtain ⟨h1, h2⟩ := cond_some he
    simp only [Bool.and_eq_true] at h1
    obtain ⟨F', h3, h4, h5, h6⟩ := frz_spec hz h hy
    obtain ⟨e, hu, he2, hpos, hnp⟩ := (hE.types t _ (Env.is_spec h1.1)).sl
    obtain ⟨e', hu', _⟩ := (hE.types t' _ (Env.is_spec h1.2)).sl
    obtain ⟨i, z, g1, g2, g3, g4, g5⟩ := headB_spec (he2.head (Ty.np_spec hnp))
    obtain ⟨newc, k1, k2, k3⟩ := first_slice h5 h4.fok
    have hbytes := headB_bytes (he2.head (Ty.np_spec hnp)) g1
    obtain ⟨u, w', hrun, m', F2, r1, r2, r3⟩ := evAppendRow_snd (ty := ty) h4 (RelV.mono h6 (fun _ _ _ => rfl) h3 hx) ⟨⟨t, ht0, hu⟩, ⟨t', ht1, .inl ⟨e', hu'⟩⟩, g1, g4, hbytes, g3, k2, by rw [g2]; exact k3⟩ g2 (rep_zero_size (g5 F')) k1 h2
    exact ⟨u, w', hrun, m', F2, h3.trans r1, r2, r3⟩
  · rename_i s st1 hz
    obtain ⟨h1, h2⟩ := cond_some he
    simp only [Bool.and_eq_true] at h1
    obtain ⟨F', h3, h4, h5, h6⟩ := frz_spec hz h hy
    obtain ⟨e, hu, he2, hpos, hnp⟩ := (hE.types t _ (Env.is_spec h1.1)).sl
    have hu' := (hE.types t' _ (Env.is_spec h1.2)).str
    obtain ⟨i, z, g1, g2, g3, g4, g5⟩ := headB_spec (he2.head (Ty.np_spec hnp))
    obtain rfl := h5.str'
    obtain ⟨newc, k1, k2, k3⟩ := first_str (P := P) (F := F') (s := s)
    have hbytes := headB_bytes (he2.head (Ty.np_spec hnp)) g1
    have hl : ((ByteArray.data s).toList.map fun b => (b.toNat : Int)).length = ByteArray.size s := by rw [List.length_map]; rfl
    obtain ⟨u, w', hrun, m', F2, r1, r2, r3⟩ := evAppendRow_snd (ty := ty) (τ := .int .u8) h4 (RelV.mono h6 (fun _ _ _ => rfl) h3 hx) ⟨⟨t, ht0, hu⟩, ⟨t', ht1, .inr hu'⟩, g1, g4, hbytes, g3, by rw [hl]; exact k2, by rw [g2, hl]; exact fun w' _ => k3 w'⟩ g2 (rep_zero_size (g5 F')) k1 h2
    exact ⟨u, w', hrun, m', F2, h3.trans r1, r2, r3⟩
  · cases he

end
end Go.Ev

/-! Functions as values, and calls. -/
namespace Go.Ev
open Go.RowKit
set_option linter.unusedSimpArgs false
set_option linter.unusedVariables false

theorem joinI_rep {P : Program} {F : FH} : ∀ {b : Ty} {x : b.I} {c : Ty} {y : c.I} {us vs : List Value}, RepA P F b x us → RepA P F c y vs → RepA P F (b.join c) (joinI b x c y) (us ++ vs) := by
  intro b
  induction b with
  | unit => intro x c y us vs h1 h2; cases h1; exact h2
  | pair a b _ ihb =>
    rintro x c y us vs ⟨v, r, rfl, h1, h2, h3⟩ h4
    exact ⟨v, r ++ vs, rfl, h1, h2, ihb h3 h4⟩
  | _ => intro x c y us vs h1 _; exact h1.elim

/-- Values that stand for a list of the evaluator's, none of them several. -/
def RelL1 (P : Program) (h : List Obj) (m : MM) (F : FH) : List AV → List Value → Prop
  | [], us => us = []
  | v :: vs, us => ∃ u r, us = u :: r ∧ RelV1 P h m F v u ∧ RelL1 P h m F vs r

theorem RelL1.length {P : Program} {h : List Obj} {m : MM} {F : FH} : ∀ {vs : List AV} {us : List Value}, RelL1 P h m F vs us → us.length = vs.length
  | [], _, e => by cases e; rfl
  | _ :: _, _, ⟨u, r, rfl, _, h2⟩ => by simp [RelL1.length h2]
theorem RelL1.get {P : Program} {h : List Obj} {m : MM} {F : FH} : ∀ {vs : List AV} {us : List Value}, RelL1 P h m F vs us → ∀ (i : Nat) (v : AV), vs[i]? = some v → ∃ u, us[i]? = some u ∧ RelV1 P h m F v u
  | [], _, e, i, v, hv => by simp at hv
  | _ :: _, _, ⟨u, r, rfl, h1, h2⟩, 0, v, hv => by
    simp only [List.getElem?_cons_zero, Option.some.injEq] at hv
    subst hv
    exact ⟨u, rfl, h1⟩
  | _ :: _, _, ⟨u, r, rfl, h1, h2⟩, i + 1, v, hv => by
    obtain ⟨x, hx, hr⟩ := RelL1.get h2 i v (by simpa using hv)
    exact ⟨x, by simpa using hx, hr⟩

theorem unT_rel {P : Program} {h : List Obj} {m : MM} {F : FH} {vs : List AV} {us : List Value} (hr : RelL1 P h m F vs us) : RelV P h m F (unT vs) (unTup us) := by
  have hl := hr.length
  have hg := hr.get
  have htup : RelV P h m F (.tup vs) (.tuple us.toArray) := ⟨us.toArray, rfl, by simpa using hl, fun i v hv => by
    obtain ⟨x, hx, hx'⟩ := hg i v hv
    exact ⟨x, by simpa using hx, hx'⟩⟩
  match vs, us, hr, htup with
  | [], [], _, htup => exact htup
  | [v], [u], ⟨_, _, e, h1, _⟩, _ => cases e; exact RelV.of1 h1
  | _ :: _ :: _, _ :: _ :: _, _, htup => exact htup
  | [], _ :: _, e, _ => cases e
  | [_], [], ⟨_, _, e, _⟩, _ => cases e
  | [_], _ :: _ :: _, ⟨_, _, e, _, h2⟩, _ => cases e; cases h2
  | _ :: _ :: _, [], ⟨_, _, e, _⟩, _ => cases e
  | _ :: _ :: _, [_], ⟨_, _, e, _, _, _, e2, _⟩, _ => cases e; cases e2

theorem layAll_rel {P : Program} {h : List Obj} {m : MM} {F : FH} : ∀ {τ : Ty} {x : τ.I} {us : List Value}, RepA P F τ x us → RelL1 P h m F (layAll τ x) us := by
  intro τ
  induction τ with
  | unit => intro x us h1; exact h1
  | pair a b _ ihb => rintro x us ⟨v, r, rfl, h1, h2, h3⟩; exact ⟨v, r, rfl, ⟨h1, h2⟩, ihb h3⟩
  | _ => intro x us h1; exact h1.elim

section
variable {P : Program} {nt : Nat} {F0 F G : FH} {w0 w : World} {st st' : St} {m : MM} {a : Act} {E : Env} {v : AV} {u : Value}

theorem chain_spec {q : Bool} : ∀ {vs : List AV} {us : List Value} {τ : Ty} {x : τ.I} {st st' : St} {F : FH}, chain q vs st = some ⟨τ, x, st'⟩ → Rel P nt F0 w0 st m F a w → RelVs P st.h m F vs us →
    ∃ F', F.le F' ∧ Rel P nt F0 w0 st' m F' a w ∧ RepA P F' τ x us ∧ HLe st.h st'.h
  | [], us, τ, x, st, st', F, hz, h, hv => by
    simp only [chain, Option.some.injEq] at hz
    cases hz
    exact ⟨F, .refl F, h, hv, .refl _⟩
  | v :: vs, us, τ, x, st, st', F, hz, h, hv => by
    obtain ⟨u, r, rfl, h1, h2⟩ := hv
    simp only [chain] at hz
    split at hz
    · rename_i a y st1 hy
      split at hz
      · rename_i b ys st2 hys
        cases hz
        obtain ⟨F1, e1, e2, e3, e4⟩ := frz_spec hy h h1
        obtain ⟨F2, f1, f2, f3, f4⟩ := chain_spec hys e2 (h2.mono e4 e1)
        exact ⟨F2, e1.trans f1, f2, ⟨u, r, rfl, (e3.mono f1).1, e3.2, f3⟩, e4.trans f4⟩
      · cases hz
    · cases hz

theorem evMakeFunc_snd {q : Bool} {ty : TypeId} {fn : Fn} {first caps : Array Operand} (hE : EnvOk P G E) (hG : G.le F0) (h : Rel P nt F0 w0 st m F a w)
    (he : evMakeFunc q E ty fn (first.toList.map (rd E st none)) (caps.toList.map (rd E st none)) st pk = some (v, st')) :
    ∃ u, (Instr.makeFunc fn (first.map a.eval) (caps.map a.eval)).run P w = .ok u w ∧ Post P nt F0 w0 st' a F v u w := by
  unfold evMakeFunc at he
  split at he
  · rename_i f a' r hty
    split at he
    · rename_i Fn b x st1 hf hch
      split at he
      · rename_i c y st2 hch2
        split at he
        · rename_i heq
          obtain ⟨hall, he⟩ := cond_some he
          simp only [Bool.and_eq_true] at hall
          cases he
          have hs := hE.funs f Fn hf
          obtain ⟨F1, e1, e2, e3, e4⟩ := chain_spec hch h (rds_spec hE hG h hall.1)
          obtain ⟨F2, f1, f2, f3, f4⟩ := chain_spec hch2 e2 ((rds_spec hE hG h hall.2).mono e4 e1)
          refine ⟨.func (.func f) (first.map a.eval) (caps.map a.eval), rfl, m, F2, e1.trans f1, f2, ⟨f, _, _, rfl, hs.1, fun z z' hz F' w' vs hle hok hvs => ?_⟩, rfl⟩
          obtain ⟨id, fa, fr, md, spec⟩ := Fn
          obtain ⟨hfa, hfr⟩ := heq
          simp only at hfa hfr hz hs
          subst hfa
          subst hfr
          have hrep : RepA P F' (b.join (a'.join c)) (joinI b x _ (joinI a' z c y)) (first.toList.map a.eval ++ (vs ++ caps.toList.map a.eval)) :=
            joinI_rep ((e3.mono f1).mono hle) (joinI_rep hvs (f3.mono hle))
          have hGF : G.le F' := (hG.trans f2.gro.1).trans hle
          have := hs.frozen hz hGF hok hrep
          have hargs : (first.toList.map a.eval ++ (vs ++ caps.toList.map a.eval)).toArray = first.map a.eval ++ vs.toArray ++ caps.map a.eval := by
            apply Array.ext'
            simp
          rw [hargs] at this
          exact this
        · cases he
      · cases he
    · cases he
  · cases he

theorem run_callFunc {f : FuncId} {args : Array Value} (h : Enters P f) : (callFunc f args).run P w = .ok (.enter f args) w := by
  obtain ⟨fn, h1, h2, h3⟩ := h
  unfold callFunc
  simp only [Sem.run_bind, run_program, Result.andThen_ok, h1, h2, Bool.false_eq_true, if_false, h3, Sem.run_pure]

/-- A call of a function of the environment. -/
theorem evCallF_static {q : Bool} {f : FuncId} {Fn : Fun} {o : Oper} {args : Array Operand} (hE : EnvOk P G E) (hG : G.le F0) (h : Rel P nt F0 w0 st m F a w) (hf : look E.funs f = some Fn)
    (hrun : (execOp a.eval o).run P w = .ok (.enter f (args.map a.eval)) w)
    (he : evCallF q Fn.a Fn.r Fn.md Fn.spec (args.toList.map (rd E st none)) st pk = some (v, st')) : OpTo P o a w (Post P nt F0 w0 st' a F v) := by
  unfold evCallF at he
  obtain ⟨hall, he⟩ := cond_some he
  split at he
  · rename_i x st1 hpk
    obtain ⟨F1, e1, e2, e3, e4⟩ := packAs_spec hpk h (rds_spec hE hG h hall)
    simp only [Option.bind_eq_some_iff] at he
    obtain ⟨y, hy, he⟩ := he
    obtain ⟨rfl, rfl⟩ := kAV_pk he
    have hs := hE.funs f Fn hf
    have hGF : G.le F1 := hG.trans e2.gro.1
    refine OpTo.enter hrun ?_
    have hargs : (args.toList.map a.eval).toArray = args.map a.eval := by apply Array.ext'; simp
    have hfroz : ∀ (hmd : (bif q && Nat.beq Fn.md 1 then 0 else Fn.md) ≠ 1) (hmd2 : (bif q && Nat.beq Fn.md 1 then 0 else Fn.md) ≠ 2), Calls P f (args.map a.eval) w fun e w' => ∃ u, e = .returned u ∧ Post P nt F0 w0 ⟨st1.fr, st1.h⟩ a F (unT (layAll Fn.r y)) u w' := by
      intro _ _
      have := hs.frozen hy hGF e2.fok e3
      rw [hargs] at this
      refine this.mono ?_
      rintro e w' ⟨us, F', rfl, hb, hg, hk, hres⟩
      exact ⟨_, rfl, m, F', e1.trans hg.1, e2.step hb hg hk, unT_rel (layAll_rel hres)⟩
    obtain ⟨id, fa, fr, md, spec⟩ := Fn
    simp only at hfroz hs hy ⊢
    generalize hmd : (bif q && Nat.beq md 1 then 0 else md) = md' at *
    by_cases h1 : md' = 1
    · subst h1
      have hmd1 : md = 1 := by
        cases hq : (q && Nat.beq md 1) with
        | true => rw [hq] at hmd; cases hmd
        | false => rw [hq] at hmd; exact hmd
      subst hmd1
      have := hs.2 x y hy F1 w _ hGF e2.fok e3
      rw [hargs] at this
      refine this.mono ?_
      rintro e w' ⟨us, F', rfl, hb, hg, hk, hres⟩
      simp only at hres
      split at hres
      · rename_i a' b y' _ _
        obtain ⟨v, r, rfl, h3, h4⟩ := hres
        have hst := e2.step hb hg hk
        refine ⟨_, rfl, ?_⟩
        rcases h4 with ⟨bk, cap, el, cs, c, d, rfl, hcap, hlo, hw, hFb, hsz, hcd, hrep⟩ | ⟨hy0, ad, rfl⟩
        · -- a row that the callee made
          have hlt : bk < w'.heap.size := (Array.getElem?_eq_some_iff.1 hw).1
          have hm : (m.put st1.h.length (bk, cs.size)) st1.h.length = some (bk, cs.size) := by simp [MM.put]
          have hmm : ∀ j o, atN st1.h j = some o → (m.put st1.h.length (bk, cs.size)) j = m j := fun j o hj => by
            rw [atN_eq] at hj
            have := (List.getElem?_eq_some_iff.1 hj).1
            unfold MM.put; rw [if_neg (by omega)]
          have hnew : ∀ j b' n, m j = some (b', n) → b' ≠ bk := fun j b' n hj => by have := e2.rng j b' n hj; omega
          have hh : HLe st1.h (st1.h ++ [.row a' y'.1 false]) := HLe.append _ _
          have hrel : Rel P nt F0 w0 ⟨st1.fr, st1.h ++ [.row a' y'.1 false]⟩ (m.put st1.h.length (bk, cs.size)) F' a w' := by
            refine ⟨hst.nt, fun t v ht => (hst.fr t v ht).mono hh hmm (.refl _), fun j u hu => ?_, fun i j b' n1 n2 hi hj => ?_, fun j b' n' hj => ?_, hst.fok, hst.gro, hst.bel, hst.dfr⟩
            · by_cases ej : j = st1.h.length
              · subst ej
                rw [atN_eq] at hu
                simp at hu
                subst hu
                simp only [RelO, hm]
                exact ⟨el, (0, 0), cs, c, d, hw, rfl, hcd, hrep, hFb, rfl⟩
              · have hu' : atN st1.h j = some u := by
                  rw [atN_eq] at hu ⊢
                  have := (List.getElem?_eq_some_iff.1 hu).1
                  simp at this
                  rw [List.getElem?_append_left (by omega)] at hu; exact hu
                exact (hst.obs j u hu').mono hh hmm (.refl _) hu' (fun _ _ _ => rfl) (fun _ _ _ hn => hn)
            · unfold MM.put at hi hj
              by_cases g1 : i = st1.h.length <;> by_cases g2 : j = st1.h.length
              · omega
              · rw [if_pos g1] at hi; rw [if_neg g2] at hj
                simp at hi
                exact (hnew _ _ _ hj hi.1.symm).elim
              · rw [if_neg g1] at hi; rw [if_pos g2] at hj
                simp at hj
                exact (hnew _ _ _ hi hj.1.symm).elim
              · rw [if_neg g1] at hi; rw [if_neg g2] at hj
                exact hst.inj _ _ _ _ _ hi hj
            · unfold MM.put at hj
              have hb0 := e2.bel.size
              simp only [List.length_append, List.length_cons, List.length_nil]
              by_cases g : j = st1.h.length
              · rw [if_pos g] at hj
                simp at hj
                omega
              · rw [if_neg g] at hj
                have := hst.rng _ _ _ hj
                omega
          refine ⟨_, F', e1.trans hg.1, hrel, ?_⟩
          show RelV P (st1.h ++ [.row a' y'.1 false]) _ F' (unT (.ow st1.h.length :: layAll b y'.2)) _
          refine unT_rel ⟨_, r, rfl, .inr ⟨a', y'.1, false, by rw [atN_eq]; simp, ?_⟩, layAll_rel h3⟩
          rw [hm]
          exact ⟨cap, hsz, hcap, rfl⟩
        · obtain ⟨h5, h6⟩ := alloc_row0 (τ := a') (ad := ad) hst
          refine ⟨m, F', e1.trans hg.1, by simp only [layRes]; rw [hy0]; exact h5, ?_⟩
          simp only [layRes]
          rw [hy0]
          exact unT_rel ⟨_, r, rfl, h6, layAll_rel h3⟩
      · exact hres.elim
    · by_cases h2 : md' = 2
      · subst h2
        have hmd1 : md = 2 := by
          cases hq : (q && Nat.beq md 1) with
          | true => rw [hq] at hmd; cases hmd
          | false => rw [hq] at hmd; exact hmd
        subst hmd1
        have := hs.2 x y hy F1 w _ hGF e2.fok e3
        rw [hargs] at this
        refine this.mono ?_
        rintro e w' ⟨us, F', rfl, hb, hg, hk, hres⟩
        simp only at hres
        split at hres
        · rename_i a' b y' _ _
          obtain ⟨v, r, ad, rfl, h3, rfl, h4⟩ := hres
          exact ⟨_, rfl, m, F', e1.trans hg.1, e2.step hb hg hk, unT_rel ⟨_, r, rfl, ⟨ad, rfl, h4⟩, layAll_rel h3⟩⟩
        · exact hres.elim
      · have hl : layRes md' fr y st1.h = (unT (layAll fr y), st1.h) := by
          unfold layRes
          split
          · exact absurd rfl h1
          · exact absurd rfl h2
          · rfl
        rw [hl]
        exact hfroz h1 h2
  · cases he

/-- A call of a function value. -/
theorem evCallF_value {q : Bool} {τ σ : Ty} {g : τ.I → Option σ.I} {o : Oper} {args : Array Operand} {p : Value} (hE : EnvOk P G E) (hG : G.le F0) (h : Rel P nt F0 w0 st m F a w) (hp : RelV P st.h m F (.dat (.fn τ σ) (some g)) p)
    (hrun : ∀ f first caps, p = .func (.func f) first caps → Enters P f → (execOp a.eval o).run P w = .ok (.enter f (first ++ args.map a.eval ++ caps)) w)
    (he : evCallF q τ σ 0 g (args.toList.map (rd E st none)) st pk = some (v, st')) : OpTo P o a w (Post P nt F0 w0 st' a F v) := by
  unfold evCallF at he
  obtain ⟨hall, he⟩ := cond_some he
  split at he
  · rename_i x st1 hpk
    obtain ⟨F1, e1, e2, e3, e4⟩ := packAs_spec hpk h (rds_spec hE hG h hall)
    simp only [Option.bind_eq_some_iff] at he
    obtain ⟨y, hy, he⟩ := he
    obtain ⟨rfl, rfl⟩ := kAV_pk he
    obtain ⟨f, first, caps, hpe, hent, hc⟩ := RelV.one rfl hp
    simp only [List.cons.injEq, and_true] at hpe
    refine OpTo.enter (hrun f first caps hpe hent) ?_
    have := hc x y hy F1 w _ e1 e2.fok e3
    have hargs : first ++ (args.toList.map a.eval).toArray ++ caps = first ++ args.map a.eval ++ caps := by congr 2; apply Array.ext'; simp
    rw [hargs] at this
    refine this.mono ?_
    rintro e w' ⟨us, F', rfl, hb, hg, hk, hres⟩
    have hl : layRes (bif q && Nat.beq 0 1 then 0 else 0) σ y st1.h = (unT (layAll σ y), st1.h) := by
      cases q <;> rfl
    rw [hl]
    exact ⟨_, rfl, m, F', e1.trans hg.1, e2.step hb hg hk, unT_rel (layAll_rel hres)⟩
  · cases he

end
end Go.Ev

/-! Maps of a call's own. -/
namespace Go.Ev
open Go.RowKit
set_option linter.unusedSimpArgs false
set_option linter.unusedVariables false

theorem eqI_eq : ∀ {κ : Ty} {x y : κ.I}, keyOk κ = true → eqI κ x y = true → x = y := by
  intro κ x y hk h
  cases κ with
  | int k => simpa [eqI] using h
  | bool => simpa [eqI] using h
  | str =>
    have h : (x : ByteArray).toList = (y : ByteArray).toList := by simpa [eqI] using h
    rw [ByteArray.toList_eq, ByteArray.toList_eq] at h
    obtain ⟨⟨a⟩⟩ := x
    obtain ⟨⟨b⟩⟩ := y
    have : a = b := h
    rw [this]
  | _ => cases hk

theorem eqI_refl : ∀ {κ : Ty} (x : κ.I), keyOk κ = true → eqI κ x x = true := by
  intro κ x hk
  cases κ <;> first | (cases hk; done) | simp [eqI]

section
variable {P : Program} {nt : Nat} {F0 F G : FH} {w0 w : World} {st st' : St} {m : MM} {a : Act} {E : Env} {v : AV} {u : Value}

theorem key_now {κ : Ty} {k : TypeId} (hk : keyOk κ = true) (hty : TyOk P k κ) : ∃ d, P.underlying k = some d ∧ ∀ (x y : κ.I) (p q : Value), RepV P F κ x p → RepV P F κ y q →
    Instr.sameNow d p q = some (eqI κ x y) ∧ (eqI κ x y = true → Instr.sameBits 10000 q p = true) ∧ (∀ e, (Instr.checkKey e 10000 k p).run P w = .ok () w) := by
  cases κ with
  | int kk =>
    have hu := hty.int
    refine ⟨_, hu, fun x y p q hp hq => ?_⟩
    have := RepV.one' rfl hp; have := RepV.one' rfl hq
    simp only [Rep, RR, List.cons.injEq, and_true] at *
    subst_vars
    refine ⟨by simp [Instr.sameNow, eqI], fun h => ?_, fun e => ?_⟩
    · have h : (x : Int) = y := by simpa [eqI] using h
      simp [Instr.sameBits, h]
    · unfold Instr.checkKey; simp [run_underlying' hu]
  | bool =>
    have hu : P.underlying k = some .bool := by
      simp only [TyOk, tyB, Bool.and_eq_true] at hty
      have h := hty.2
      split at h
      · rename_i he; exact he
      · cases h
    refine ⟨_, hu, fun x y p q hp hq => ?_⟩
    have := RepV.one' rfl hp; have := RepV.one' rfl hq
    simp only [Rep, RR, List.cons.injEq, and_true] at *
    subst_vars
    refine ⟨by simp [Instr.sameNow, eqI], fun h => ?_, fun e => ?_⟩
    · have h : (x : Bool) = y := by simpa [eqI] using h
      simp [Instr.sameBits, h]
    · unfold Instr.checkKey; simp [run_underlying' hu]
  | str =>
    have hu := hty.str
    refine ⟨_, hu, fun x y p q hp hq => ?_⟩
    have := RepV.one' rfl hp; have := RepV.one' rfl hq
    simp only [Rep, RR, List.cons.injEq, and_true] at *
    subst_vars
    refine ⟨by simp [Instr.sameNow, eqI, beq_toListBytes], fun h => ?_, fun e => ?_⟩
    · have h := eqI_eq (κ := .str) rfl h
      subst h
      simp [Instr.sameBits, beq_toListBytes]
    · unfold Instr.checkKey; simp [run_underlying' hu]
  | _ => cases hk

theorem RelE.cons {κ σ : Ty} {p : κ.I × σ.I} {es : List (κ.I × σ.I)} {ents : List MapEntry} (h : RelE P F κ σ (p :: es) ents) : ∃ e r, ents = e :: r ∧ RepV P F κ p.1 e.key ∧ RepV P F σ p.2 e.val ∧ RelE P F κ σ es r := by
  obtain ⟨h1, h2⟩ := h
  cases ents with
  | nil => simp at h1
  | cons e r =>
    obtain ⟨h3, h4⟩ := h2 0 p e rfl rfl
    exact ⟨e, r, rfl, h3, h4, by simpa using h1, fun i q f hq hf => h2 (i + 1) q f (by simpa using hq) (by simpa using hf)⟩
theorem RelE.nil {κ σ : Ty} {ents : List MapEntry} (h : RelE P F κ σ [] ents) : ents = [] := List.length_eq_zero_iff.1 h.1.symm
theorem RelE.mkCons {κ σ : Ty} {p : κ.I × σ.I} {es : List (κ.I × σ.I)} {e : MapEntry} {r : List MapEntry} (h1 : RepV P F κ p.1 e.key) (h2 : RepV P F σ p.2 e.val) (h3 : RelE P F κ σ es r) : RelE P F κ σ (p :: es) (e :: r) :=
  ⟨by simp [h3.1], fun i q f hq hf => by
    cases i with
    | zero => simp at hq hf; subst hq; subst hf; exact ⟨h1, h2⟩
    | succ i => exact h3.2 i q f (by simpa using hq) (by simpa using hf)⟩

theorem find_spec {κ σ : Ty} {k : TypeId} {x : κ.I} {p : Value} (hk : keyOk κ = true) (hty : TyOk P k κ) (hp : RepV P F κ x p) :
    ∃ d, P.underlying k = some d ∧ ∀ (es : List (κ.I × σ.I)) (ents : List MapEntry) (i0 : Nat) (y : σ.I) (q : Value) (born : Nat), RelE P F κ σ es ents → RepV P F σ y q →
      (Instr.findNow d p ents i0 = some none ∧ mhas κ es x = false ∧ mget κ (dflt σ) es x = dflt σ ∧ RelE P F κ σ (mput κ es x y) (ents ++ [{ key := p, val := q, born }])) ∨
      (∃ i z old, Instr.findNow d p ents i0 = some (some (i0 + i, z)) ∧ mhas κ es x = true ∧ RepV P F σ (mget κ (dflt σ) es x) z ∧ (ents[i]?).map (·.key) = some old ∧ Instr.sameBits 10000 old p = true ∧
        RelE P F κ σ (mput κ es x y) (ents.modify i fun e => { e with key := p, val := q })) := by
  obtain ⟨d, hd, hnow⟩ := key_now (F := F) (w := default) hk hty
  refine ⟨d, hd, fun es => ?_⟩
  induction es with
  | nil =>
    intro ents i0 y q born he hq
    obtain rfl := he.nil
    exact .inl ⟨rfl, rfl, rfl, by simpa [mput] using RelE.mkCons (p := (x, y)) (e := { key := p, val := q, born }) hp hq he⟩
  | cons e0 es ih =>
    intro ents i0 y q born he hq
    obtain ⟨e, r, rfl, h1, h2, h3⟩ := he.cons
    obtain ⟨h4, h5, _⟩ := hnow x e0.1 p e.key hp h1
    cases heq : eqI κ x e0.1 with
    | true =>
      right
      rw [heq] at h4
      have hx := eqI_eq hk heq
      refine ⟨0, e.val, e.key, by simp [Instr.findNow, h4], by simp [mhas, heq], by simpa [mget, heq] using h2, rfl, h5 heq, ?_⟩
      simp only [mput, heq, cond_true, List.modify_zero_cons]
      exact RelE.mkCons (by rw [← hx]; exact hp) hq h3
    | false =>
      rw [heq] at h4
      rcases ih r (i0 + 1) y q born h3 hq with ⟨g1, g2, g3, g4⟩ | ⟨i, z, old, g1, g2, g3, g4, g5, g6⟩
      · left
        refine ⟨by simp [Instr.findNow, h4, g1], by simp [mhas, heq, g2], by simp [mget, heq, g3], ?_⟩
        simp only [mput, heq, cond_false, List.cons_append]
        exact RelE.mkCons h1 h2 g4
      · right
        refine ⟨i + 1, z, old, by simp [Instr.findNow, h4, g1]; omega, by simp [mhas, heq, g2], by simpa [mget, heq] using g3, by simpa using g4, g5, ?_⟩
        simp only [mput, heq, cond_false, List.modify_succ_cons]
        exact RelE.mkCons h1 h2 g6

theorem evLookup_snd {t : TypeId} {x y : AV} {p q : Value} {ok : Bool} (hE : EnvOk P G E) (h : Rel P nt F0 w0 st m F a w) (hx : RelV P st.h m F x p) (hy : RelV P st.h m F y q) (he : evLookup E t x y ok st pk = some (v, st')) :
    ∃ u, (Instr.lookup t p q ok).run P w = .ok u w ∧ st' = st ∧ RelV P st.h m F v u := by
  unfold evLookup at he
  split at he
  · rename_i id
    split at he
    · rename_i κ σ es ho
      split at he
      · rename_i ρ k
        split at he
        · rename_i k' hc
          obtain ⟨rfl, rfl⟩ := castI_spec hc
          obtain ⟨h1, h2⟩ := cond_some he
          simp only [Bool.and_eq_true] at h1
          obtain ⟨kt, et, hu, hkt, het⟩ := (hE.types t _ (Env.isM_spec h1.1.2)).mp
          obtain ⟨b, n, κ', σ', es', hmi, ho', rfl⟩ := hx.omAt ho
          rw [ho] at ho'
          cases ho'
          obtain ⟨b', n', ents, clock, h3, h4, h5, h6⟩ := h.obs id _ ho
          rw [hmi] at h3
          cases h3
          have hg : (getObj b).run P w = .ok (.map ents clock) w := by simp [getObj, Sem.run, h4]
          have hnp := Ty.np_spec h1.2
          obtain ⟨i, z, g1, g2, g3, g4, g5⟩ := headB_spec (het.head hnp)
          obtain ⟨d, hd, hf⟩ := find_spec (σ := σ) h1.1.1 hkt hy
          obtain ⟨d', hd', hnow⟩ := key_now (F := F) (w := w) h1.1.1 hkt
          have hck := (hnow k k q q hy hy).2.2 ents.isEmpty
          have hfk : ∀ r, Instr.findNow d q ents.toList 0 = some r → (Instr.findKey kt q ents.toList).run P w = .ok r w := fun r hr => by
            unfold Instr.findKey
            simp [run_underlying' hd, hr]
          have hfin : ∀ (z' : Value) (okb : Bool), RepV P F σ (mget ρ (dflt σ) es k) z' → mhas ρ es k = okb → (∃ r, Instr.findNow d q ents.toList 0 = some r ∧ (match r with | some (_, v) => z' = v ∧ okb = true | none => z' = z ∧ okb = false)) →
              ∃ u, (Instr.lookup t (.map (some b)) q ok).run P w = .ok u w ∧ st' = st ∧ RelV P st.h m F v u := by
            rintro z' okb hz' hok ⟨r, hr, hm⟩
            have hrun : (Instr.lookup t (.map (some b)) q ok).run P w = .ok (if ok then .tuple #[z', .bool okb] else z') w := by
              unfold Instr.lookup
              simp only [Sem.run_bind, run_underlying' hu, Result.andThen_ok, hg, hck, hfk r hr, Sem.run_pure]
              cases r with
              | some jv => obtain ⟨rfl, rfl⟩ := hm; simp
              | none => obtain ⟨rfl, rfl⟩ := hm; simp [run_zeroValue' g1 g4]
            refine ⟨_, hrun, ?_⟩
            cases ok with
            | false =>
              obtain ⟨rfl, rfl⟩ := kAV_pk h2
              exact ⟨rfl, hz'⟩
            | true =>
              cases h2
              refine ⟨rfl, #[z', .bool okb], rfl, rfl, fun i u hu => ?_⟩
              match i, hu with
              | 0, hu => simp at hu; subst hu; exact ⟨z', rfl, hz'⟩
              | 1, hu => simp at hu; subst hu; exact ⟨.bool okb, rfl, by rw [← hok]; exact ⟨rfl, rfl⟩⟩
          rcases hf es ents.toList 0 (dflt σ) z 0 h5 (g5 F) with ⟨k1, k2, k3, _⟩ | ⟨i, z', old, k1, k2, k3, _⟩
          · exact hfin z false (by rw [k3]; exact g5 F) k2 ⟨none, k1, rfl, rfl⟩
          · exact hfin z' true k3 k2 ⟨_, k1, rfl, rfl⟩
        · cases he
      · cases he
    · cases he
  · cases he

theorem evMapUpdate_snd {t : TypeId} {x y z : AV} {p q r : Value} (hE : EnvOk P G E) (h : Rel P nt F0 w0 st m F a w) (hx : RelV P st.h m F x p) (hy : RelV P st.h m F y q) (hz : RelV P st.h m F z r) (he : evMapUpdate E t x y z st pk = some (v, st')) :
    ∃ w', (Instr.mapUpdate t p q r).run P w = .ok () w' ∧ Post P nt F0 w0 st' a F v undef w' := by
  unfold evMapUpdate at he
  split at he
  · rename_i id
    split at he
    · rename_i κ σ es ho
      split at he
      · rename_i ρ k τ yv
        split at he
        · rename_i k' yv' hc hc2
          obtain ⟨rfl, rfl⟩ := castI_spec hc
          obtain ⟨rfl, rfl⟩ := castI_spec hc2
          obtain ⟨h1, h2⟩ := cond_some he
          simp only [Bool.and_eq_true] at h1
          cases h2
          obtain ⟨kt, et, hu, hkt, het⟩ := (hE.types t _ (Env.isM_spec h1.1.2)).mp
          obtain ⟨b, n, κ', σ', es', hmi, ho', rfl⟩ := hx.omAt ho
          rw [ho] at ho'
          cases ho'
          obtain ⟨b', n', ents, clock, h3, h4, h5, h6⟩ := h.obs id _ ho
          rw [hmi] at h3
          cases h3
          have hg : (getObj b).run P w = .ok (.map ents clock) w := by simp [getObj, Sem.run, h4]
          obtain ⟨d, hd, hf⟩ := find_spec (σ := τ) h1.1.1 hkt hy
          obtain ⟨d', hd', hnow⟩ := key_now (F := F) (w := w) h1.1.1 hkt
          have hck := (hnow k k q q hy hy).2.2 false
          have hfk : ∀ r, Instr.findNow d q ents.toList 0 = some r → (Instr.findKey kt q ents.toList).run P w = .ok r w := fun r hr => by
            unfold Instr.findKey
            simp [run_underlying' hd, hr]
          have hset : ∀ (ents' : Array MapEntry) (clock' : Nat), (setObj b (.map ents' clock')).run P w = .ok () { w with heap := w.heap.setIfInBounds b (.map ents' clock') } := fun ents' clock' => by
            simp [setObj, Sem.run, h4]
          have hblt : b < w.heap.size := (Array.getElem?_eq_some_iff.1 h4).1
          have hfin : ∀ (ents' : Array MapEntry) (clock' : Nat), RelE P F ρ τ (mput ρ es k yv) ents'.toList → (Instr.mapUpdate t (.map (some b)) q r).run P w = (setObj b (.map ents' clock')).run P w →
              ∃ w', (Instr.mapUpdate t (.map (some b)) q r).run P w = .ok () w' ∧ Post P nt F0 w0 ⟨st.fr, setAt st.h id (.mp ρ τ (mput ρ es k yv))⟩ a F (.tup []) undef w' := by
            intro ents' clock' hre hrun
            rw [hset] at hrun
            refine ⟨_, hrun, m, F, .refl F, ?_, relUndef⟩
            refine h.turn ho (.inr ⟨rfl, rfl⟩) rfl rfl rfl (by simp) (fun k' hk' => ?_) (fun b' n' hb' => by rw [hmi] at hb'; cases hb'; exact h6) ?_
            · have : k' ≠ b := fun e => hk' n (e ▸ hmi)
              simp [Array.getElem?_setIfInBounds_ne (Ne.symm this)]
            · exact ⟨b, n, ents', clock', hmi, by simp [hblt], hre, h6⟩
          rcases hf es ents.toList 0 yv r clock h5 hz with ⟨k1, k2, k3, k4⟩ | ⟨i, z', old, k1, k2, k3, k4, k5, k6⟩
          · refine hfin (ents.push { key := q, val := r, born := clock }) (clock + 1) (by simpa using k4) ?_
            unfold Instr.mapUpdate
            simp only [Sem.run_bind, run_underlying' hu, Result.andThen_ok, hg, hck, hfk _ k1]
          · refine hfin (ents.modify i fun e => { e with key := q, val := r }) clock (by simpa [Array.toList_modify] using k6) ?_
            unfold Instr.mapUpdate
            have hold : ((ents[i]?).map (·.key)).getD q = old := by
              rw [← Array.getElem?_toList, k4]; rfl
            simp only [Sem.run_bind, run_underlying' hu, Result.andThen_ok, hg, hck, hfk _ k1, Nat.zero_add, hold, Instr.keyThatStays, k5, if_true, Sem.run_pure]
        · cases he
      · cases he
    · cases he
  · cases he

end
end Go.Ev

/-! Every operation. -/
namespace Go.Ev
open Go.RowKit
set_option linter.unusedSimpArgs false
set_option linter.unusedVariables false

section
variable {P : Program} {nt : Nat} {F0 F G : FH} {w0 w : World} {st st' : St} {m : MM} {a : Act} {E : Env} {v : AV} {u : Value}

theorem relPs_of (hE : EnvOk P G E) (hG : G.le F0) (h : Rel P nt F0 w0 st m F a w) {θ : Option Ty} : ∀ {ps : List (Nat × Operand)}, (∀ p ∈ ps, (rd E st θ p.2).isSome = true) → RelPs P st.h m F (ps.map fun p => (p.1, rd E st θ p.2)) (ps.map fun p => (p.1, a.eval p.2))
  | [], _ => rfl
  | (i, x) :: ps, hp => by
    obtain ⟨v, hv⟩ := Option.isSome_iff_exists.1 (hp (i, x) (by simp))
    simp only [List.map_cons, hv]
    exact ⟨_, _, rfl, rd_spec hE hG h hv, relPs_of hE hG h fun p hp' => hp p (by simp [hp'])⟩

theorem evBuild_some {q : Bool} : ∀ {ps : List (Nat × Option AV)} {τ : Ty} {x : τ.I} {st : St} {r : τ.I × St}, evBuild q τ x ps st = some r → ∀ p ∈ ps, p.2.isSome = true
  | [], _, _, _, _, _, p, hp => by simp at hp
  | (i, none) :: ps, τ, x, st, r, he, p, hp => by cases τ <;> simp [evBuild] at he
  | (i, some v) :: ps, τ, x, st, r, he, p, hp => by
    rcases List.mem_cons.1 hp with rfl | hp
    · rfl
    · simp only [evBuild] at he
      split at he
      · split at he
        · exact evBuild_some he p hp
        · cases he
      · cases he
theorem evBuildRow_some {q : Bool} {τ : Ty} : ∀ {ps : List (Nat × Option AV)} {x : List τ.I} {st : St} {r : List τ.I × St}, evBuildRow q τ x ps st = some r → ∀ p ∈ ps, p.2.isSome = true
  | [], _, _, _, _, p, hp => by simp at hp
  | (i, none) :: ps, x, st, r, he, p, hp => by simp [evBuildRow] at he
  | (i, some v) :: ps, x, st, r, he, p, hp => by
    rcases List.mem_cons.1 hp with rfl | hp
    · rfl
    · simp only [evBuildRow] at he
      split at he
      · obtain ⟨_, he⟩ := cond_some he
        exact evBuildRow_some he p hp
      · cases he

theorem relB_of (hE : EnvOk P G E) (hG : G.le F0) (h : Rel P nt F0 w0 st m F a w) (x : Option Operand) : RelB P st.h m F (x.map (rd E st none)) (x.map a.eval) := by
  cases x with
  | none => rfl
  | some x =>
    simp only [Option.map_some]
    cases hv : rd E st none x with
    | none => trivial
    | some v => exact ⟨_, rfl, rd_spec hE hG h hv⟩

theorem run_value {x : Sem Value} {u : Value} {w' : World} (h : x.run P w = .ok u w') : (do pure (Next.value (← x)) : Sem Next).run P w = .ok (.value u) w' := by
  simp [h]
theorem run_skip {x : Sem Unit} {w' : World} (h : x.run P w = .ok () w') : (do x; pure Next.skip : Sem Next).run P w = .ok .skip w' := by
  simp [h]

/-- So many zeroes. -/
def zrow (z : Value) (n : Nat) : Array Value := (Array.range (n * z.cells.size)).map (z.cells[· % z.cells.size]!)
theorem zrow_toList (z : Value) (n : Nat) : (zrow z n).toList = (List.replicate n z.cells.toList).flatten := by
  apply List.ext_getElem?
  intro j
  have hl : ∀ n : Nat, (List.replicate n z.cells.toList).flatten.length = n * z.cells.size := by
    intro n; simp
  by_cases hj : j < n * z.cells.size
  · have hpos : 0 < z.cells.size := by
      rcases Nat.eq_zero_or_pos z.cells.size with h | h
      · rw [h] at hj; simp at hj
      · exact h
    have hmod : j % z.cells.size < z.cells.size := Nat.mod_lt _ hpos
    have key : ∀ (n j : Nat), j < n * z.cells.size → (List.replicate n z.cells.toList).flatten[j]? = some (z.cells[j % z.cells.size]'(Nat.mod_lt _ hpos)) := by
      intro n
      induction n with
      | zero => intro j hj; simp at hj
      | succ n ih =>
        intro j hj
        rw [List.replicate_succ, List.flatten_cons]
        by_cases h1 : j < z.cells.size
        · rw [List.getElem?_append_left (by simpa using h1)]
          simp only [Nat.mod_eq_of_lt h1]
          simp [h1]
        · rw [List.getElem?_append_right (by simp; omega)]
          have := ih (j - z.cells.size) (by rw [Nat.add_mul] at hj; omega)
          simp only [Array.length_toList]
          rw [this]
          congr 2
          rw [Nat.mod_eq_sub_mod (by omega : j ≥ z.cells.size)]
    rw [key n j hj]
    simp [zrow, hj, hmod]
  · rw [List.getElem?_eq_none (l := (List.replicate n z.cells.toList).flatten) (by rw [hl]; omega), List.getElem?_eq_none]
    simp [zrow]; omega

theorem zrow_zero {z : Value} {n : Nat} (h : n * z.cells.size = 0) : zrow z n = #[] := by
  apply Array.ext'
  rw [zrow_toList]
  apply List.eq_nil_of_length_eq_zero
  simpa using h

theorem range0 (f : Nat → Value) : (Array.range 0).map f = #[] := by
  apply Array.eq_empty_of_size_eq_zero
  simp

theorem run_places {c : Ty} {fs : Array Field} (h : (tyB P c).2 fs.toList 0 = true) :
    ∃ places : Array (Nat × Nat), (fs.mapM (m := Sem) fun f => do pure (f.offset, ← sizeOf f.type)).run P w = .ok places w ∧ ∀ i o σ, nthT c i = some (o, σ) → places[i]? = some (o, nc σ) := by
  have key : ∀ (c : Ty) (l : List Field) (off : Nat), (tyB P c).2 l off = true → ∃ ps : List (Nat × Nat), (l.mapM (m := Sem) fun f => do pure (f.offset, ← sizeOf f.type)).run P w = .ok ps w ∧ ∀ i o σ, nthT c i = some (o, σ) → ps[i]? = some (off + o, nc σ) := by
    intro c
    induction c with
    | unit =>
      intro l off h
      simp only [tyB, List.isEmpty_iff] at h
      subst h
      exact ⟨[], by simp, fun i o σ hn => by simp [nthT] at hn⟩
    | pair a b _ ihb =>
      intro l off h
      cases l with
      | nil => cases h
      | cons f l =>
        simp only [tyB, Bool.and_eq_true] at h
        obtain ⟨⟨⟨⟨h1, h2⟩, h3⟩, h4⟩, h5⟩ := h
        obtain ⟨ps, h6, h7⟩ := ihb l _ h5
        obtain ⟨i, hi, hsz⟩ := TyOk.size h2 (Ty.np_spec h3.2)
        refine ⟨(f.offset, i.size) :: ps, ?_, fun j o σ hn => ?_⟩
        · simp only [List.mapM_cons, Sem.run_bind, run_sizeOf' hi, Result.andThen_ok, Sem.run_pure, h6]
        · cases j with
          | zero =>
            simp only [nthT, Option.some.injEq, Prod.mk.injEq] at hn
            obtain ⟨rfl, rfl⟩ := hn
            simp [Nat.eq_of_beq_eq_true h1, hsz]
          | succ j =>
            simp only [nthT, Option.map_eq_some_iff, Prod.mk.injEq, Prod.exists] at hn
            obtain ⟨o', σ', hn, rfl, rfl⟩ := hn
            have := h7 j o' σ' hn
            rw [List.getElem?_cons_succ, this, Nat.add_assoc]
    | _ => intro l off h; cases h
  obtain ⟨ps, h1, h2⟩ := key c fs.toList 0 h
  refine ⟨ps.toArray, ?_, fun i o σ hn => by have := h2 i o σ hn; simpa using this⟩
  rw [Array.mapM_eq_mapM_toList]
  simp only [bind_pure_comp] at h1
  simp [h1]

theorem evCall_snd {q : Bool} {dst : Option Tmp} {c : Call} {ty : TypeId} {pos : String} {after : Array Edge} {guard : Option (Nat × Bool)} (hE : EnvOk P G E) (hG : G.le F0) (h : Rel P nt F0 w0 st m F a w)
    (he : evCall q E c st pk = some (v, st')) : OpTo P ⟨dst, .call c, ty, pos, after, guard⟩ a w (Post P nt F0 w0 st' a F v) := by
  obtain ⟨callee, args, argTypes⟩ := c
  unfold evCall at he
  simp only at he
  split at he
  · rename_i f
    split at he
    · rename_i Fn hf
      refine evCallF_static hE hG h hf (args := args) ?_ he
      simp only [execOp, resolve, Act.eval, Deferred.ofValue, Sem.run_bind, Sem.run_pure, Result.andThen_ok, invoke, Array.append_empty, Array.empty_append]
      exact run_callFunc (hE.funs f Fn hf).1
    · cases he
  · rename_i f hnf
    split at he
    · rename_i τ σ g hg
      refine evCallF_value hE hG h (rd_spec hE hG h hg) (args := args) ?_ he
      intro fid first caps hp hent
      simp only [execOp, resolve, hp, Deferred.ofValue, Sem.run_bind, Sem.run_pure, Result.andThen_ok, invoke]
      exact run_callFunc hent
    · cases he
  · -- len
    split at he
    · rename_i x t hx ht
      split at he
      · rename_i av hav
        obtain ⟨u, h1, rfl, h2⟩ := evLen_snd (ty := ty) hE h (rd_spec hE hG h hav) ht he
        have hargs : args.map a.eval = #[a.eval x] := by apply Array.ext'; simp [hx]
        refine OpTo.val (w' := w) (u := u) ?_ ⟨m, F, .refl F, h, h2⟩
        simp only [execOp, resolve, Sem.run_bind, Sem.run_pure, Result.andThen_ok, invoke, builtin, hargs]
        simp [h1]
      · cases he
    · cases he
  · -- append
    split at he
    · rename_i x y t t' hx ht
      split at he
      · rename_i av au hav hau
        obtain ⟨_, he⟩ := cond_none he
        obtain ⟨u, w', h1, h2⟩ := evAppend_snd (ty := ty) hE h (rd_spec hE hG h hav) (rd_spec hE hG h hau) ht he
        have hargs : args.map a.eval = #[a.eval x, a.eval y] := by apply Array.ext'; simp [hx]
        refine OpTo.val (w' := w') (u := u) ?_ h2
        simp only [execOp, resolve, Sem.run_bind, Sem.run_pure, Result.andThen_ok, invoke, builtin, hargs]
        simp [h1]
      · cases he
    · cases he
  · -- max
    split at he
    · rename_i x y hx
      split at he
      · rename_i k1 n1 k2 n2 hav hau
        obtain ⟨h1, h2⟩ := cond_some he
        simp only [decide_eq_true_eq] at h1
        subst h1
        cases h2
        have e1 := (rd_spec hE hG h hav).int
        have e2 := (rd_spec hE hG h hau).int
        have hargs : args.map a.eval = #[.int k1 n1, .int k1 n2] := by apply Array.ext'; simp [hx, e1, e2]
        refine OpTo.val (w' := w) (u := .int k1 (if (n1 : Int) < n2 then n2 else n1)) ?_ ⟨m, F, .refl F, h, .mkInt⟩
        simp only [execOp, resolve, Sem.run_bind, Sem.run_pure, Result.andThen_ok, invoke, builtin, hargs]
        rfl
      · cases he
    · cases he
  · -- min
    split at he
    · rename_i x y hx
      split at he
      · rename_i k1 n1 k2 n2 hav hau
        obtain ⟨h1, h2⟩ := cond_some he
        simp only [decide_eq_true_eq] at h1
        subst h1
        cases h2
        have e1 := (rd_spec hE hG h hav).int
        have e2 := (rd_spec hE hG h hau).int
        have hargs : args.map a.eval = #[.int k1 n1, .int k1 n2] := by apply Array.ext'; simp [hx, e1, e2]
        refine OpTo.val (w' := w) (u := .int k1 (if (n2 : Int) < n1 then n2 else n1)) ?_ ⟨m, F, .refl F, h, .mkInt⟩
        simp only [execOp, resolve, Sem.run_bind, Sem.run_pure, Result.andThen_ok, invoke, builtin, hargs]
        rfl
      · cases he
    · cases he
  · cases he

theorem evOp_snd {q : Bool} {o : Oper} (hE : EnvOk P G E) (hG : G.le F0) (h : Rel P nt F0 w0 st m F a w) (he : evOp q E o.op o.type st pk = some (v, st')) : OpTo P o a w (Post P nt F0 w0 st' a F v) := by
  obtain ⟨dst, op, ty, pos, after, guard⟩ := o
  simp only at he
  unfold evOp at he
  split at he
  · -- move
    rename_i x
    split at he
    · rename_i av hav
      cases he
      exact OpTo.val (w' := w) (u := a.eval x) rfl ⟨m, F, .refl F, h, rd_spec hE hG h hav⟩
    · cases he
  · rename_i x
    split at he
    · rename_i av hav
      cases he
      exact OpTo.val (w' := w) (u := a.eval x) rfl ⟨m, F, .refl F, h, rd_spec hE hG h hav⟩
    · cases he
  · -- pick
    rename_i c x y
    split at he
    · rename_i t hc
      have hb := (rd_spec hE hG h hc).bool
      cases ht : (show Bool from t) with
      | true =>
        have ht' : t = true := ht
        subst ht'
        simp only [cond_true] at he
        split at he
        · rename_i av hav
          obtain ⟨rfl, rfl⟩ := kAV_pk he
          refine OpTo.val (w' := w) (u := a.eval x) ?_ ⟨m, F, .refl F, h, rd_spec hE hG h hav⟩
          simp [execOp, hb, asBool]
        · cases he
      | false =>
        have ht' : t = false := ht
        subst ht'
        simp only [cond_false] at he
        split at he
        · rename_i av hav
          obtain ⟨rfl, rfl⟩ := kAV_pk he
          refine OpTo.val (w' := w) (u := a.eval y) ?_ ⟨m, F, .refl F, h, rd_spec hE hG h hav⟩
          simp [execOp, hb, asBool]
        · cases he
    · cases he
  · -- alloc
    rename_i e
    split at he
    · rename_i τ hτ
      obtain ⟨u, w', h1, h2⟩ := evAlloc_sl hE h hτ he
      exact OpTo.val (w' := w') (u := u) (by simp only [execOp]; exact run_value h1) h2
    · cases he
    · rename_i τ hns hnp hτ
      obtain ⟨u, w', h1, h2⟩ := evAlloc_alloc hE h hτ (fun a b e => hnp a b e) (fun a e => hns a e) he
      exact OpTo.val (w' := w') (u := u) (by simp only [execOp]; exact run_value h1) h2
    · cases he
  · -- box
    rename_i e x
    split at he
    · rename_i τ y hx
      obtain ⟨h1, h2⟩ := cond_some he
      cases h2
      have hr := rd_spec hE hG h hx
      obtain ⟨h3, h4⟩ := alloc_box (nv := .dat τ y) (cs := (a.eval x).cells) (el := e) h hr.1
      exact OpTo.val (by simp only [execOp]; exact run_value (run_box e _)) ⟨_, F, .refl F, h3, h4⟩
    · rename_i τ y hx
      obtain ⟨h1, h2⟩ := cond_some he
      cases h2
      have hr := rd_spec hE hG h hx
      have hr' := hr
      obtain ⟨ad, hq, _⟩ := hr
      obtain ⟨h3, h4⟩ := alloc_box (nv := .clip τ y) (cs := (a.eval x).cells) (el := e) h ⟨a.eval x, by rw [hq]; rfl, hr'⟩
      exact OpTo.val (by simp only [execOp]; exact run_value (run_box e _)) ⟨_, F, .refl F, h3, h4⟩
    · rename_i i hx
      obtain ⟨h1, h2⟩ := cond_some he
      cases h2
      simp only [Bool.and_eq_true] at h1
      have hr := rd_spec hE hG h hx
      have hr' := hr
      obtain ⟨τ, xs, fz, _, hq⟩ := hr.resolve_left (live_ne h1.2)
      have hcells : (a.eval x).cells = #[a.eval x] := by
        split at hq
        · obtain ⟨cap, _, _, hq⟩ := hq; rw [hq]; rfl
        · obtain ⟨_, ad, hq⟩ := hq; rw [hq]; rfl
      obtain ⟨h3, h4⟩ := alloc_box (nv := .ow i) (cs := (a.eval x).cells) (el := e) h ⟨a.eval x, hcells, hr'⟩
      exact OpTo.val (by simp only [execOp]; exact run_value (run_box e _)) ⟨_, F, .refl F, h3, h4⟩
    · cases he
  · -- build
    rename_i t ps
    split at he
    · rename_i τ hτ
      split at he
      · rename_i x st1 hb
        obtain ⟨hagg, he⟩ := cond_some he
        cases he
        have hty := hE.types t _ hτ
        have hsome := evBuild_some hb
        have hps := relPs_of hE hG h (θ := none) (ps := ps.toList) fun p hp => hsome (p.1, rd E st none p.2) (List.mem_map.2 ⟨p, hp, rfl⟩)
        have hmap : (ps.map fun x => (x.1, a.eval x.2)).toList = ps.toList.map fun p => (p.1, a.eval p.2) := by simp
        cases τ with
        | st c =>
          obtain ⟨fs, h1, h2, _⟩ := hty.st
          obtain ⟨i, z, g1, g2, g3, g4, g5⟩ := headB_spec (hty.head (by intro a b e; cases e))
          obtain ⟨places, hpl1, hpl2⟩ := run_places (w := w) h2
          obtain ⟨zc, rfl, hz⟩ := RepV.agg' rfl (g5 F)
          obtain ⟨F', cells', k1, k2, k3, k4⟩ := evBuild_st (place := (places[·]?)) hpl2 (cells := zc) hb h hps hz
          refine OpTo.val (w' := w) (u := .agg cells') ?_ ⟨m, F', k1, k2, k4, rfl⟩
          simp only [execOp]
          refine run_value ?_
          unfold Instr.build
          simp only [Sem.run_bind, run_zeroValue' g1 g4, Result.andThen_ok, run_underlying' h1, hpl1, hmap, Value.cells, k3, Sem.run_pure]
        | arr n c =>
          obtain ⟨e, h1, h2, _, hnp, _⟩ := hty.arr
          obtain ⟨i, z, g1, g2, g3, g4, g5⟩ := headB_spec (hty.head (by intro a b e; cases e))
          obtain ⟨ie, hie, hsz⟩ := h2.size (Ty.np_spec hnp)
          obtain ⟨zc, rfl, hz⟩ := RepV.agg' rfl (g5 F)
          obtain ⟨F', cells', k1, k2, k3, k4⟩ := evBuild_arr (cells := zc) hb h hps hz
          refine OpTo.val (w' := w) (u := .agg cells') ?_ ⟨m, F', k1, k2, k4, rfl⟩
          simp only [execOp]
          refine run_value ?_
          unfold Instr.build
          simp only [Sem.run_bind, run_zeroValue' g1 g4, Result.andThen_ok, run_underlying' h1, run_sizeOf' hie, hsz, hmap, Value.cells, k3, Sem.run_pure]
        | _ => cases hagg
      · cases he
    · cases he
  · -- buildSlice
    rename_i t n ps
    split at he
    · rename_i τ hτ
      split at he
      · rename_i xs st1 hb
        have hty := hE.types t _ hτ
        obtain ⟨e, hu, he2, hpos, hnp⟩ := hty.sl
        obtain ⟨i, z, g1, g2, g3, g4, g5⟩ := headB_spec (he2.head (Ty.np_spec hnp))
        have hsome := evBuildRow_some hb
        have hps := relPs_of hE hG h (θ := some τ) (ps := ps.toList) fun p hp => hsome (p.1, rd E st (some τ) p.2) (List.mem_map.2 ⟨p, hp, rfl⟩)
        have hmap : (ps.map fun x => (x.1, a.eval x.2)).toList = ps.toList.map fun p => (p.1, a.eval p.2) := by simp
        obtain ⟨hn24, he⟩ := cond_some he
        have hn24 : n * nc τ ≤ 16777216 := of_decide_eq_true hn24
        cases he
        have hzsz := rep_zero_size (g5 F)
        have hzrow : RepL (Rep P F τ) (List.replicate n (dflt τ)) (zrow z n).toList := by
          rw [zrow_toList]
          exact RepL.replicate (g5 F).1 n
        obtain ⟨F', cells', k1, k2, k3, k4, k5⟩ := evBuildRow_spec (cells := zrow z n) hb h hps hzrow
        rw [List.length_replicate] at k5
        have hL := RepL.length (fun x c h => Rep.length (P := P) (F := F') (x := x) h) _ _ k4
        obtain ⟨h5, h6⟩ := alloc_row (w' := { w with heap := w.heap.push (.cells cells' e) }) (cap := n) k2 (show cells'.toList = cells'.toList ++ [] by simp) k4 (by rw [← Array.length_toList, hL, k5]) (by omega) rfl rfl rfl rfl
        refine OpTo.val (w' := { w with heap := w.heap.push (.cells cells' e) }) (u := .slice (some ⟨w.heap.size, 0, none⟩) n n) ?_ ⟨_, F', k1, h5, by rw [k5] at h6; exact h6⟩
        simp only [execOp]
        refine run_value ?_
        unfold Instr.buildSlice
        have hlim : ¬ (n * i.size > 2 ^ 24) := by rw [g2]; omega
        simp only [Sem.run_bind, run_underlying' hu, Result.andThen_ok, run_sizeOf' g1, hlim, if_false, Sem.run_pure]
        have hg : n * i.size = n * z.cells.size := by rw [g2, hzsz]
        rw [← g2] at k3
        by_cases h0 : n * i.size = 0
        · rw [if_pos h0]
          have hz0 := zrow_zero (z := z) (n := n) (by rw [← hg]; exact h0)
          rw [hz0, ← hmap] at k3
          rw [h0]
          simp only [Sem.run_bind, Sem.run_pure, Result.andThen_ok, range0 (fun x => (#[] : Array Value)[x % (#[] : Array Value).size]!), k3, newRow, run_newObj]
        · rw [if_neg h0]
          have hz1 : (Array.range (n * i.size)).map (z.cells[· % z.cells.size]!) = zrow z n := by unfold zrow; rw [hg]
          rw [← hmap] at k3
          simp only [Sem.run_bind, run_zeroValue' g1 g4, Sem.run_pure, Result.andThen_ok, hz1, k3, newRow, run_newObj]
      · cases he
    · cases he
  · -- load
    rename_i t x
    split at he
    · rename_i av hav
      obtain ⟨u, h1, rfl, h2⟩ := evLoad_snd hE h (rd_spec hE hG h hav) he
      exact OpTo.val (w' := w) (u := u) (by simp only [execOp]; exact run_value h1) ⟨m, F, .refl F, h, h2⟩
    · cases he
  · -- store
    rename_i t x y
    split at he
    · rename_i av au hav hau
      obtain ⟨w', h1, h2⟩ := evStore_snd hE h (rd_spec hE hG h hav) (rd_spec hE hG h hau) he
      exact OpTo.skip (w' := w') (by simp only [execOp]; exact run_skip h1) h2
    · cases he
  · -- nilCheck
    rename_i x
    split at he
    · rename_i τ y hx
      cases he
      have hr := rd_spec hE hG h hx
      obtain ⟨d, cc, hp, _⟩ := hr.ptr
      exact OpTo.val (w' := w) (u := a.eval x) (by simp only [execOp, hp]; rfl) ⟨m, F, .refl F, h, hr⟩
    · rename_i τ σ y hx
      cases he
      have hr := rd_spec hE hG h hx
      obtain ⟨f, first, caps, hp, _⟩ := RelV.one rfl hr
      simp only [List.cons.injEq, and_true] at hp
      exact OpTo.val (w' := w) (u := a.eval x) (by simp only [execOp, hp]; rfl) ⟨m, F, .refl F, h, hr⟩
    · rename_i id p hx
      obtain ⟨hlive, he⟩ := cond_some he
      cases he
      have hr := rd_spec hE hG h hx
      have hr' := hr
      obtain ⟨b, n, o, off, _, _, hp, _⟩ := hr.resolve_left (live_ne hlive)
      exact OpTo.val (w' := w) (u := a.eval x) (by simp only [execOp, hp]; rfl) ⟨m, F, .refl F, h, hr'⟩
    · rename_i id i p hx
      obtain ⟨hlive, he⟩ := cond_some he
      cases he
      have hr := rd_spec hE hG h hx
      have hr' := hr
      obtain ⟨b, n, τ, xs, fz, off, σ, _, _, _, _, hp⟩ := hr.resolve_left (live_ne hlive)
      exact OpTo.val (w' := w) (u := a.eval x) (by simp only [execOp, hp]; rfl) ⟨m, F, .refl F, h, hr'⟩
    · cases he
  · -- binOp
    rename_i op t x y ty'
    split at he
    · rename_i av au hav hau
      obtain ⟨u, h1, rfl, h2⟩ := evBin_snd (X := x) (Y := y) (w := w) hE (rd_spec hE hG h hav) (rd_spec hE hG h hau) he
      exact OpTo.val (w' := w) (u := u) (by simp only [execOp]; exact run_value h1) ⟨m, F, .refl F, h, h2⟩
    · cases he
  · -- unOp
    rename_i op t x
    split at he
    · rename_i av hav
      obtain ⟨u, h1, rfl, h2⟩ := evUn_snd h (rd_spec hE hG h hav) he
      exact OpTo.val (w' := w) (u := u) (by simp only [execOp]; exact run_value h1) ⟨m, F, .refl F, h, h2⟩
    · cases he
  · -- convert
    rename_i s d x
    split at he
    · rename_i av hav
      obtain ⟨u, w', h1, h2⟩ := evConvert_snd hE h (rd_spec hE hG h hav) he
      exact OpTo.val (w' := w') (u := u) (by simp only [execOp]; exact run_value h1) h2
    · cases he
  · -- makeFunc
    rename_i fn first caps
    obtain ⟨u, h1, h2⟩ := evMakeFunc_snd hE hG h he
    exact OpTo.val (w' := w) (u := u) (by simp only [execOp]; exact run_value h1) h2
  · -- makeMap
    rename_i t
    split at he
    · rename_i κ σ hτ
      cases he
      have hm : (m.put st.h.length (w.heap.size, 0)) st.h.length = some (w.heap.size, 0) := by simp [MM.put]
      have hnew : ({ w with heap := w.heap.push (.map #[] 0) } : World).heap[w.heap.size]? = some (.map #[] 0) := by simp
      have hrel := h.alloc (o := .mp κ σ []) (ob := .map #[] 0) (n := 0) (w' := { w with heap := w.heap.push (.map #[] 0) }) rfl rfl rfl rfl ⟨_, _, #[], 0, hm, hnew, ⟨rfl, fun i p e hp _ => by simp at hp⟩, h.noF⟩
      refine OpTo.val (w' := { w with heap := w.heap.push (.map #[] 0) }) (u := .map (some w.heap.size)) (by simp only [execOp]; refine run_value ?_; simp [Instr.makeMap]) ⟨_, F, .refl F, hrel, .inr ⟨w.heap.size, 0, κ, σ, [], hm, by rw [atN_eq]; simp, rfl⟩⟩
    · cases he
  · -- makeSlice
    rename_i t l c
    split at he
    · rename_i τ k1 n k2 mx hτ hl hc
      obtain ⟨h1, he⟩ := cond_some he
      obtain ⟨h2, he⟩ := cond_some he
      obtain ⟨h3, he⟩ := cond_some he
      have h1 : @LE.le Int _ 0 n := of_decide_eq_true h1
      have h2 : @LE.le Int _ n mx := of_decide_eq_true h2
      have h3 : @LE.le Int _ mx (lim : Int) := of_decide_eq_true h3
      cases he
      have e1 := (rd_spec hE hG h hl).int
      have e2 := (rd_spec hE hG h hc).int
      obtain ⟨e, hu, he2, hpos, hnp⟩ := (hE.types t _ hτ).sl
      obtain ⟨i, z, g1, g2, g3, g4, g5⟩ := headB_spec (he2.head (Ty.np_spec hnp))
      have hzsz := rep_zero_size (g5 F)
      obtain ⟨n, rfl⟩ := Int.eq_ofNat_of_zero_le h1
      obtain ⟨mx, rfl⟩ := Int.eq_ofNat_of_zero_le (Int.le_trans h1 h2)
      have h2' : n ≤ mx := by omega
      have h3' : mx ≤ lim := by omega
      have hr : RepL (Rep P F τ) (List.replicate n (dflt τ)) (zrow z n).toList := by
        rw [zrow_toList]
        exact RepL.replicate (g5 F).1 n
      have hsz : (zrow z mx).size = mx * nc τ := by simp [zrow, hzsz]
      have hsplit : (zrow z mx).toList = (zrow z n).toList ++ (zrow z (mx - n)).toList := by
        rw [zrow_toList, zrow_toList, zrow_toList, ← List.flatten_append, List.replicate_append_replicate, Nat.add_sub_cancel' h2']
      obtain ⟨h5, h6⟩ := alloc_row (w' := { w with heap := w.heap.push (.cells (zrow z mx) e) }) (cap := mx) h hsplit hr hsz (by simpa using h2') rfl rfl rfl rfl
      rw [List.length_replicate] at h6
      refine OpTo.val (w' := { w with heap := w.heap.push (.cells (zrow z mx) e) }) (u := .slice (some ⟨w.heap.size, 0, none⟩) n mx) ?_ ⟨_, F, .refl F, h5, h6⟩
      simp only [execOp]
      refine run_value ?_
      rw [e1, e2]
      unfold lim at h3'
      unfold bytesMost at g3
      have w1 := IntWalk.i64_in (n : Int) (by omega)
      have w2 := IntWalk.i64_in (mx : Int) (by omega)
      have hroom : askRoom (mx * i.bytes) = pure () := by
        unfold askRoom roomBytes
        rw [if_neg]
        have := Nat.mul_le_mul h3' g3
        omega
      have hprod : ¬ ((i.bytes : Int) * (mx : Int) > 2 ^ 48) := by
        have := Nat.mul_le_mul h3' g3
        have h8 : ((mx * i.bytes : Nat) : Int) ≤ ((4294967296 * 16384 : Nat) : Int) := Int.ofNat_le.2 this
        rw [Int.natCast_mul, Int.mul_comm] at h8
        omega
      unfold Instr.makeSlice
      simp only [Sem.run_bind, run_underlying' hu, Result.andThen_ok, asInt, asIntOf, Sem.run_pure, run_typeInfo' g1, w1, w2, hprod, decide_false, Bool.or_false, show ¬ ((mx : Int) < 0) by omega, show ¬ ((n : Int) < 0) by omega, show ¬ ((n : Int) > (mx : Int)) by omega, Bool.false_eq_true, false_or, if_false, or_self, Int.toNat_natCast, hroom, run_sizeOf' g1]
      have hg : mx * i.size = mx * z.cells.size := by rw [g2, hzsz]
      by_cases h0 : mx * i.size = 0
      · rw [if_pos h0]
        have hz0 := zrow_zero (z := z) (n := mx) (by rw [← hg]; exact h0)
        rw [hz0, h0]
        simp only [Sem.run_bind, Sem.run_pure, Result.andThen_ok, range0 (fun x => (#[] : Array Value)[x % (#[] : Array Value).size]!), newRow, run_newObj]
      · rw [if_neg h0]
        have hz1 : (Array.range (mx * i.size)).map (z.cells[· % z.cells.size]!) = zrow z mx := by unfold zrow; rw [hg]
        simp only [Sem.run_bind, run_zeroValue' g1 g4, Sem.run_pure, Result.andThen_ok, hz1, newRow, run_newObj]
    · cases he
  · -- slice
    rename_i t x lo hi mx
    split at he
    · rename_i av hav
      obtain ⟨u, h1, h2⟩ := evSlice_snd hE h (rd_spec hE hG h hav) (relB_of hE hG h lo) (relB_of hE hG h hi) (relB_of hE hG h mx) he
      exact OpTo.val (w' := w) (u := u) (by simp only [execOp]; exact run_value h1) h2
    · cases he
  · -- fieldAddr
    rename_i t x f
    split at he
    · rename_i av hav
      obtain ⟨u, h1, rfl, h2⟩ := evFieldAddr_snd hE h (rd_spec hE hG h hav) he
      exact OpTo.val (w' := w) (u := u) (by simp only [execOp]; exact run_value h1) ⟨m, F, .refl F, h, h2⟩
    · cases he
  · -- field
    rename_i t x f
    split at he
    · rename_i c y hx
      obtain ⟨h1, he⟩ := cond_some he
      split at he
      · rename_i σ z hz
        obtain ⟨rfl, rfl⟩ := kAV_pk he
        obtain ⟨cs, hp, hr⟩ := (rd_spec hE hG h hx).agg rfl
        obtain ⟨o, σ', y', c', h5, h6, h7, h8⟩ := nth_rep (a := c) hz hr
        cases h6
        obtain ⟨fs, g1, g2, _⟩ := (hE.types t _ (Env.is_spec h1)).st
        obtain ⟨fd, g3, g4, g5, g6, g7, _⟩ := flds_nth g2 h5
        obtain ⟨u, k1, k2⟩ := run_part' (w := w) g5 (Ty.np_spec g7) h7 (cs := cs) (o := o) h8
        refine OpTo.val (w' := w) (u := u) ?_ ⟨m, F, .refl F, h, k2⟩
        simp only [execOp]
        refine run_value ?_
        unfold Instr.field
        have g3' : fs[f]? = some fd := by rw [← Array.getElem?_toList]; exact g3
        simp only [Sem.run_bind, run_underlying' g1, Result.andThen_ok, g3', hp, asAgg, Sem.run_pure, g4, Nat.zero_add]
        exact k1
      · cases he
    · cases he
  · -- indexAddr
    rename_i t x i
    split at he
    · rename_i av au hav hau
      obtain ⟨u, h1, rfl, h2⟩ := evIndexAddr_snd hE h (rd_spec hE hG h hav) (rd_spec hE hG h hau) he
      exact OpTo.val (w' := w) (u := u) (by simp only [execOp]; exact run_value h1) ⟨m, F, .refl F, h, h2⟩
    · cases he
  · -- index
    rename_i t x i
    split at he
    · rename_i av au hav hau
      obtain ⟨u, h1, rfl, h2⟩ := evIndex_snd (w := w) hE (rd_spec hE hG h hav) (rd_spec hE hG h hau) he
      exact OpTo.val (w' := w) (u := u) (by simp only [execOp]; exact run_value h1) ⟨m, F, .refl F, h, h2⟩
    · cases he
  · -- lookup
    rename_i t x i ok
    split at he
    · rename_i av au hav hau
      obtain ⟨u, h1, rfl, h2⟩ := evLookup_snd hE h (rd_spec hE hG h hav) (rd_spec hE hG h hau) he
      exact OpTo.val (w' := w) (u := u) (by simp only [execOp]; exact run_value h1) ⟨m, F, .refl F, h, h2⟩
    · cases he
  · -- mapUpdate
    rename_i t x i y
    split at he
    · rename_i av au ay hav hau hay
      obtain ⟨w', h1, h2⟩ := evMapUpdate_snd hE h (rd_spec hE hG h hav) (rd_spec hE hG h hau) (rd_spec hE hG h hay) he
      exact OpTo.skip (w' := w') (by simp only [execOp]; exact run_skip h1) h2
    · cases he
  · -- extract
    rename_i t i
    split at he
    · rename_i vs ht
      split at he
      · rename_i av hav
        obtain ⟨rfl, rfl⟩ := kAV_pk he
        obtain ⟨arr, hp, hsz, hget⟩ := rd_spec hE hG h ht
        rw [atN_eq] at hav
        obtain ⟨x, hx, hr⟩ := hget i v hav
        refine OpTo.val (w' := w) (u := x) ?_ ⟨m, F, .refl F, h, RelV.of1 hr⟩
        simp only [execOp, hp]
        refine run_value ?_
        unfold Instr.extract
        simp [hx]
      · cases he
    · cases he
  · exact evCall_snd hE hG h he
  · cases he

end
end Go.Ev

/-! What an operation comes to hangs on no other slot than its operands'. -/
namespace Go.Ev
set_option linter.unusedSimpArgs false
set_option linter.unusedVariables false

/-- The same heap under other slots. -/
def sw (fr : List (Nat × AV)) (st : St) : St := ⟨fr, st.h⟩
@[simp] theorem sw_h (fr : List (Nat × AV)) (st : St) : (sw fr st).h = st.h := rfl
@[simp] theorem sw_fr (fr : List (Nat × AV)) (st : St) : (sw fr st).fr = fr := rfl
@[simp] theorem sw_mk (fr f : List (Nat × AV)) (h : List Obj) : sw fr ⟨f, h⟩ = ⟨fr, h⟩ := rfl

section
variable {R : Type} {k : AV → St → Option R} {st : St} {E : Env} {fr : List (Nat × AV)}

theorem frz_sw (q : Bool) (v : AV) : frz q (sw fr st) v = (frz q st v).map fun r => ⟨r.1, r.2.1, sw fr r.2.2⟩ := by
  unfold frz
  simp only [sw_h]
  (repeat' split) <;> first | rfl | (cases q <;> rfl)
theorem frzAs_sw (q : Bool) (σ : Ty) (v : AV) : frzAs q σ (sw fr st) v = (frzAs q σ st v).map fun r => (r.1, sw fr r.2) := by
  unfold frzAs
  rw [frz_sw]
  cases frz q st v with
  | none => rfl
  | some r => simp only [Option.map_some]; cases castI r.1 σ r.2.1 <;> rfl
theorem packAs_sw (q : Bool) : ∀ (τ : Ty) (vs : List AV) (st : St), packAs q τ vs (sw fr st) = (packAs q τ vs st).map fun r => (r.1, sw fr r.2) := by
  intro τ
  induction τ with
  | unit => intro vs st; cases vs <;> rfl
  | pair a b _ ih =>
    intro vs st
    cases vs with
    | nil => rfl
    | cons v vs =>
      simp only [packAs, frzAs_sw]
      cases frzAs q a st v with
      | none => rfl
      | some r =>
        simp only [Option.map_some, ih]
        cases packAs q b vs r.2 <;> rfl
  | _ => intro vs st; cases vs <;> rfl
theorem chain_sw (q : Bool) : ∀ (vs : List AV) (st : St), chain q vs (sw fr st) = (chain q vs st).map fun r => ⟨r.1, r.2.1, sw fr r.2.2⟩
  | [], st => rfl
  | v :: vs, st => by
    simp only [chain, frz_sw]
    cases frz q st v with
    | none => rfl
    | some r =>
      simp only [Option.map_some, chain_sw q vs]
      cases chain q vs r.2.2 <;> rfl
theorem evBuild_sw (q : Bool) (τ : Ty) : ∀ (ps : List (Nat × Option AV)) (x : τ.I) (st : St), evBuild q τ x ps (sw fr st) = (evBuild q τ x ps st).map fun r => (r.1, sw fr r.2)
  | [], x, st => by cases τ <;> rfl
  | (i, none) :: ps, x, st => by cases τ <;> rfl
  | (i, some v) :: ps, x, st => by
    simp only [evBuild, frz_sw]
    cases frz q st v with
    | none => rfl
    | some r =>
      simp only [Option.map_some]
      split
      · rename_i x' hx'
        simp only [hx']
        exact evBuild_sw q τ ps _ _
      · rename_i hx'
        simp only [hx']
        rfl
theorem evBuildRow_sw (q : Bool) (τ : Ty) : ∀ (ps : List (Nat × Option AV)) (x : List τ.I) (st : St), evBuildRow q τ x ps (sw fr st) = (evBuildRow q τ x ps st).map fun r => (r.1, sw fr r.2)
  | [], x, st => rfl
  | (i, none) :: ps, x, st => rfl
  | (i, some v) :: ps, x, st => by
    simp only [evBuildRow, frzAs_sw]
    cases frzAs q τ st v with
    | none => rfl
    | some r =>
      simp only [Option.map_some, evBuildRow_sw q τ ps]
      cases decide (i < x.length) <;> rfl

theorem kB_sw (b : Bool) : kB b (sw fr st) k = kB b st fun v s => k v (sw fr s) := rfl
theorem kAV_sw (v : AV) : kAV v (sw fr st) k = kAV v st fun v s => k v (sw fr s) := by
  unfold kAV
  split <;> rfl
theorem evBin_sw (op : BinOp) (t : TypeId) (x y : AV) : evBin E op t x y (sw fr st) k = evBin E op t x y st fun v s => k v (sw fr s) := rfl
theorem evUn_sw (op : UnOp) (x : AV) : evUn op x (sw fr st) k = evUn op x st fun v s => k v (sw fr s) := rfl
theorem evLoad_sw (t : TypeId) (a : AV) : evLoad E t a (sw fr st) k = evLoad E t a st fun v s => k v (sw fr s) := by
  unfold evLoad
  simp only [sw_h, kAV_sw]
theorem evStore_sw (t : TypeId) (a v : AV) : evStore E t a v (sw fr st) k = evStore E t a v st fun v s => k v (sw fr s) := by
  unfold evStore
  simp only [sw_h, frz_sw]
  cases frz false st v <;> rfl
theorem evIndexAddr_sw (t : TypeId) (x i : AV) : evIndexAddr E t x i (sw fr st) k = evIndexAddr E t x i st fun v s => k v (sw fr s) := rfl
theorem evIndex_sw (t : TypeId) (x i : AV) : evIndex E t x i (sw fr st) k = evIndex E t x i st fun v s => k v (sw fr s) := by
  unfold evIndex
  simp only [kAV_sw]
theorem evMakeFunc_sw (q : Bool) (ty : TypeId) (fn : Fn) (first caps : List (Option AV)) : evMakeFunc q E ty fn first caps (sw fr st) k = evMakeFunc q E ty fn first caps st fun v s => k v (sw fr s) := by
  unfold evMakeFunc
  simp only [chain_sw]
  split <;> try rfl
  cases look E.funs _ <;> try rfl
  cases chain q (first.filterMap id) st with
  | none => rfl
  | some r =>
    simp only [Option.map_some, chain_sw]
    cases chain q (caps.filterMap id) r.2.2 <;> rfl
theorem evAppendRow_sw (σ : Ty) (x : AV) (ys : List σ.I) : evAppendRow σ x ys (sw fr st) k = evAppendRow σ x ys st fun v s => k v (sw fr s) := rfl
theorem evAppend_sw (t u : TypeId) (x y : AV) : evAppend E t u x y (sw fr st) k = evAppend E t u x y st fun v s => k v (sw fr s) := by
  unfold evAppend
  rw [frz_sw]
  cases frz false st y with
  | none => rfl
  | some r =>
    obtain ⟨τ, x', s⟩ := r
    cases τ <;> first | rfl | (simp only [Option.map_some, evAppendRow_sw])
theorem evSlice_sw (q : Bool) (t : TypeId) (x : AV) (lo hi mx : Option (Option AV)) : evSlice q E t x lo hi mx (sw fr st) k = evSlice q E t x lo hi mx st fun v s => k v (sw fr s) := by
  unfold evSlice
  rw [frz_sw]
  cases frz q st x with
  | none => rfl
  | some r =>
    obtain ⟨τ, x', s⟩ := r
    cases τ <;> rfl
theorem evLen_sw (t : TypeId) (x : AV) : evLen E t x (sw fr st) k = evLen E t x st fun v s => k v (sw fr s) := rfl
theorem evLookup_sw (t : TypeId) (m i : AV) (ok : Bool) : evLookup E t m i ok (sw fr st) k = evLookup E t m i ok st fun v s => k v (sw fr s) := by
  unfold evLookup
  simp only [sw_h, kAV_sw]
theorem evMapUpdate_sw (t : TypeId) (m i v : AV) : evMapUpdate E t m i v (sw fr st) k = evMapUpdate E t m i v st fun v s => k v (sw fr s) := rfl
theorem evCallF_sw (q : Bool) (a r : Ty) (md : Nat) (g : a.I → Option r.I) (args : List (Option AV)) : evCallF q a r md g args (sw fr st) k = evCallF q a r md g args st fun v s => k v (sw fr s) := by
  unfold evCallF
  rw [packAs_sw]
  cases packAs q a (args.filterMap id) st with
  | none => rfl
  | some p =>
    simp only [Option.map_some, sw_h, sw_fr]
    congr 2
theorem evConvert_sw (q : Bool) (s d : TypeId) (x : AV) : evConvert q E s d x (sw fr st) k = evConvert q E s d x st fun v s => k v (sw fr s) := rfl
theorem evFieldAddr_sw (t : TypeId) (x : AV) (f : Nat) : evFieldAddr E t x f (sw fr st) k = evFieldAddr E t x f st fun v s => k v (sw fr s) := rfl

theorem evAlloc_sw (v : AV) : evAlloc v (sw fr st) k = evAlloc v st fun v s => k v (sw fr s) := rfl
theorem rd_sw {θ : Option Ty} {x : Operand} (h : ∀ t, x = .tmp t → look fr t = look st.fr t) : rd E (sw fr st) θ x = rd E st θ x := by
  cases x with
  | tmp t => unfold rd; simp only [sw_fr, h t rfl]
  | _ => rfl
theorem evCall_sw (q : Bool) (c : Call) (h : ∀ x ∈ c.operands, ∀ t, x = .tmp t → look fr t = look st.fr t) : evCall q E c (sw fr st) k = evCall q E c st fun v s => k v (sw fr s) := by
  have hargs : ∀ θ, ∀ x ∈ c.args.toList, rd E (sw fr st) θ x = rd E st θ x := fun θ x hx => rd_sw fun t ht => h x (by simp only [Call.operands]; cases c.callee <;> simp [Array.mem_def.2 hx]) t ht
  have hmap : c.args.toList.map (rd E (sw fr st) none) = c.args.toList.map (rd E st none) := List.map_congr_left fun x hx => hargs none x hx
  unfold evCall
  split
  · split
    · rw [hmap, evCallF_sw]
    · rfl
  · rename_i f _ hc
    rw [rd_sw (x := f) (θ := none) fun t ht => h f (by simp [Call.operands, hc]) t ht, hmap]
    split
    · rw [evCallF_sw]
    · rfl
  · split
    · rename_i x t hx ht
      rw [hargs none x (by rw [hx]; simp)]
      split
      · rw [evLen_sw]
      · rfl
    · rfl
  · split
    · rename_i x y t u hx ht
      rw [hargs _ x (by rw [hx]; simp), hargs _ y (by rw [hx]; simp)]
      split
      · rw [evAppend_sw]
      · rfl
    · rfl
  · split
    · rename_i x y hx
      rw [hargs _ x (by rw [hx]; simp), hargs _ y (by rw [hx]; simp)]
    · rfl
  · split
    · rename_i x y hx
      rw [hargs _ x (by rw [hx]; simp), hargs _ y (by rw [hx]; simp)]
    · rfl
  · rfl

theorem evOp_sw (q : Bool) (op : Op) (ty : TypeId) (h : ∀ x ∈ op.operands, ∀ t, x = .tmp t → look fr t = look st.fr t) : evOp q E op ty (sw fr st) k = evOp q E op ty st fun v s => k v (sw fr s) := by
  have hr : ∀ θ, ∀ x ∈ op.operands, rd E (sw fr st) θ x = rd E st θ x := fun θ x hx => rd_sw (h x hx)
  have hps : ∀ θ (ps : Array (Nat × Operand)), (∀ p ∈ ps.toList, p.2 ∈ op.operands) → ps.toList.map (fun p => (p.1, rd E (sw fr st) θ p.2)) = ps.toList.map (fun p => (p.1, rd E st θ p.2)) := fun θ ps hp =>
    List.map_congr_left fun p hm => by rw [hr θ p.2 (hp p hm)]
  have hm : ∀ (xs : Array Operand), (∀ x ∈ xs.toList, x ∈ op.operands) → xs.toList.map (rd E (sw fr st) none) = xs.toList.map (rd E st none) := fun xs hx => List.map_congr_left fun x hm => hr none x (hx x hm)
  have ho : ∀ (x : Option Operand), (∀ y, x = some y → y ∈ op.operands) → x.map (rd E (sw fr st) none) = x.map (rd E st none) := fun x hx => by
    cases x with
    | none => rfl
    | some y => simp only [Option.map_some, hr none y (hx y rfl)]
  cases op <;> simp only [evOp]
  all_goals try rfl
  all_goals try (simp only [Op.operands, List.mem_toArray, List.mem_cons, List.not_mem_nil, or_false, forall_eq_or_imp, forall_eq] at hr)
  case move => simp only [hr]
  case assign => simp only [hr]
  case pick => simp only [hr, kAV_sw]
  case box => simp only [hr, evAlloc_sw, sw_h]
  case build t ps =>
    rw [hps none ps fun p hp => by simpa [Op.operands] using ⟨p.1, by simpa using hp⟩]
    split
    · rw [evBuild_sw]
      cases evBuild q _ _ _ st <;> rfl
    · rfl
  case buildSlice t n ps =>
    split
    · rename_i τ _
      rw [hps (some τ) ps fun p hp => by simpa [Op.operands] using ⟨p.1, by simpa using hp⟩, evBuildRow_sw]
      cases evBuildRow q _ _ _ st <;> rfl
    · rfl
  case load => simp only [hr, evLoad_sw]
  case store => simp only [hr, evStore_sw]
  case nilCheck => simp only [hr, sw_h]
  case binOp => simp only [hr, evBin_sw]
  case unOp => simp only [hr, evUn_sw]
  case convert => simp only [hr, evConvert_sw]
  case makeFunc fn first caps =>
    rw [hm first fun x hx => by simp [Op.operands, Array.mem_def.2 hx], hm caps fun x hx => by simp [Op.operands, Array.mem_def.2 hx], evMakeFunc_sw]
  case makeMap t r => cases r <;> rfl
  case makeSlice => simp only [hr, sw_h, sw_fr, sw_mk]
  case slice t x lo hi mx =>
    rw [hr none x (by simp [Op.operands]), ho lo (fun y hy => by simp [Op.operands, hy]), ho hi (fun y hy => by simp [Op.operands, hy]), ho mx (fun y hy => by simp [Op.operands, hy])]
    simp only [evSlice_sw]
  case fieldAddr => simp only [hr, evFieldAddr_sw]
  case field => simp only [hr, kAV_sw]
  case indexAddr => simp only [hr, evIndexAddr_sw]
  case index => simp only [hr, evIndex_sw]
  case lookup => simp only [hr, evLookup_sw]
  case mapUpdate => simp only [hr, evMapUpdate_sw]
  case extract => simp only [hr, kAV_sw]
  case call c => exact evCall_sw q c h

theorem mem_tmpsOf {o : Oper} {t : Nat} : t ∈ tmpsOf o ↔ .tmp t ∈ o.op.operands := by
  unfold tmpsOf
  rw [List.mem_filterMap]
  constructor
  · rintro ⟨x, hx, h⟩
    cases x <;> simp at h
    subst h
    simpa using hx
  · intro h
    exact ⟨.tmp t, by simpa using h, rfl⟩

/-- Slots stay as they are. -/
theorem evOp_frame {q : Bool} {op : Op} {ty : TypeId} {v : AV} {st' : St} (h : evOp q E op ty st pk = some (v, st')) : st'.fr = st.fr := by
  have h1 := evOp_sw (k := pk) (st := st) (E := E) (fr := st.fr) q op ty (fun _ _ _ _ => rfl)
  rw [show sw st.fr st = st from rfl, evOp_nat (k := fun v s => pk v (sw st.fr s)), h] at h1
  simp only [Option.bind_some, Option.some.injEq, Prod.mk.injEq] at h1
  rw [h1.2]; rfl

/-- Under other slots it comes to the same. -/
theorem evOp_swk {q : Bool} {op : Op} {ty : TypeId} {v : AV} {st' : St} (h : evOp q E op ty st pk = some (v, st')) (ha : ∀ t, .tmp t ∈ op.operands → look fr t = look st.fr t) : evOp q E op ty (sw fr st) pk = some (v, sw fr st') := by
  rw [evOp_sw q op ty (fun x hx t ht => ha t (ht ▸ hx)), evOp_nat, h]
  rfl
end
end Go.Ev

/-! Objects under other names. -/
namespace Go.Ev
open Go.RowKit
set_option linter.unusedSimpArgs false
set_option linter.unusedVariables false

def AV.rn (ρ : Nat → Nat) : AV → AV
  | .bp id p => .bp (ρ id) p
  | .rp id i p => .rp (ρ id) i p
  | .ow id => .ow (ρ id)
  | .om id => .om (ρ id)
  | v => v
def Obj.rn (ρ : Nat → Nat) : Obj → Obj
  | .bx v f => .bx (v.rn ρ) f
  | o => o
theorem AV.sh_rn (n : Nat) (v : AV) : v.sh n = v.rn (n + ·) := by cases v <;> rfl
theorem AV.ren_rn (l : List Nat) (v : AV) : v.ren l = v.rn (idxOf l) := by cases v <;> rfl
theorem Obj.sh_rn (n : Nat) (o : Obj) : o.sh n = o.rn (n + ·) := by cases o <;> simp only [Obj.sh, Obj.rn, AV.sh_rn]
theorem Obj.ren_rn (l : List Nat) (o : Obj) : o.ren l = o.rn (idxOf l) := by cases o <;> simp only [Obj.ren, Obj.rn, AV.ren_rn]

section
variable {P : Program} {h h2 : List Obj} {m m2 : MM} {F : FH} {ρ : Nat → Nat} {v : AV} {u : Value}

theorem RelV1.rn (hr : ∀ i, v.has i = true → ∀ o, atN h i = some o → atN h2 (ρ i) = some (o.rn ρ) ∧ m2 (ρ i) = m i) (hv : RelV1 P h m F v u) : RelV1 P h2 m2 F (v.rn ρ) u := by
  cases v with
  | dat τ x => exact hv
  | clip τ xs => exact hv
  | bp id p =>
    have hi := hr id (Nat.beq_refl _)
    rcases hv with hg | ⟨b, n, o, off, h1, ho, h3, h4⟩
    · exact .inl (hi _ hg).1
    · obtain ⟨e1, e2⟩ := hi _ ho
      refine .inr ⟨b, n, o.rn ρ, off, by rw [e2]; exact h1, e1, h3, ?_⟩
      cases o with
      | bx v f => cases v <;> exact h4
      | _ => exact h4.elim
  | rp id i p =>
    have hi := hr id (Nat.beq_refl _)
    rcases hv with hg | ⟨b, n, τ, xs, fz, off, σ, h1, ho, h3, h4, h5⟩
    · exact .inl (hi _ hg).1
    · obtain ⟨e1, e2⟩ := hi _ ho
      exact .inr ⟨b, n, τ, xs, fz, off, σ, by rw [e2]; exact h1, e1, h3, h4, h5⟩
  | ow id =>
    have hi := hr id (Nat.beq_refl _)
    rcases hv with hg | ⟨τ, xs, fz, ho, h3⟩
    · exact .inl (hi _ hg).1
    · obtain ⟨e1, e2⟩ := hi _ ho
      exact .inr ⟨τ, xs, fz, e1, by rw [e2]; exact h3⟩
  | om id =>
    have hi := hr id (Nat.beq_refl _)
    rcases hv with hg | ⟨b, n, κ, σ, es, h1, ho, h3⟩
    · exact .inl (hi _ hg).1
    · obtain ⟨e1, e2⟩ := hi _ ho
      exact .inr ⟨b, n, κ, σ, es, by rw [e2]; exact h1, e1, h3⟩
  | tup vs => exact hv.elim
  | dead => trivial

theorem RelO.rn {w : World} {i j : Nat} {o : Obj} (hr : ∀ v f, o = .bx v f → ∀ i, v.has i = true → ∀ o, atN h i = some o → atN h2 (ρ i) = some (o.rn ρ) ∧ m2 (ρ i) = m i) (hij : m2 j = m i) (ho : RelO P h m F w i o) : RelO P h2 m2 F w j (o.rn ρ) := by
  cases o with
  | bx v fz =>
    obtain ⟨b, n, el, fr, cs, h1, h2', h3, h4⟩ := ho
    refine ⟨b, n, el, fr, cs, by rw [hij]; exact h1, h2', ?_, h4⟩
    have hr' := hr v fz rfl
    cases v with
    | dat τ x => exact h3
    | clip τ xs => obtain ⟨u, e, hu⟩ := h3; exact ⟨u, e, hu⟩
    | ow id => obtain ⟨u, e, hu⟩ := h3; exact ⟨u, e, RelV1.rn hr' hu⟩
    | om id => obtain ⟨u, e, hu⟩ := h3; exact ⟨u, e, RelV1.rn hr' hu⟩
    | dead => exact h3
    | _ => exact h3.elim
  | row τ xs fz =>
    simp only [RelO, Obj.rn] at ho ⊢
    rw [hij]; exact ho
  | mp κ σ es =>
    obtain ⟨b, n, ents, clock, h1, h2', h3, h4⟩ := ho
    exact ⟨b, n, ents, clock, by rw [hij]; exact h1, h2', h3, h4⟩
  | gone => trivial

/-- What is told of a value that leads nowhere holds under any heap. -/
theorem RelV1.pure (hp : v.pure1 = true) (hv : RelV1 P h m F v u) : RelV1 P h2 m2 F v u := by
  cases v <;> first | exact hv | cases hp
theorem RelV.pure (hp : v.pure = true) (hv : RelV P h m F v u) : RelV P h2 m2 F v u := by
  cases v with
  | tup vs =>
    obtain ⟨arr, e, h1, h3⟩ := hv
    refine ⟨arr, e, h1, fun i x hx => ?_⟩
    obtain ⟨y, hy, hxy⟩ := h3 i x hx
    refine ⟨y, hy, hxy.pure ?_⟩
    simp only [AV.pure, List.all_eq_true] at hp
    exact hp x (List.mem_of_getElem? hx)
  | _ => first | exact hv | (cases hp)

end

section
variable {P : Program} {nt : Nat} {F0 F F' : FH} {w0 w w' : World} {st : St} {m m' : MM} {a : Act} {fr fr' : List (Nat × AV)} {H h' : List Obj}

/-- The slots that lead nowhere, as the start of something. -/
theorem Rel.start (h : Rel P nt F0 w0 st m F a w) (hf : ∀ t v, look fr' t = some v → v.pure = true ∧ RelV P st.h m F v (a.tmps.getD t undef)) : Rel P nt F w ⟨fr', []⟩ (fun _ => none) F a w :=
  ⟨h.nt, fun t v ht => (hf t v ht).2.pure (hf t v ht).1, fun i o ho => (by simp [atN] at ho), fun _ _ _ _ _ h => (nomatch h), fun _ _ _ h => (nomatch h), h.fok, ⟨.refl F, fun _ _ => rfl⟩, ⟨rfl, rfl, rfl, Nat.le_refl _, fun _ _ => rfl⟩, h.dfr⟩

/-- Objects of two makings, side by side. -/
def MM.cat (m : MM) (n : Nat) (m' : MM) : MM := fun i => if i < n then m i else m' (i - n)

theorem Rel.cat (h : Rel P nt F0 w0 ⟨fr, H⟩ m F a w) (h2 : Rel P nt F w ⟨fr', h'⟩ m' F' a w') (hle : F.le F') : Rel P nt F0 w0 ⟨fr, H ++ h'.map (Obj.sh H.length)⟩ (m.cat H.length m') F' a w' := by
  have h1 := h.step (F' := F') h2.bel h2.gro h2.fok
  have hlt : ∀ {j u}, atN H j = some u → j < H.length := fun {j u} hu => by rw [atN_eq] at hu; exact (List.getElem?_eq_some_iff.1 hu).1
  have hm : ∀ j u, atN H j = some u → (m.cat H.length m') j = m j := fun j u hu => by unfold MM.cat; rw [if_pos (hlt hu)]
  have hh : HLe H (H ++ h'.map (Obj.sh H.length)) := HLe.append _ _
  have hR : ∀ i o, atN h' i = some o → atN (H ++ h'.map (Obj.sh H.length)) (H.length + i) = some (o.rn (H.length + ·)) ∧ (m.cat H.length m') (H.length + i) = m' i := fun i o ho => by
    refine ⟨?_, ?_⟩
    · rw [atN_eq, List.getElem?_append_right (by omega), Nat.add_sub_cancel_left, List.getElem?_map, ← atN_eq, ho, Option.map_some, Obj.sh_rn]
    · unfold MM.cat; rw [if_neg (by omega), Nat.add_sub_cancel_left]
  refine ⟨h.nt, fun t v ht => (h1.fr t v ht).mono hh hm (.refl F'), fun j u hu => ?_, fun i j b n n' hi hj => ?_, fun j b n hj => ?_, h2.fok, h1.gro, h1.bel, h.dfr⟩
  · by_cases hj : j < H.length
    · have hu' : atN H j = some u := by rw [atN_eq, List.getElem?_append_left hj, ← atN_eq] at hu; exact hu
      exact (h1.obs j u hu').mono hh hm (.refl F') hu' (fun _ _ _ => rfl) (fun _ _ _ hn => hn)
    · obtain ⟨i, rfl⟩ : ∃ i, j = H.length + i := ⟨j - H.length, by omega⟩
      rw [atN_eq, List.getElem?_append_right (by omega), Nat.add_sub_cancel_left, List.getElem?_map, ← atN_eq] at hu
      obtain ⟨o, ho, rfl⟩ := Option.map_eq_some_iff.1 hu
      rw [Obj.sh_rn]
      exact (h2.obs i o ho).rn (fun _ _ _ i _ o' ho' => hR i o' ho') (hR i o ho).2
  · unfold MM.cat at hi hj
    by_cases e1 : i < H.length <;> by_cases e2 : j < H.length
    · rw [if_pos e1] at hi; rw [if_pos e2] at hj; exact h.inj _ _ _ _ _ hi hj
    · rw [if_pos e1] at hi; rw [if_neg e2] at hj
      have := h.rng _ _ _ hi; have := h2.rng _ _ _ hj; omega
    · rw [if_neg e1] at hi; rw [if_pos e2] at hj
      have := h.rng _ _ _ hj; have := h2.rng _ _ _ hi; omega
    · rw [if_neg e1] at hi; rw [if_neg e2] at hj
      have := h2.inj _ _ _ _ _ hi hj; omega
  · unfold MM.cat at hj
    have hs := h.bel.size
    simp only [List.length_append, List.length_map]
    by_cases e : j < H.length
    · rw [if_pos e] at hj
      have := h1.rng _ _ _ hj
      simp only at this
      omega
    · rw [if_neg e] at hj
      have := h2.rng _ _ _ hj
      simp only at this
      omega

theorem RelV.cat {v : AV} {u : Value} (hv : RelV P h' m' F' v u) : RelV P (H ++ h'.map (Obj.sh H.length)) (m.cat H.length m') F' (v.shT H.length) u := by
  have hR : ∀ i o, atN h' i = some o → atN (H ++ h'.map (Obj.sh H.length)) (H.length + i) = some (o.rn (H.length + ·)) ∧ (m.cat H.length m') (H.length + i) = m' i := fun i o ho => by
    refine ⟨?_, ?_⟩
    · rw [atN_eq, List.getElem?_append_right (by omega), Nat.add_sub_cancel_left, List.getElem?_map, ← atN_eq, ho, Option.map_some, Obj.sh_rn]
    · unfold MM.cat; rw [if_neg (by omega), Nat.add_sub_cancel_left]
  cases v with
  | tup vs =>
    obtain ⟨arr, e, h1, h3⟩ := hv
    refine ⟨arr, e, by simpa using h1, fun i x hx => ?_⟩
    rw [List.getElem?_map] at hx
    obtain ⟨y, hy, rfl⟩ := Option.map_eq_some_iff.1 hx
    obtain ⟨z, hz, hyz⟩ := h3 i y hy
    refine ⟨z, hz, ?_⟩
    rw [AV.sh_rn]
    exact hyz.rn fun i _ o ho => hR i o ho
  | _ =>
    rw [RelV.eq1 (by intro vs e; cases e)] at hv
    refine RelV.of1 ?_
    simp only [AV.shT]
    rw [AV.sh_rn]
    exact hv.rn fun i _ o ho => hR i o ho
end
end Go.Ev

/-! Operations that only look. -/
namespace Go.Ev
open Go.RowKit
set_option linter.unusedSimpArgs false
set_option linter.unusedVariables false

section
variable {P : Program} {nt : Nat} {F0 F G : FH} {w0 w : World} {st st' : St} {m : MM} {a : Act} {E : Env} {v : AV} {u : Value}

theorem evCall_len {R : Type} {q : Bool} {args : Array Operand} {ts : Array TypeId} {k : AV → St → Option R} : evCall q E ⟨.builtin .len, args, ts⟩ st k = match args.toList, ts.toList with | [x], [t] => (match rd E st none x with | some v => evLen E t v st k | none => none) | _, _ => none := rfl

theorem evOp_still {q : Bool} {o : Oper} (hE : EnvOk P G E) (hG : G.le F0) (h : Rel P nt F0 w0 st m F a w) (hs : stillOp o.op = true) (he : evOp q E o.op o.type st pk = some (v, st')) :
    st' = st ∧ ∃ u, (execOp a.eval o).run P w = .ok (.value u) w ∧ RelV P st.h m F v u := by
  obtain ⟨dst, op, ty, pos, after, guard⟩ := o
  simp only at he hs
  cases op <;> (try (simp only [stillOp] at hs; cases hs; done)) <;> simp only [evOp] at he
  case load t x =>
    split at he
    · rename_i av hav
      obtain ⟨u, h1, rfl, h2⟩ := evLoad_snd hE h (rd_spec hE hG h hav) he
      exact ⟨rfl, u, by simp only [execOp]; exact run_value h1, h2⟩
    · cases he
  case nilCheck x =>
    split at he
    · rename_i τ y hx
      cases he
      have hr := rd_spec hE hG h hx
      obtain ⟨d, cc, hp, _⟩ := hr.ptr
      exact ⟨rfl, a.eval x, by simp only [execOp, hp]; rfl, hr⟩
    · rename_i τ σ y hx
      cases he
      have hr := rd_spec hE hG h hx
      obtain ⟨f, first, caps, hp, _⟩ := RelV.one rfl hr
      simp only [List.cons.injEq, and_true] at hp
      exact ⟨rfl, a.eval x, by simp only [execOp, hp]; rfl, hr⟩
    · rename_i id p hx
      obtain ⟨hlive, he⟩ := cond_some he
      cases he
      have hr := rd_spec hE hG h hx
      have hr' := hr
      obtain ⟨b, n, o, off, _, _, hp, _⟩ := hr.resolve_left (live_ne hlive)
      exact ⟨rfl, a.eval x, by simp only [execOp, hp]; rfl, hr'⟩
    · rename_i id i p hx
      obtain ⟨hlive, he⟩ := cond_some he
      cases he
      have hr := rd_spec hE hG h hx
      have hr' := hr
      obtain ⟨b, n, τ, xs, fz, off, σ, _, _, _, _, hp⟩ := hr.resolve_left (live_ne hlive)
      exact ⟨rfl, a.eval x, by simp only [execOp, hp]; rfl, hr'⟩
    · cases he
  case binOp op t x y ty' =>
    split at he
    · rename_i av au hav hau
      obtain ⟨u, h1, rfl, h2⟩ := evBin_snd (X := x) (Y := y) (w := w) hE (rd_spec hE hG h hav) (rd_spec hE hG h hau) he
      exact ⟨rfl, u, by simp only [execOp]; exact run_value h1, h2⟩
    · cases he
  case fieldAddr t x f =>
    split at he
    · rename_i av hav
      obtain ⟨u, h1, rfl, h2⟩ := evFieldAddr_snd hE h (rd_spec hE hG h hav) he
      exact ⟨rfl, u, by simp only [execOp]; exact run_value h1, h2⟩
    · cases he
  case indexAddr t x i =>
    split at he
    · rename_i av au hav hau
      obtain ⟨u, h1, rfl, h2⟩ := evIndexAddr_snd hE h (rd_spec hE hG h hav) (rd_spec hE hG h hau) he
      exact ⟨rfl, u, by simp only [execOp]; exact run_value h1, h2⟩
    · cases he
  case lookup t x i ok =>
    split at he
    · rename_i av au hav hau
      obtain ⟨u, h1, rfl, h2⟩ := evLookup_snd hE h (rd_spec hE hG h hav) (rd_spec hE hG h hau) he
      exact ⟨rfl, u, by simp only [execOp]; exact run_value h1, h2⟩
    · cases he
  case call c =>
    obtain ⟨callee, args, argTypes⟩ := c
    simp only [stillOp] at hs
    split at hs
    · rw [evCall_len] at he
      split at he
      · rename_i x t hx ht
        split at he
        · rename_i av hav
          obtain ⟨u, h1, rfl, h2⟩ := evLen_snd (ty := ty) hE h (rd_spec hE hG h hav) ht he
          have hargs : args.map a.eval = #[a.eval x] := by apply Array.ext'; simp [hx]
          refine ⟨rfl, u, ?_, h2⟩
          simp only [execOp, resolve, Sem.run_bind, Sem.run_pure, Result.andThen_ok, invoke, builtin, hargs]
          simp [h1]
        · cases he
      · cases he
    · cases hs

/-! ### With more objects behind -/
theorem atN_app {α : Type} {h k : List α} {i : Nat} {o : α} (ho : atN h i = some o) : atN (h ++ k) i = some o := by
  rw [atN_eq] at ho ⊢
  rw [List.getElem?_append_left (List.getElem?_eq_some_iff.1 ho).1]
  exact ho
theorem live_app {h k : List Obj} {i : Nat} (ho : live h i = true) : live (h ++ k) i = true := by
  unfold live at ho ⊢
  cases hi : atN h i with
  | none => rw [hi] at ho; cases ho
  | some o => rw [hi] at ho; rw [atN_app hi]; exact ho

def more (k : List Obj) (st : St) : St := ⟨st.fr, st.h ++ k⟩
variable {k : List Obj}

theorem frz_more {x : (τ : Ty) × τ.I × St} (h : frz true st v = some x) : frz true (more k st) v = some ⟨x.1, x.2.1, more k x.2.2⟩ ∧ x.2.2 = st := by
  cases v with
  | dat τ y => simp only [frz, Option.some.injEq] at h ⊢; subst h; exact ⟨rfl, rfl⟩
  | clip τ y => simp only [frz, Option.some.injEq] at h ⊢; subst h; exact ⟨rfl, rfl⟩
  | ow id =>
    simp only [frz] at h ⊢
    split at h
    · rename_i τ xs ho
      cases h
      rw [show atN (more k st).h id = some (.row τ xs true) from atN_app ho]
      exact ⟨rfl, rfl⟩
    · cases h
    · cases h
  | bp id p =>
    cases p with
    | cons _ _ => cases h
    | nil =>
      simp only [frz] at h ⊢
      split at h
      · rename_i τ xs ho
        cases h
        rw [show atN (more k st).h id = some (.bx (.dat τ xs) true) from atN_app ho]
        exact ⟨rfl, rfl⟩
      · cases h
      · cases h
  | _ => cases h

theorem kAV_st {v' : AV} {s s' : St} (h : kAV v' s pk = some (v, st')) : kAV v' s' pk = some (v, s') := by
  obtain ⟨rfl, rfl⟩ := kAV_pk h
  unfold kAV at h ⊢
  split
  · rename_i b; cases b <;> rfl
  · rfl
theorem kB_st {b : Bool} {s s' : St} (h : kB b s pk = some (v, st')) : kB b s' pk = some (v, s') := by
  cases b <;> (simp only [kB, cond_true, cond_false, Option.some.injEq, Prod.mk.injEq] at h ⊢; exact ⟨h.1, trivial⟩)

theorem evLoad_more {t : TypeId} {x : AV} (he : evLoad E t x st pk = some (v, st')) : evLoad E t x (more k st) pk = some (v, more k st) := by
  unfold evLoad at he ⊢
  cases x with
  | dat τ y =>
    cases τ <;> try (cases he; done)
    cases y <;> try (cases he; done)
    obtain ⟨h1, h2⟩ := cond_some he
    simp only [h1, cond_true]
    exact kAV_st h2
  | bp id p =>
    simp only at he ⊢
    cases ho : atN st.h id with
    | none => rw [ho] at he; cases he
    | some o =>
      rw [ho] at he
      rw [show atN (more k st).h id = some o from atN_app ho]
      cases o with
      | bx y f =>
        cases y <;> simp only at he ⊢ <;> (split at he) <;> first | (cases he; done) | skip
        all_goals (rename_i hg; obtain ⟨h1, h2⟩ := cond_some he; first | (simp only [hg, h1, cond_true]; exact kAV_st h2) | (simp only [h1, cond_true]; cases h2; rfl))
      | _ => cases he
  | rp id i p =>
    simp only at he ⊢
    cases ho : atN st.h id with
    | none => rw [ho] at he; cases he
    | some o =>
      rw [ho] at he
      rw [show atN (more k st).h id = some o from atN_app ho]
      cases o with
      | row τ xs f =>
        simp only at he ⊢
        split at he
        · rename_i hg
          obtain ⟨h1, h2⟩ := cond_some he
          simp only [hg, h1, cond_true]
          exact kAV_st h2
        · cases he
      | _ => cases he
  | _ => cases he

theorem kIdx_more {n : Int} {len : Nat} {f f' : Nat → Option (AV × St)} {r r' : AV × St} (hf : ∀ i, f i = some r → f' i = some r') (h : kIdx n len f = some r) : kIdx n len f' = some r' := by
  unfold kIdx at h ⊢
  obtain ⟨h1, h⟩ := cond_some h
  obtain ⟨h2, h⟩ := cond_some h
  rw [h1, h2]
  exact hf _ h

theorem evIndexAddr_more {t : TypeId} {x i : AV} (he : evIndexAddr E t x i st pk = some (v, st')) : evIndexAddr E t x i (more k st) pk = some (v, more k st) := by
  have key : ∀ {y : AV}, pk y st = some (v, st') → pk y (more k st) = some (v, more k st) := fun h => by cases h; rfl
  unfold evIndexAddr at he ⊢
  split at he
  · obtain ⟨h1, h2⟩ := cond_some he
    simp only [h1, cond_true]
    exact kIdx_more (fun _ h => key h) h2
  · obtain ⟨h1, h2⟩ := cond_some he
    simp only [h1, cond_true]
    exact kIdx_more (fun _ h => key h) h2
  · split at he
    · rename_i ho
      obtain ⟨h1, h2⟩ := cond_some he
      simp only [show atN (more k st).h _ = _ from atN_app ho, h1, cond_true]
      exact kIdx_more (fun _ h => key h) h2
    · cases he
  · obtain ⟨h1, h2⟩ := cond_some he
    simp only [h1, cond_true]
    exact kIdx_more (fun _ h => key h) h2
  · split at he
    · rename_i ho
      split at he
      · rename_i hg
        obtain ⟨h1, h2⟩ := cond_some he
        simp only [show atN (more k st).h _ = _ from atN_app ho, hg, h1, cond_true]
        exact kIdx_more (fun _ h => key h) h2
      · cases he
    · cases he
  · cases he

theorem evFieldAddr_more {t : TypeId} {x : AV} {f : Nat} (he : evFieldAddr E t x f st pk = some (v, st')) : evFieldAddr E t x f (more k st) pk = some (v, more k st) := by
  unfold evFieldAddr at he ⊢
  split at he
  · obtain ⟨h1, h2⟩ := cond_some he
    simp only [h1, cond_true]
    split at h2
    · cases h2; rfl
    · cases h2
  · split at he
    · rename_i ho
      split at he
      · rename_i hg
        obtain ⟨h1, h2⟩ := cond_some he
        simp only [show atN (more k st).h _ = _ from atN_app ho, hg, h1, cond_true]
        split at h2
        · cases h2; rfl
        · cases h2
      · cases he
    · cases he
  · split at he
    · rename_i ho
      split at he
      · rename_i hg
        obtain ⟨h1, h2⟩ := cond_some he
        simp only [show atN (more k st).h _ = _ from atN_app ho, hg, h1, cond_true]
        split at h2
        · cases h2; rfl
        · cases h2
      · cases he
    · cases he
  · cases he

theorem evLen_more {t : TypeId} {x : AV} (he : evLen E t x st pk = some (v, st')) : evLen E t x (more k st) pk = some (v, more k st) := by
  unfold evLen at he ⊢
  split at he
  · obtain ⟨h1, h2⟩ := cond_some he; simp only [h1, cond_true]; cases h2; rfl
  · obtain ⟨h1, h2⟩ := cond_some he; simp only [h1, cond_true]; cases h2; rfl
  · obtain ⟨h1, h2⟩ := cond_some he; simp only [h1, cond_true]; cases h2; rfl
  · split at he
    · rename_i ho
      obtain ⟨h1, h2⟩ := cond_some he
      simp only [show atN (more k st).h _ = _ from atN_app ho, h1, cond_true]; cases h2; rfl
    · cases he
  · split at he
    · rename_i ho
      obtain ⟨h1, h2⟩ := cond_some he
      simp only [show atN (more k st).h _ = _ from atN_app ho, h1, cond_true]; cases h2; rfl
    · cases he
  · cases he

theorem evLookup_more {t : TypeId} {x i : AV} {ok : Bool} (he : evLookup E t x i ok st pk = some (v, st')) : evLookup E t x i ok (more k st) pk = some (v, more k st) := by
  unfold evLookup at he ⊢
  split at he
  · split at he
    · rename_i ho
      split at he
      · split at he
        · rename_i hc
          obtain ⟨h1, h2⟩ := cond_some he
          simp only [show atN (more k st).h _ = _ from atN_app ho, hc, h1, cond_true]
          cases ok with
          | false => exact kAV_st h2
          | true => cases h2; rfl
        · cases he
      · cases he
    · cases he
  · cases he

theorem evBin_st {R : Type} {op : BinOp} {t : TypeId} {x y : AV} {s s2 : St} {k : AV → St → Option R} : evBin E op t x y s k = evBin E op t x y s2 (fun v _ => k v s) := rfl
theorem evBin_more {op : BinOp} {t : TypeId} {x y : AV} {st2 : St} (he : evBin E op t x y st pk = some (v, st')) : evBin E op t x y st2 pk = some (v, st2) := by
  rw [evBin_st (s2 := st), evBin_nat, he]
  rfl

theorem evOp_more {q : Bool} {op : Op} {ty : TypeId} (hs : stillOp op = true) (he : evOp q E op ty st pk = some (v, st')) : evOp q E op ty (more k st) pk = some (v, more k st) := by
  have hrd : ∀ θ x, rd E (more k st) θ x = rd E st θ x := fun θ x => by cases x <;> rfl
  cases op <;> (try (simp only [stillOp] at hs; cases hs; done)) <;> simp only [evOp, hrd] at he ⊢
  case load t x =>
    split at he
    · exact evLoad_more he
    · cases he
  case nilCheck x =>
    split at he
    · cases he; rfl
    · cases he; rfl
    · obtain ⟨h1, h2⟩ := cond_some he
      cases h2
      simp only [show live (more k st).h _ = true from live_app h1, cond_true]
    · obtain ⟨h1, h2⟩ := cond_some he
      cases h2
      simp only [show live (more k st).h _ = true from live_app h1, cond_true]
    · cases he
  case binOp op t x y ty' =>
    split at he
    · exact evBin_more he
    · cases he
  case fieldAddr t x f =>
    split at he
    · exact evFieldAddr_more he
    · cases he
  case indexAddr t x i =>
    split at he
    · exact evIndexAddr_more he
    · cases he
  case lookup t x i ok =>
    split at he
    · exact evLookup_more he
    · cases he
  case call c =>
    obtain ⟨callee, args, argTypes⟩ := c
    simp only [stillOp] at hs
    split at hs
    · rw [evCall_len] at he ⊢
      simp only [hrd] at he ⊢
      split at he
      · split at he
        · exact evLen_more he
        · cases he
      · cases he
    · cases hs
end
end Go.Ev

/-! Regions. -/
namespace Go.Ev
open Go.RowKit
set_option linter.unusedSimpArgs false
set_option linter.unusedVariables false

section
variable {P : Program} {nt : Nat} {F0 F G : FH} {w0 w : World} {st st' : St} {m : MM} {a : Act} {E : Env} {v : AV} {u : Value} {R : Type}

/-- A state that tells of this frame and this world. -/
def Inv (P : Program) (nt : Nat) (F0 : FH) (w0 : World) (st : St) (a : Act) (w : World) : Prop := ∃ m F, Rel P nt F0 w0 st m F a w

theorem guard_wanted {ops : Array Oper} {o : Oper} {b : Bool} (h : Rel P nt F0 w0 st m F a w) (hg : guardV ops.toList st.fr o = some b) : Region.wanted o (yielded ops a.tmps) = b := by
  unfold guardV at hg
  unfold Region.wanted
  cases hgd : o.guard with
  | none => rw [hgd] at hg; simpa using hg
  | some gw =>
    obtain ⟨g, want⟩ := gw
    rw [hgd] at hg
    simp only at hg ⊢
    have hd : dstOf ops.toList g = (ops[g]?).bind (·.dst) := by unfold dstOf; rw [atN_eq, Array.getElem?_toList]
    rw [hd] at hg
    unfold yielded
    cases ht : (ops[g]?).bind (·.dst) with
    | none => rw [ht] at hg; cases hg
    | some d =>
      rw [ht] at hg
      simp only [Option.bind_some] at hg ⊢
      cases hl : look st.fr d with
      | none => rw [hl] at hg; cases hg
      | some x =>
        rw [hl] at hg
        have hr := h.fr d x hl
        split at hg
        · rename_i y hy
          cases hy
          cases hg
          have := RelV.bool (st := st) hr
          cases hT : a.tmps[d]? with
          | none => simp [hT, undef] at this
          | some z => simp [hT] at this; subst this; simp
        · rename_i hy
          cases hy
          cases hg
          obtain ⟨arr, e, _⟩ := hr
          cases hT : a.tmps[d]? with
          | none => simp
          | some z => simp [hT] at e; subst e; simp
        · cases hg

theorem dstIn_spec {o : Oper} (h : dstIn E o = true) : ∀ d, o.dst = some d → d < E.nt := by
  intro d hd
  unfold dstIn at h
  rw [hd] at h
  simp only [Nat.blt_eq] at h
  exact h

/-- A region whose order is the text's. -/
theorem evOps_snd {ops : Array Oper} {Q : Exit → Act → World → Prop} {k : St → Option R} {r : R} (hE : EnvOk P G E) (hG : G.le F0) (hnt : E.nt = nt)
    (hQ : ∀ st a w, Inv P nt F0 w0 st a w → k st = some r → Q .normal a w) :
    ∀ (rest pre : List Oper) (st : St) (a : Act) (w : World), ops.toList = pre ++ rest → Inv P nt F0 w0 st a w → evOps E ops.toList rest st k = some r → wpOps P ops Q (List.range' pre.length rest.length) a w := by
  intro rest
  induction rest with
  | nil => intro pre st a w _ hi he; exact hQ st a w hi he
  | cons o rest ih =>
    intro pre st a w hp ⟨m, F, h⟩ he
    have hget : ops[pre.length]? = some o := by rw [← Array.getElem?_toList, hp]; simp
    simp only [evOps] at he
    obtain ⟨hd, he⟩ := cond_some he
    have hd' : ∀ d, o.dst = some d → d < nt := fun d h => hnt ▸ dstIn_spec hd d h
    cases hg : guardV ops.toList st.fr o with
    | none => rw [hg] at he; cases he
    | some b =>
      rw [hg] at he
      have hw := guard_wanted h hg
      simp only [List.length_cons, List.range'_succ]
      unfold wpOps
      simp only [hget, hw]
      have hnext := ih (pre ++ [o])
      simp only [List.length_append, List.length_cons, List.length_nil, List.append_assoc, List.singleton_append] at hnext
      cases b with
      | false =>
        simp only [Bool.false_eq_true, if_false]
        exact hnext _ _ _ hp ⟨m, F, h.put hd' relUndef⟩ he
      | true =>
        simp only [if_true]
        left
        simp only [cond_true] at he
        rw [evOp_nat] at he
        obtain ⟨⟨v, st'⟩, h1, h2⟩ := Option.bind_eq_some_iff.1 he
        refine evOp_snd hE hG h h1 _ _ ?_
        rintro u w' ⟨m', F', _, h3, h4⟩
        exact hnext _ _ _ hp ⟨m', F', h3.put hd' h4⟩ h2

end
end Go.Ev

/-! Regions whose order is open: what the evaluation of one tells. -/
namespace Go.Ev
open Go.RowKit
set_option linter.unusedSimpArgs false
set_option linter.unusedVariables false

section
variable {R : Type} {E : Env}

/-- One operation of a region, from state to state. -/
def StepAt (E : Env) (all : List Oper) (s s1 : St) (o : Oper) (v : AV) (d : Did) : Prop :=
  dstIn E o = true ∧ s1.fr = (s.put o.dst v).fr ∧
  ((guardV all s.fr o = some false ∧ v = .tup [] ∧ s1.h = s.h ∧ d.rd = false ∧ d.wr = false ∧ d.ch = false) ∨
   (guardV all s.fr o = some true ∧
    ((∃ fr' v0 st', restr s (tmpsOf o) = (fr', true, d.rd) ∧ evOp false E o.op o.type ⟨fr', []⟩ pk = some (v0, st') ∧ v = v0.shT s.h.length ∧ s1.h = s.h ++ st'.h.map (Obj.sh s.h.length) ∧ d.wr = !isNil st'.h ∧ d.ch = false) ∨
     (∃ st', stillOp o.op = true ∧ evOp false E o.op o.type s pk = some (v, st') ∧ s1.h = st'.h ∧ d.rd = true ∧ d.wr = false ∧ d.ch = false) ∨
     (∃ st', evOp false E o.op o.type s pk = some (v, st') ∧ s1.h = st'.h ∧ d.rd = true ∧ d.wr = true ∧ d.ch = true))))

/-- What was done may stand before or behind what is not ordered against it. -/
def Ok (bs : List Nat) (e d : Did) : Prop := Nat.testBit ((atN bs d.i).getD 0) e.i = true ∨ ((e.wr = true → d.rd = false ∧ d.wr = false) ∧ (e.rd = true → d.ch = false))

theorem ordOk_spec {bj : Nat} {d : Did} : ∀ {l : List Did}, ordOk bj d l = true → ∀ e ∈ l, Nat.testBit bj e.i = true ∨ ((e.wr = true → d.rd = false ∧ d.wr = false) ∧ (e.rd = true → d.ch = false))
  | [], _, e, he => by simp at he
  | x :: l, h, e, he => by
    simp only [ordOk] at h
    cases hb : Nat.testBit bj x.i with
    | true =>
      rw [hb] at h
      rcases List.mem_cons.1 he with rfl | he
      · exact .inl hb
      · exact ordOk_spec h e he
    | false =>
      rw [hb] at h
      simp only [cond_false] at h
      cases h1 : (x.wr && (d.rd || d.wr)) with
      | true => rw [h1] at h; cases h
      | false =>
        rw [h1] at h
        simp only [cond_false] at h
        cases h2 : (x.rd && d.ch) with
        | true => rw [h2] at h; cases h
        | false =>
          rw [h2] at h
          rcases List.mem_cons.1 he with rfl | he
          · refine .inr ⟨fun hx => ?_, fun hx => ?_⟩
            · rw [hx] at h1; simpa using h1
            · rw [hx] at h2; simpa using h2
          · exact ordOk_spec h e he

theorem evD_trace {all : List Oper} {bs : List Nat} {k : St → Option R} {r : R} : ∀ (rest : List Oper) (j : Nat) (seen : List Did) (st : St), evD E all bs rest j seen st k = some r →
    ∃ (S : Nat → St) (V : Nat → AV) (D : Nat → Did), S j = st ∧ k (S (j + rest.length)) = some r ∧ (∀ i, (D i).i = i) ∧
      (∀ i o, rest[i]? = some o → StepAt E all (S (j + i)) (S (j + i + 1)) o (V (j + i)) (D (j + i))) ∧
      (∀ i, i < rest.length → ∀ e ∈ seen, Ok bs e (D (j + i))) ∧
      (∀ i i', i < i' → i' < rest.length → Ok bs (D (j + i)) (D (j + i')))
  | [], j, seen, st, h => ⟨fun _ => st, fun _ => .dead, fun i => ⟨i, false, false, false⟩, rfl, h, fun _ => rfl, by simp, by simp, by simp⟩
  | o :: rest, j, seen, st, h => by
    -- from one step and what follows it
    have key : ∀ (s1 : St) (v : AV) (d : Did) (seen' : List Did), StepAt E all st s1 o v d → d.i = j → (∀ e ∈ seen, Ok bs e d) → (seen' = d :: seen ∨ (seen' = seen ∧ d.rd = false ∧ d.wr = false ∧ d.ch = false)) → evD E all bs rest (j + 1) seen' s1 k = some r → 
        ∃ (S : Nat → St) (V : Nat → AV) (D : Nat → Did), S j = st ∧ k (S (j + (o :: rest).length)) = some r ∧ (∀ i, (D i).i = i) ∧
          (∀ i o', (o :: rest)[i]? = some o' → StepAt E all (S (j + i)) (S (j + i + 1)) o' (V (j + i)) (D (j + i))) ∧
          (∀ i, i < (o :: rest).length → ∀ e ∈ seen, Ok bs e (D (j + i))) ∧
          (∀ i i', i < i' → i' < (o :: rest).length → Ok bs (D (j + i)) (D (j + i'))) := by
      intro s1 v d seen' hs hd ho hse he
      obtain ⟨S, V, D, h1, h2, h3, h4, h5, h6⟩ := evD_trace rest (j + 1) seen' s1 he
      have hne : ∀ i, j + 1 + i ≠ j := fun i => by omega
      have hS : ∀ i, (if j + (i + 1) = j then st else S (j + (i + 1))) = S (j + 1 + i) := fun i => by rw [if_neg (by omega), show j + (i + 1) = j + 1 + i by omega]
      have hV : ∀ i, (if j + (i + 1) = j then v else V (j + (i + 1))) = V (j + 1 + i) := fun i => by rw [if_neg (by omega), show j + (i + 1) = j + 1 + i by omega]
      have hD : ∀ i, (if j + (i + 1) = j then d else D (j + (i + 1))) = D (j + 1 + i) := fun i => by rw [if_neg (by omega), show j + (i + 1) = j + 1 + i by omega]
      refine ⟨fun i => if i = j then st else S i, fun i => if i = j then v else V i, fun i => if i = j then d else D i, by simp, ?_, ?_, ?_, ?_, ?_⟩
      · simp only [List.length_cons, hS]; exact h2
      · intro i
        by_cases e : i = j
        · subst e; simp [hd]
        · simp [e, h3]
      · intro i o' hi
        cases i with
        | zero =>
          simp only [List.getElem?_cons_zero, Option.some.injEq] at hi
          subst hi
          simp only [Nat.add_zero, if_true]
          rw [if_neg (by omega), h1]
          exact hs
        | succ i =>
          rw [List.getElem?_cons_succ] at hi
          have := h4 i o' hi
          simp only [hS, hV, hD]
          rw [if_neg (by omega), show j + (i + 1) + 1 = j + 1 + i + 1 by omega]
          exact this
      · intro i hi e hes
        cases i with
        | zero => simp only [Nat.add_zero, if_true]; exact ho e hes
        | succ i =>
          simp only [hD]
          refine h5 i (by simpa using hi) e ?_
          rcases hse with rfl | ⟨rfl, _⟩
          · exact List.mem_cons_of_mem _ hes
          · exact hes
      · intro i i' hii hi'
        cases i' with
        | zero => omega
        | succ i' =>
          simp only [hD]
          cases i with
          | zero =>
            simp only [Nat.add_zero, if_true]
            rcases hse with rfl | ⟨_, g1, g2, g3⟩
            · exact h5 i' (by simpa using hi') d (by simp)
            · exact .inr ⟨fun hx => (by rw [g2] at hx; cases hx), fun hx => (by rw [g1] at hx; cases hx)⟩
          | succ i =>
            simp only [hD]
            exact h6 i i' (by omega) (by simpa using hi')
    simp only [evD] at h
    obtain ⟨hdst, h⟩ := cond_some h
    cases hg : guardV all st.fr o with
    | none => rw [hg] at h; cases h
    | some b =>
      rw [hg] at h
      simp only at h
      cases b with
      | false =>
        simp only [cond_false] at h
        refine key _ (.tup []) ⟨j, false, false, false⟩ seen ⟨hdst, rfl, .inl ⟨hg, rfl, ?_, rfl, rfl, rfl⟩⟩ rfl (fun e _ => .inr ⟨fun _ => ⟨rfl, rfl⟩, fun _ => rfl⟩) (.inr ⟨rfl, rfl, rfl, rfl⟩) h
        cases o.dst <;> rfl
      | true =>
        simp only [cond_true] at h
        cases hpu : (restr st (tmpsOf o)).2.1 with
        | true =>
          rw [hpu] at h
          simp only [cond_true] at h
          rw [evOp_nat] at h
          obtain ⟨⟨v0, st'⟩, h1, h2⟩ := Option.bind_eq_some_iff.1 h
          obtain ⟨h3, h4⟩ := cond_some h2
          have hord := ordOk_spec h3
          refine key _ (v0.shT st.h.length) ⟨j, (restr st (tmpsOf o)).2.2, !isNil st'.h, false⟩ _ ⟨hdst, ?_, .inr ⟨hg, .inl ⟨(restr st (tmpsOf o)).1, v0, st', by rw [← hpu], h1, rfl, ?_, rfl, rfl⟩⟩⟩ rfl hord (.inl rfl) h4
          · cases o.dst <;> rfl
          · cases o.dst <;> rfl
        | false =>
          rw [hpu] at h
          simp only [cond_false] at h
          cases hs : stillOp o.op with
          | true =>
            rw [hs] at h
            simp only [cond_true] at h
            obtain ⟨h3, h⟩ := cond_some h
            have hord := ordOk_spec h3
            rw [evOp_nat] at h
            obtain ⟨⟨v0, st'⟩, h1, h2⟩ := Option.bind_eq_some_iff.1 h
            have hf := evOp_frame h1
            refine key _ v0 ⟨j, true, false, false⟩ _ ⟨hdst, ?_, .inr ⟨hg, .inr (.inl ⟨st', hs, h1, ?_, rfl, rfl, rfl⟩)⟩⟩ rfl hord (.inl rfl) h2
            · cases o.dst <;> simp [St.put, hf]
            · cases o.dst <;> rfl
          | false =>
            rw [hs] at h
            simp only [cond_false] at h
            obtain ⟨h3, h⟩ := cond_some h
            have hord := ordOk_spec h3
            rw [evOp_nat] at h
            obtain ⟨⟨v0, st'⟩, h1, h2⟩ := Option.bind_eq_some_iff.1 h
            have hf := evOp_frame h1
            refine key _ v0 ⟨j, true, true, true⟩ _ ⟨hdst, ?_, .inr ⟨hg, .inr (.inr ⟨st', h1, ?_, rfl, rfl, rfl⟩)⟩⟩ rfl hord (.inl rfl) h2
            · cases o.dst <;> simp [St.put, hf]
            · cases o.dst <;> rfl

/-! ### Bits -/
theorem obit_spec {acc : List Nat} : ∀ {es : List Edge} {i : Nat}, Nat.testBit (obit acc es) i = true → ∃ e ∈ es, Region.binds .any e = true ∧ (e.on = i ∨ ∃ b, atN acc e.on = some b ∧ Nat.testBit b i = true) := by
  have key : ∀ (es : List Edge) (s i : Nat), Nat.testBit (es.foldl (fun s e => cond (Region.binds .any e) ((s ||| 2 ^ e.on) ||| (atN acc e.on).getD 0) s) s) i = true → Nat.testBit s i = true ∨ ∃ e ∈ es, Region.binds .any e = true ∧ (e.on = i ∨ ∃ b, atN acc e.on = some b ∧ Nat.testBit b i = true) := by
    intro es
    induction es with
    | nil => intro s i h; exact .inl h
    | cons e es ih =>
      intro s i h
      rw [List.foldl_cons] at h
      rcases ih _ _ h with h1 | ⟨e', he', h1⟩
      · cases hb : Region.binds .any e with
        | false => rw [hb] at h1; exact .inl h1
        | true =>
          rw [hb] at h1
          simp only [cond_true, Nat.testBit_or, Bool.or_eq_true] at h1
          rcases h1 with (h1 | h1) | h1
          · exact .inl h1
          · rw [Nat.testBit_two_pow] at h1
            exact .inr ⟨e, by simp, hb, .inl (by simpa using h1)⟩
          · cases ha : atN acc e.on with
            | none => rw [ha] at h1; simp at h1
            | some b => rw [ha] at h1; exact .inr ⟨e, by simp, hb, .inr ⟨b, ha, h1⟩⟩
      · exact .inr ⟨e', by simp [he'], h1⟩
  intro es i h
  rcases key es 0 i h with h1 | h1
  · simp at h1
  · exact h1

theorem obits_spec : ∀ (l : List Oper) (acc : List Nat) (j : Nat) (o : Oper), l[j]? = some o → ∃ acc', atN (obits l acc) (acc.length + j) = some (obit acc' o.after.toList) ∧ ∀ x b, atN acc' x = some b → atN (obits l acc) x = some b := by
  have pre : ∀ (l : List Oper) (acc : List Nat) (x b : Nat), atN acc x = some b → atN (obits l acc) x = some b := by
    intro l
    induction l with
    | nil => intro acc x b h; exact h
    | cons o l ih => intro acc x b h; exact ih _ _ _ (atN_app h)
  intro l
  induction l with
  | nil => intro acc j o h; simp at h
  | cons u l ih =>
    intro acc j o h
    cases j with
    | zero =>
      simp only [List.getElem?_cons_zero, Option.some.injEq] at h
      subst h
      refine ⟨acc, ?_, fun x b hx => pre l _ x b (atN_app hx)⟩
      refine pre l _ _ _ ?_
      rw [atN_eq]; simp
    | succ j =>
      rw [List.getElem?_cons_succ] at h
      obtain ⟨acc', h1, h2⟩ := ih (acc ++ [obit acc u.after.toList]) j o h
      refine ⟨acc', ?_, h2⟩
      simp only [List.length_append, List.length_cons, List.length_nil] at h1
      rw [show acc.length + (j + 1) = acc.length + (0 + 1) + j by omega]
      exact h1

theorem memN_iff {t : Nat} : ∀ {l : List Nat}, memN t l = true ↔ t ∈ l
  | [] => by simp [memN]
  | x :: l => by
    simp only [memN, List.mem_cons]
    by_cases e : x = t
    · subst e; simp [beq_self]
    · rw [beq_ne e, cond_false, memN_iff]
      exact ⟨.inr, fun h => h.resolve_left fun h' => e h'.symm⟩

/-- What 'dataOk' says of two operations. -/
theorem dataOk1_spec {bj j : Nat} {o : Oper} : ∀ {l : List Oper} {i0 : Nat}, dataOk1 bj j o l i0 = true → ∀ i u d, l[i]? = some u → u.dst = some d → (i0 + i = j ∨ o.dst ≠ some d) ∧ (d ∈ tmpsOf o → Nat.testBit bj (i0 + i) = true ∧ i0 + i < j)
  | [], _, _, i, u, d, hi, _ => by simp at hi
  | x :: l, i0, h, i, u, d, hi, hd => by
    simp only [dataOk1, Bool.and_eq_true] at h
    cases i with
    | zero =>
      simp only [List.getElem?_cons_zero, Option.some.injEq] at hi
      subst hi
      rw [hd] at h
      simp only [Bool.and_eq_true, Bool.or_eq_true, Bool.not_eq_true'] at h
      obtain ⟨⟨h1, h2⟩, _⟩ := h
      refine ⟨?_, fun hm => ?_⟩
      · rcases h1 with h1 | h1
        · exact .inl (Nat.eq_of_beq_eq_true h1)
        · right
          intro he
          rw [he] at h1
          simp [beq_self] at h1
      · rcases h2 with h2 | h2
        · rw [memN_iff.2 hm] at h2; cases h2
        · exact ⟨h2.1, by simpa using h2.2⟩
    | succ i =>
      rw [List.getElem?_cons_succ] at hi
      have := dataOk1_spec h.2 i u d hi hd
      rw [show i0 + (i + 1) = i0 + 1 + i by omega]
      exact this

theorem dataOk_spec {bs : List Nat} {all : List Oper} (h : dataOk bs all = true) {j : Nat} {o : Oper} (hj : all[j]? = some o) :
    dataOk1 ((atN bs j).getD 0) j o all 0 = true ∧ (∀ g b, o.guard = some (g, b) → Nat.testBit ((atN bs j).getD 0) g = true ∧ g < j) ∧ ∀ e ∈ o.after.toList, Region.binds .any e = true → e.on < j := by
  have key : ∀ (l : List Oper) (j0 j : Nat) (o : Oper), dataOkAux bs all l j0 = true → l[j]? = some o → dataOk1 ((atN bs (j0 + j)).getD 0) (j0 + j) o all 0 = true ∧ (∀ g b, o.guard = some (g, b) → Nat.testBit ((atN bs (j0 + j)).getD 0) g = true ∧ g < j0 + j) ∧ ∀ e ∈ o.after.toList, Region.binds .any e = true → e.on < j0 + j := by
    intro l
    induction l with
    | nil => intro j0 j o _ h; simp at h
    | cons x l ih =>
      intro j0 j o h hj
      simp only [dataOkAux, Bool.and_eq_true] at h
      cases j with
      | zero =>
        simp only [List.getElem?_cons_zero, Option.some.injEq] at hj
        subst hj
        obtain ⟨⟨⟨h1, h2⟩, h3⟩, _⟩ := h
        refine ⟨h1, fun g b hg => ?_, fun e he hb => ?_⟩
        · rw [hg] at h2
          simp only [Bool.and_eq_true, Nat.blt_eq] at h2
          exact h2
        · have := List.all_eq_true.1 h3 e he
          simp only [hb, Bool.not_true, Bool.false_or, Nat.blt_eq] at this
          exact this
      | succ j =>
        rw [List.getElem?_cons_succ] at hj
        have := ih (j0 + 1) j o h.2 hj
        rw [show j0 + (j + 1) = j0 + 1 + j by omega]
        exact this
  have := key all 0 j o h hj
  simpa using this
end
end Go.Ev

/-! Regions whose order is open: every order does the same. -/
namespace Go.Ev
open Go.RowKit
set_option linter.unusedSimpArgs false
set_option linter.unusedVariables false

section
variable {P : Program} {nt : Nat} {F0 F G : FH} {w0 w : World} {st st' : St} {m : MM} {a : Act} {E : Env} {v : AV} {u : Value} {R : Type}

theorem frzT {τ : Ty} {x : τ.I} (hz : frz true st v = some ⟨τ, x, st'⟩) (h : Rel P nt F0 w0 st m F a w) (hv : RelV P st.h m F v u) : RepV P F τ x u := by
  cases v with
  | dat τ' y =>
    simp only [frz, Option.some.injEq] at hz
    cases hz
    exact hv
  | clip τ' ys =>
    simp only [frz, Option.some.injEq] at hz
    cases hz
    obtain ⟨ad, rfl, h1⟩ := hv
    exact ⟨⟨ad, _, rfl, Nat.le_refl _, h1⟩, rfl⟩
  | ow id =>
    rcases hv with hg | ⟨σ, xs, fz, ho, hu⟩
    · simp [frz, hg] at hz
    simp only [frz, ho] at hz
    cases fz with
    | false => cases hz
    | true =>
      simp only [Option.some.injEq] at hz
      cases hz
      cases hmi : m id with
      | none =>
        rw [hmi] at hu
        obtain ⟨rfl, ad, rfl⟩ := hu
        exact .sl_nil
      | some bn =>
        obtain ⟨b, n⟩ := bn
        rw [hmi] at hu
        obtain ⟨cap, hn, hcap, rfl⟩ := hu
        obtain ⟨el, fr, cs, c, d, h1, h2, h3, h4, h5⟩ := h.row ho hmi
        exact .sl_of_row h5 h3 h4 hcap
  | bp id p =>
    cases p with
    | cons _ _ => simp [frz] at hz
    | nil =>
      rcases hv with hg | ⟨b, n, o, off, hmi, ho, rfl, h2⟩
      · simp [frz, hg] at hz
      simp only [frz, ho] at hz
      cases o with
      | bx v fz =>
        cases v with
        | dat σ y =>
          cases fz with
          | false => cases hz
          | true =>
            obtain ⟨ρ, h3⟩ := h2
            simp only [offP, Option.some.injEq, Prod.mk.injEq] at h3
            obtain ⟨rfl, rfl⟩ := h3
            obtain ⟨b', n', el, fr, cs, h4, h5, h6, h7⟩ := h.obs id _ ho
            rw [hmi] at h4
            cases h4
            simp only [Option.some.injEq] at hz
            cases hz
            exact ⟨⟨_, _, rfl, ⟨rfl, cs, h7, fun j v hj => by rw [Nat.zero_add, ← Array.getElem?_toList]; exact hj⟩, h6⟩, rfl⟩
        | _ => cases hz
      | _ => cases hz
  | _ => simp [frz] at hz

/-- What is put in place of a frozen object's name stands for the same. -/
theorem purify_rel {h k : List Obj} {fr : List (Nat × AV)} (hr : Rel P nt F0 w0 ⟨fr, h ++ k⟩ m F a w) (hv : RelV P (h ++ k) m F v u) : RelV P (h ++ k) m F (purify h v).1 u := by
  unfold purify
  cases hp : v.pure with
  | true => exact hv
  | false =>
    simp only [cond_false]
    split
    · rename_i τ x s hz
      have h1 := (frz_more (k := k) hz).1
      exact frzT (st := ⟨[], h ++ k⟩) h1 (hr.frames (fr := []) (fun t v ht => by simp [look] at ht)) hv
    · exact hv
theorem purify_same {h : List Obj} (hp : (purify h v).2 = false) : (purify h v).1 = v := by
  unfold purify at hp ⊢
  cases hq : v.pure with
  | true => rfl
  | false =>
    rw [hq] at hp
    simp only [cond_false] at hp
    split at hp <;> cases hp

theorem restr_spec {s : St} : ∀ {l : List Nat} {fr' : List (Nat × AV)} {pu rs : Bool}, restr s l = (fr', pu, rs) →
    ∀ t v', look fr' t = some v' → t ∈ l ∧ ∃ v, look s.fr t = some v ∧ v' = (purify s.h v).1 ∧ (rs = false → v' = v) ∧ (pu = true → v'.pure = true)
  | [], _, _, _, h, t, v', ht => by cases h; simp [look] at ht
  | x :: l, fr', pu, rs, h, t, v', ht => by
    simp only [restr] at h
    cases hx : look s.fr x with
    | none =>
      rw [hx] at h
      obtain ⟨h1, h2⟩ := restr_spec h t v' ht
      exact ⟨List.mem_cons_of_mem _ h1, h2⟩
    | some v =>
      rw [hx] at h
      simp only [Prod.mk.injEq] at h
      obtain ⟨rfl, rfl, rfl⟩ := h
      by_cases e : x = t
      · subst e
        simp only [look, beq_self, cond_true, Option.some.injEq] at ht
        subst ht
        refine ⟨by simp, v, hx, rfl, fun hr => ?_, fun hp => ?_⟩
        · simp only [Bool.or_eq_false_iff] at hr
          exact purify_same hr.1
        · simp only [Bool.and_eq_true] at hp
          exact hp.1
      · simp only [look, beq_ne e, cond_false] at ht
        obtain ⟨h1, v2, h2, h3, h4, h5⟩ := restr_spec (Prod.ext rfl (Prod.ext rfl rfl) : restr s l = ((restr s l).1, (restr s l).2.1, (restr s l).2.2)) t v' ht
        refine ⟨List.mem_cons_of_mem _ h1, v2, h2, h3, fun hr => h4 ?_, fun hp => h5 ?_⟩
        · simp only [Bool.or_eq_false_iff] at hr
          exact hr.2
        · simp only [Bool.and_eq_true] at hp
          exact hp.2

/-- A value that is told of under no object leads nowhere. -/
theorem RelV.nowhere {h2 : List Obj} {m2 : MM} {n : Nat} (hv : RelV P [] m F v u) : RelV P h2 m2 F (v.shT n) u := by
  have key : ∀ {x : AV} {y : Value}, RelV1 P [] m F x y → RelV1 P h2 m2 F (x.sh n) y := by
    intro x y hx
    cases x with
    | dat τ z => exact hx
    | clip τ z => exact hx
    | dead => trivial
    | tup vs => exact hx.elim
    | bp id p => rcases hx with hg | ⟨b, n, o, off, h1, ho, _⟩ <;> simp_all [atN]
    | rp id i p => rcases hx with hg | ⟨b, n, τ, xs, fz, off, σ, h1, ho, _⟩ <;> simp_all [atN]
    | ow id => rcases hx with hg | ⟨τ, xs, fz, ho, _⟩ <;> simp_all [atN]
    | om id => rcases hx with hg | ⟨b, n, κ, σ, es, h1, ho, _⟩ <;> simp_all [atN]
  cases v with
  | tup vs =>
    obtain ⟨arr, e, h1, h3⟩ := hv
    refine ⟨arr, e, by simpa using h1, fun i x hx => ?_⟩
    rw [List.getElem?_map] at hx
    obtain ⟨y, hy, rfl⟩ := Option.map_eq_some_iff.1 hx
    obtain ⟨z, hz, hyz⟩ := h3 i y hy
    exact ⟨z, hz, key hyz⟩
  | _ =>
    rw [RelV.eq1 (by intro vs e; cases e)] at hv
    exact RelV.of1 (key hv)

/-! ### How many are still to come -/
def left' (f : Nat → Bool) : Nat → Nat
  | 0 => 0
  | n + 1 => left' f n + cond (f n) 0 1
theorem left_zero {f : Nat → Bool} : ∀ {n : Nat}, left' f n = 0 → ∀ i, i < n → f i = true
  | n + 1, h, i, hi => by
    simp only [left'] at h
    by_cases e : i = n
    · subst e
      cases hf : f i with
      | true => rfl
      | false => rw [hf] at h; simp at h
    · exact left_zero (n := n) (by omega) i (by omega)
theorem left_step {f g : Nat → Bool} {j : Nat} : ∀ {n : Nat}, f j = false → g j = true → (∀ i, i ≠ j → g i = f i) → left' f n = left' g n + (if j < n then 1 else 0)
  | 0, _, _, _ => by simp [left']
  | n + 1, h1, h2, h3 => by
    have ih := left_step (n := n) h1 h2 h3
    simp only [left']
    by_cases e : n = j
    · subst e
      simp only [h1, h2, cond_true, cond_false]
      simp at ih
      simp [ih]
    · rw [h3 n e, ih]
      by_cases h4 : j < n
      · have h5 : j < n + 1 := by omega
        simp only [if_pos h4, if_pos h5]
        generalize cond (f n) 0 1 = z
        omega
      · have h5 : ¬ j < n + 1 := by omega
        simp only [if_neg h4, if_neg h5]
        generalize cond (f n) 0 1 = z
        omega
theorem left_none {f : Nat → Bool} : ∀ {n : Nat}, (∀ i, i < n → f i = false) → left' f n = n
  | 0, _ => rfl
  | n + 1, h => by
    have ih := left_none (n := n) (fun i hi => h i (by omega))
    simp only [left', ih, h n (by omega), cond_false]

theorem still_same {q : Bool} {op : Op} {ty : TypeId} (hs : stillOp op = true) (he : evOp q E op ty st pk = some (v, st')) : st' = st := by
  have := evOp_more (k := []) hs he
  rw [show more [] st = st by unfold more; rw [List.append_nil], he] at this
  cases this
  rfl

/-- What holds when some operations are done. -/
structure Mid (P : Program) (nt : Nat) (F0 : FH) (w0 : World) (all : List Oper) (bs : List Nat) (S : Nat → St) (V : Nat → AV) (D : Nat → Did) (done : Nat → Bool) (a : Act) (w : World) : Prop where
  down : ∀ j, j < all.length → done j = true → ∀ i, Nat.testBit ((atN bs j).getD 0) i = true → done i = true
  rel : ∃ c, c ≤ all.length ∧ (∀ i, i < all.length → (D i).wr = true → (done i = true ↔ i < c)) ∧ ∃ fr m F, Rel P nt F0 w0 ⟨fr, (S c).h⟩ m F a w ∧
    (∀ (i : Nat) (o : Oper) (d : Nat), all[i]? = some o → done i = true → o.dst = some d → look fr d = some (V i)) ∧
    (∀ t, (∀ (i : Nat) (o : Oper), all[i]? = some o → o.dst ≠ some t) → look fr t = look (S 0).fr t)

/-- All that is fixed about a region. -/
structure Reg (E : Env) (all : List Oper) (bs : List Nat) (S : Nat → St) (V : Nat → AV) (D : Nat → Did) : Prop where
  data : dataOk bs all = true
  bits : bs = obits all []
  id : ∀ i, (D i).i = i
  step : ∀ i o, all[i]? = some o → StepAt E all (S i) (S (i + 1)) o (V i) (D i)
  ok : ∀ i i', i < i' → i' < all.length → Ok bs (D i) (D i')

section
variable {all : List Oper} {bs : List Nat} {S : Nat → St} {V : Nat → AV} {D : Nat → Did} {done : Nat → Bool}

theorem Reg.chwr (g : Reg E all bs S V D) {i : Nat} (hi : i < all.length) (hc : (D i).ch = true) : (D i).wr = true := by
  obtain ⟨_, _, h⟩ := g.step i all[i] (List.getElem?_eq_getElem hi)
  rcases h with ⟨_, _, _, _, _, h⟩ | ⟨_, ⟨_, _, _, _, _, _, _, _, h⟩ | ⟨_, _, _, _, _, _, h⟩ | ⟨_, _, _, _, h, _⟩⟩
  · rw [h] at hc; cases hc
  · rw [h] at hc; cases hc
  · rw [h] at hc; cases hc
  · exact h

/-- A step that makes nothing leaves all objects alone. -/
theorem Reg.quiet (g : Reg E all bs S V D) {i : Nat} (hi : i < all.length) (hq : (D i).wr = false) : (S (i + 1)).h = (S i).h := by
  obtain ⟨_, _, h⟩ := g.step i all[i] (List.getElem?_eq_getElem hi)
  rcases h with ⟨_, _, h, _⟩ | ⟨_, ⟨_, _, st', _, _, _, h1, h2, _⟩ | ⟨st', h1, h2, h3, _⟩ | ⟨_, _, _, _, h, _⟩⟩
  · exact h
  · rw [h2] at hq
    cases hs : st'.h with
    | nil => rw [h1, hs]; simp
    | cons x l => rw [hs] at hq; cases hq
  · rw [h3, still_same h1 h2]
  · rw [h] at hq; cases hq

theorem Reg.grow (g : Reg E all bs S V D) {i : Nat} (hi : i < all.length) (hq : (D i).ch = false) : ∃ k, (S (i + 1)).h = (S i).h ++ k := by
  cases hw : (D i).wr with
  | false => exact ⟨[], by rw [g.quiet hi hw]; simp⟩
  | true =>
    obtain ⟨_, _, h⟩ := g.step i all[i] (List.getElem?_eq_getElem hi)
    rcases h with ⟨_, _, _, _, h, _⟩ | ⟨_, ⟨_, _, st', _, _, _, h1, h2, _⟩ | ⟨st', _, _, _, _, h, _⟩ | ⟨_, _, _, _, _, h⟩⟩
    · rw [h] at hw; cases hw
    · exact ⟨_, h1⟩
    · rw [h] at hw; cases hw
    · rw [h] at hq; cases hq

theorem Reg.quiets (g : Reg E all bs S V D) {c : Nat} : ∀ {j : Nat}, c ≤ j → j ≤ all.length → (∀ i, c ≤ i → i < j → (D i).wr = false) → (S j).h = (S c).h := by
  intro j
  induction j with
  | zero => intro h _ _; rw [Nat.le_zero.1 h]
  | succ j ih =>
    intro h hl hq
    by_cases e : c = j + 1
    · rw [e]
    · rw [g.quiet (by omega) (hq j (by omega) (by omega))]
      exact ih (by omega) (by omega) fun i h1 h2 => hq i h1 (by omega)
theorem Reg.grows (g : Reg E all bs S V D) {j : Nat} : ∀ {c : Nat}, j ≤ c → c ≤ all.length → (∀ i, j ≤ i → i < c → (D i).ch = false) → ∃ k, (S c).h = (S j).h ++ k := by
  intro c
  induction c with
  | zero => intro h _ _; exact ⟨[], by rw [Nat.le_zero.1 h]; simp⟩
  | succ c ih =>
    intro h hl hq
    by_cases e : j = c + 1
    · exact ⟨[], by rw [e]; simp⟩
    · obtain ⟨k, hk⟩ := ih (by omega) (by omega) fun i h1 h2 => hq i h1 (by omega)
      obtain ⟨k', hk'⟩ := g.grow (i := c) (by omega) (hq c (by omega) (by omega))
      exact ⟨k ++ k', by rw [hk', hk, List.append_assoc]⟩

/-- What an operation that may go next finds. -/
structure Next (all : List Oper) (bs : List Nat) (done : Nat → Bool) (j : Nat) : Prop where
  lt : j < all.length
  un : done j = false
  bef : ∀ i, Nat.testBit ((atN bs j).getD 0) i = true → done i = true

theorem Reg.wdone (g : Reg E all bs S V D) {j : Nat} (hn : Next all bs done j) (hf : (D j).rd = true ∨ (D j).wr = true) {i : Nat} (hi : i < j) (hw : (D i).wr = true) : done i = true := by
  rcases g.ok i j hi hn.lt with h | h
  · rw [g.id, g.id] at h; exact hn.bef i h
  · obtain ⟨h1, h2⟩ := h.1 hw
    rcases hf with hf | hf
    · rw [h1] at hf; cases hf
    · rw [h2] at hf; cases hf
theorem Reg.later (g : Reg E all bs S V D) (hd : ∀ j, j < all.length → done j = true → ∀ i, Nat.testBit ((atN bs j).getD 0) i = true → done i = true) {j : Nat} (hn : Next all bs done j) {i : Nat} (hi : j < i) (hl : i < all.length) (hdi : done i = true) :
    ((D j).wr = true → (D i).rd = false ∧ (D i).wr = false) ∧ ((D j).rd = true → (D i).ch = false) := by
  rcases g.ok j i hi hl with h | h
  · rw [g.id, g.id] at h
    have := hd i hl hdi j h
    rw [hn.un] at this
    cases this
  · exact h

theorem Reg.reads (g : Reg E all bs S V D) (hd : ∀ j, j < all.length → done j = true → ∀ i, Nat.testBit ((atN bs j).getD 0) i = true → done i = true) {j c : Nat} (hn : Next all bs done j) (hc : c ≤ all.length)
    (hw : ∀ i, i < all.length → (D i).wr = true → (done i = true ↔ i < c)) (hr : (D j).rd = true) : ∃ k, (S c).h = (S j).h ++ k := by
  by_cases hcj : c ≤ j
  · refine ⟨[], ?_⟩
    rw [List.append_nil]
    refine (g.quiets hcj (by have := hn.lt; omega) fun i h1 h2 => ?_).symm
    cases hwi : (D i).wr with
    | false => rfl
    | true =>
      have := g.wdone hn (.inl hr) h2 hwi
      have := (hw i (by have := hn.lt; omega) hwi).1 this
      omega
  · refine g.grows (by omega) hc fun i h1 h2 => ?_
    cases hci : (D i).ch with
    | false => rfl
    | true =>
      have hwi := g.chwr (by omega) hci
      have hdi := (hw i (by omega) hwi).2 h2
      by_cases e : i = j
      · subst e; rw [hn.un] at hdi; cases hdi
      · have := (g.later hd hn (by omega) (by omega) hdi).2 hr
        rw [this] at hci; cases hci

theorem Reg.writes (g : Reg E all bs S V D) (hd : ∀ j, j < all.length → done j = true → ∀ i, Nat.testBit ((atN bs j).getD 0) i = true → done i = true) {j c : Nat} (hn : Next all bs done j) (hc : c ≤ all.length)
    (hw : ∀ i, i < all.length → (D i).wr = true → (done i = true ↔ i < c)) (hr : (D j).wr = true) :
    (S c).h = (S j).h ∧ ∀ i, i < all.length → (D i).wr = true → ((done i = true ∨ i = j) ↔ i < j + 1) := by
  have hcj : c ≤ j := by
    rcases Nat.lt_or_ge j c with h | h
    · have := (hw j hn.lt hr).2 h
      rw [hn.un] at this; cases this
    · exact h
  refine ⟨(g.quiets hcj (by have := hn.lt; omega) fun i h1 h2 => ?_).symm, fun i hi hwi => ⟨fun h => ?_, fun h => ?_⟩⟩
  · cases hwi : (D i).wr with
    | false => rfl
    | true =>
      have := g.wdone hn (.inr hr) h2 hwi
      have := (hw i (by have := hn.lt; omega) hwi).1 this
      omega
  · rcases h with h | h
    · have := (hw i hi hwi).1 h
      omega
    · omega
  · by_cases e : i = j
    · exact .inr e
    · exact .inl (g.wdone hn (.inr hr) (by omega) hwi)

/-- The slots in the text's own order. -/
theorem Reg.slots (g : Reg E all bs S V D) : ∀ {j : Nat}, j ≤ all.length →
    (∀ (i : Nat) (o : Oper) (d : Nat), all[i]? = some o → i < j → o.dst = some d → look (S j).fr d = some (V i)) ∧
    (∀ t, (∀ (i : Nat) (o : Oper), all[i]? = some o → i < j → o.dst ≠ some t) → look (S j).fr t = look (S 0).fr t) := by
  intro j
  induction j with
  | zero => intro _; exact ⟨fun i o d _ h => by omega, fun t _ => rfl⟩
  | succ j ih =>
    intro hj
    obtain ⟨h1, h2⟩ := ih (by omega)
    have hget := List.getElem?_eq_getElem (show j < all.length by omega)
    obtain ⟨_, hf, _⟩ := g.step j _ hget
    have hfr : ∀ t, look (S (j + 1)).fr t = if all[j].dst = some t then some (V j) else look (S j).fr t := by
      intro t
      rw [hf]
      cases hd : all[j].dst with
      | none => simp [St.put]
      | some d => simp [St.put, look_ins]
    have hdist := (dataOk_spec g.data hget).1
    constructor
    · intro i o d hi hij hd
      rw [hfr]
      by_cases e : i = j
      · subst e
        rw [hget] at hi
        cases hi
        rw [if_pos hd]
      · rw [if_neg ?_]
        · exact h1 i o d hi (by omega) hd
        · have := (dataOk1_spec hdist i o d hi hd).1
          rw [Nat.zero_add] at this
          exact this.resolve_left e
    · intro t ht
      rw [hfr, if_neg (ht j _ hget (by omega))]
      exact h2 t fun i o hi hij => ht i o hi (by omega)
end
end
end Go.Ev

/-! Regions whose order is open: the whole. -/
namespace Go.Ev
open Go.RowKit
set_option linter.unusedSimpArgs false
set_option linter.unusedVariables false

section
variable {P : Program} {nt : Nat} {F0 G : FH} {w0 : World} {E : Env} {R : Type} {bs : List Nat} {S : Nat → St} {V : Nat → AV} {D : Nat → Did} {done : Nat → Bool} {ops : Array Oper} {Q : Exit → Act → World → Prop}

def add (done : Nat → Bool) (j : Nat) : Nat → Bool := fun i => if i = j then true else done i
theorem add_iff {i j : Nat} : add done j i = true ↔ done i = true ∨ i = j := by
  unfold add
  by_cases e : i = j
  · simp [e]
  · simp [e]

theorem put_eq (fr : List (Nat × AV)) (h : List Obj) (dst : Option Tmp) (v : AV) : (⟨fr, h⟩ : St).put dst v = ⟨((⟨fr, h⟩ : St).put dst v).fr, h⟩ := by cases dst <;> rfl

theorem Reg.go (hE : EnvOk P G E) (hG : G.le F0) (hnt : E.nt = nt) (g : Reg E ops.toList bs S V D) {a : Act} {w : World} (hm : Mid P nt F0 w0 ops.toList bs S V D done a w) {j : Nat} (hn : Next ops.toList bs done j)
    {K : Act → World → Prop} (hK : ∀ a' w', Mid P nt F0 w0 ops.toList bs S V D (add done j) a' w' → K a' w') : wpOp P ops Q j K a w := by
  obtain ⟨hd, c, hc, hw, fr, m, F, hrel, hV, hO⟩ := hm
  have hlt := hn.lt
  have hget : ops.toList[j]? = some ops.toList[j] := List.getElem?_eq_getElem hlt
  generalize ho : ops.toList[j] = o at hget
  have hgo : ops[j]? = some o := by rw [← Array.getElem?_toList]; exact hget
  obtain ⟨hs1, hs2⟩ := g.slots (j := j) (by omega)
  obtain ⟨hdata, hguard, _⟩ := dataOk_spec g.data hget
  have hag : ∀ t, t ∈ tmpsOf o → look fr t = look (S j).fr t := by
    intro t ht
    by_cases hex : ∃ (i : Nat) (o' : Oper), ops.toList[i]? = some o' ∧ o'.dst = some t
    · obtain ⟨i, o', hi, hdt⟩ := hex
      have := (dataOk1_spec hdata i o' t hi hdt).2 ht
      rw [Nat.zero_add] at this
      rw [hV i o' t hi (hn.bef i this.1) hdt, hs1 i o' t hi this.2 hdt]
    · have hno : ∀ (i : Nat) (o' : Oper), ops.toList[i]? = some o' → o'.dst ≠ some t := fun i o' hi hdt => hex ⟨i, o', hi, hdt⟩
      rw [hO t hno, hs2 t fun i o' hi _ => hno i o' hi]
  have hag' : ∀ t, Operand.tmp t ∈ o.op.operands → look fr t = look (S j).fr t := fun t ht => hag t (mem_tmpsOf.2 ht)
  have hgv : guardV ops.toList fr o = guardV ops.toList (S j).fr o := by
    unfold guardV
    cases hgd : o.guard with
    | none => rfl
    | some gw =>
      obtain ⟨gi, want⟩ := gw
      simp only
      obtain ⟨hb, hlt'⟩ := hguard gi want hgd
      have : (dstOf ops.toList gi).bind (look fr) = (dstOf ops.toList gi).bind (look (S j).fr) := by
        cases hdo : dstOf ops.toList gi with
        | none => rfl
        | some d =>
          simp only [Option.bind_some]
          unfold dstOf at hdo
          rw [atN_eq] at hdo
          obtain ⟨o', ho', hdt⟩ := Option.bind_eq_some_iff.1 hdo
          rw [hV gi o' d ho' (hn.bef gi hb) hdt, hs1 gi o' d ho' hlt' hdt]
      rw [this]
  obtain ⟨hdst, _, hstep⟩ := g.step j o hget
  have hd' : ∀ d, o.dst = some d → d < nt := fun d h => hnt ▸ dstIn_spec hdst d h
  have fin : ∀ (c' : Nat) (a' : Act) (w' : World) (m' : MM) (F' : FH), c' ≤ ops.toList.length → (∀ i, i < ops.toList.length → (D i).wr = true → ((done i = true ∨ i = j) ↔ i < c')) →
      Rel P nt F0 w0 ((⟨fr, (S c').h⟩ : St).put o.dst (V j)) m' F' a' w' → Mid P nt F0 w0 ops.toList bs S V D (add done j) a' w' := by
    intro c' a' w' m' F' hc' hw' hr
    refine ⟨fun j' hj' hdj i hb => ?_, c', hc', fun i hi hwi => by rw [add_iff]; exact hw' i hi hwi, _, m', F', (by rw [put_eq] at hr; exact hr), ?_, ?_⟩
    · rw [add_iff] at hdj ⊢
      rcases hdj with hdj | rfl
      · exact .inl (hd j' hj' hdj i hb)
      · exact .inl (hn.bef i hb)
    · intro i o' d hi hdi hdt
      have hl : ∀ t, look ((⟨fr, (S c').h⟩ : St).put o.dst (V j)).fr t = if o.dst = some t then some (V j) else look fr t := by
        intro t
        cases hd : o.dst with
        | none => simp [St.put]
        | some d => simp [St.put, look_ins]
      rw [hl]
      by_cases e : o.dst = some d
      · rw [if_pos e]
        have := (dataOk1_spec hdata i o' d hi hdt).1
        rw [Nat.zero_add] at this
        rcases this with rfl | this
        · rfl
        · exact absurd e this
      · rw [if_neg e]
        rw [add_iff] at hdi
        rcases hdi with hdi | rfl
        · exact hV i o' d hi hdi hdt
        · rw [hget] at hi; cases hi; exact absurd hdt e
    · intro t ht
      have := ht j o hget
      rw [← hO t ht]
      cases hd : o.dst with
      | none => rfl
      | some d =>
        simp only [St.put, look_ins]
        rw [if_neg]
        rintro rfl
        exact this hd
  have stay : (D j).wr = false → ∀ i, i < ops.toList.length → (D i).wr = true → ((done i = true ∨ i = j) ↔ i < c) := by
    intro hf i hi hwi
    have hne : i ≠ j := by rintro rfl; rw [hf] at hwi; cases hwi
    rw [← hw i hi hwi]
    simp [hne]
  unfold wpOp
  simp only [hgo]
  rcases hstep with ⟨hg, hVj, hh, h1, h2, h3⟩ | ⟨hg, hstep⟩
  · have hwant := guard_wanted hrel (o := o) (ops := ops) (b := false) (by rw [← hg]; exact hgv)
    rw [hwant]
    simp only [Bool.false_eq_true, if_false]
    refine hK _ _ (fin c _ _ m F hc (stay h2) ?_)
    exact Rel.put hrel hd' (by rw [hVj]; exact relUndef)
  · have hwant := guard_wanted hrel (o := o) (ops := ops) (b := true) (by rw [← hg]; exact hgv)
    rw [hwant]
    simp only [if_true]
    left
    rcases hstep with ⟨fr', v0, st', hres, hev, hVj, hh, h2, h3⟩ | ⟨st', hst, hev, hh, h1, h2, h3⟩ | ⟨st', hev, hh, h1, h2, h3⟩
    · have hsp := restr_spec hres
      have hf : ∀ t v, look fr' t = some v → v.pure = true ∧ RelV P (S c).h m F v (a.tmps.getD t undef) := by
        intro t v ht
        obtain ⟨h4, v1, h5, h6, h7, h8⟩ := hsp t v ht
        refine ⟨h8 rfl, ?_⟩
        have hr1 := hrel.fr t v1 (by simp only; rw [hag t h4]; exact h5)
        cases hrd : (D j).rd with
        | false => rw [h7 hrd]; exact hr1
        | true =>
          obtain ⟨k, hk⟩ := g.reads hd hn hc hw hrd
          rw [h6]
          simp only at hr1
          rw [hk] at hr1 hrel ⊢
          exact purify_rel hrel hr1
      have hstart := hrel.start hf
      refine evOp_snd hE (hG.trans hrel.gro.1) hstart hev _ _ ?_
      rintro u w' ⟨m', F', hle, hrel', hv⟩
      have hcat := hrel.cat hrel' hle
      cases hwr : (D j).wr with
      | true =>
        obtain ⟨hSc, hw'⟩ := g.writes hd hn hc hw hwr
        refine hK _ _ (fin (j + 1) _ _ (m.cat (S c).h.length m') F' (by omega) hw' ?_)
        have hv' := hv.cat (H := (S c).h) (m := m)
        rw [hh, hVj, ← hSc]
        exact Rel.put hcat hd' hv'
      | false =>
        rw [hwr] at h2
        have hnil : st'.h = [] := by
          cases hs : st'.h with
          | nil => rfl
          | cons x l => rw [hs] at h2; cases h2
        rw [hnil] at hcat hv
        simp only [List.map_nil, List.append_nil] at hcat
        refine hK _ _ (fin c _ _ (m.cat (S c).h.length m') F' hc (stay hwr) ?_)
        refine Rel.put hcat hd' ?_
        rw [hVj]
        exact hv.nowhere
    · obtain ⟨k, hk⟩ := g.reads hd hn hc hw h1
      have h4 := evOp_swk hev hag'
      have h5 := evOp_more (k := k) hst h4
      have h6 : more k (sw fr (S j)) = ⟨fr, (S c).h⟩ := by unfold more sw; rw [hk]
      rw [h6] at h5
      obtain ⟨_, u, h7, h8⟩ := evOp_still hE hG hrel hst h5
      refine OpTo.val (R := fun u' w' => u' = u ∧ w' = w) h7 ⟨rfl, rfl⟩ _ _ ?_
      rintro u' w' ⟨rfl, rfl⟩
      exact hK _ _ (fin c _ _ m F hc (stay h2) (Rel.put hrel hd' h8))
    · obtain ⟨hSc, hw'⟩ := g.writes hd hn hc hw h2
      have h4 := evOp_swk hev hag'
      have h6 : sw fr (S j) = ⟨fr, (S c).h⟩ := by unfold sw; rw [hSc]
      rw [h6] at h4
      refine evOp_snd hE hG hrel h4 _ _ ?_
      rintro u w' ⟨m', F', hle, hrel', hv⟩
      refine hK _ _ (fin (j + 1) _ _ m' F' (by omega) hw' ?_)
      rw [hh]
      exact Rel.put hrel' hd' hv

theorem Reg.bef (g : Reg E ops.toList bs S V D) (hd : ∀ j, j < ops.toList.length → done j = true → ∀ i, Nat.testBit ((atN bs j).getD 0) i = true → done i = true) {j : Nat} {o : Oper} (hj : ops.toList[j]? = some o)
    (ha : ∀ e ∈ o.after.toList, Region.binds .any e = true → done e.on = true) : ∀ i, Nat.testBit ((atN bs j).getD 0) i = true → done i = true := by
  intro i hi
  obtain ⟨acc, h1, h2⟩ := obits_spec ops.toList [] j o hj
  rw [List.length_nil, Nat.zero_add, ← g.bits] at h1
  rw [h1] at hi
  obtain ⟨e, he, hb, h3⟩ := obit_spec hi
  have hde := ha e he hb
  rcases h3 with rfl | ⟨b, h3, h4⟩
  · exact hde
  · have h5 := h2 _ _ h3
    rw [← g.bits] at h5
    refine hd e.on ?_ hde i (by rw [h5]; exact h4)
    have := (dataOk_spec g.data hj).2.2 e he hb
    have := (List.getElem?_eq_some_iff.1 hj).1
    omega

theorem Reg.any (hE : EnvOk P G E) (hG : G.le F0) (hnt : E.nt = nt) (g : Reg E ops.toList bs S V D)
    (hQ : ∀ a w, Inv P nt F0 w0 (S ops.toList.length) a w → Q .normal a w) :
    ∀ (fuel : Nat) (listed : Array Bool) (a : Act) (w : World), listed.size = ops.size → left' (fun i => listed.getD i false) ops.size ≤ fuel → Mid P nt F0 w0 ops.toList bs S V D (fun i => listed.getD i false) a w → wpAny P .any ops Q fuel listed a w := by
  have hlen : ops.toList.length = ops.size := rfl
  have hfinal : ∀ (listed : Array Bool) (a : Act) (w : World), (∀ i, i < ops.size → listed.getD i false = true) → Mid P nt F0 w0 ops.toList bs S V D (fun i => listed.getD i false) a w → Q .normal a w := by
    intro listed a w hall ⟨hd, c, hc, hw, fr, m, F, hrel, hV, hO⟩
    apply hQ
    have hh : (S ops.toList.length).h = (S c).h := by
      refine g.quiets hc (Nat.le_refl _) fun i h1 h2 => ?_
      cases hwi : (D i).wr with
      | false => rfl
      | true =>
        have := (hw i h2 hwi).1 (hall i h2)
        omega
    obtain ⟨hs1, hs2⟩ := g.slots (j := ops.toList.length) (Nat.le_refl _)
    refine ⟨m, F, ?_⟩
    have := hrel.frames (fr := (S ops.toList.length).fr) ?_
    · simp only at this
      rw [← hh] at this
      exact this
    · intro t v ht
      by_cases hex : ∃ (i : Nat) (o' : Oper), ops.toList[i]? = some o' ∧ o'.dst = some t
      · obtain ⟨i, o', hi, hdt⟩ := hex
        have hil := (List.getElem?_eq_some_iff.1 hi).1
        rw [hs1 i o' t hi hil hdt] at ht
        simp only
        rw [hV i o' t hi (hall i hil) hdt]; exact ht
      · have hno : ∀ (i : Nat) (o' : Oper), ops.toList[i]? = some o' → o'.dst ≠ some t := fun i o' hi hdt => hex ⟨i, o', hi, hdt⟩
        rw [hs2 t fun i o' hi _ => hno i o' hi] at ht
        simp only
        rw [hO t hno]; exact ht
  -- an operation that is not done has one before it that may go next
  have hready : ∀ (listed : Array Bool) , listed.size = ops.size → (∀ j, j < ops.toList.length → (listed.getD j false) = true → ∀ i, Nat.testBit ((atN bs j).getD 0) i = true → listed.getD i false = true) → ∀ j, j < ops.size → listed.getD j false = false → Region.ready .any ops listed ≠ [] := by
    intro listed hsz hd j
    induction j using Nat.strongRecOn with
    | _ j ih =>
      intro hj hu hr
      have hget : ops.toList[j]? = some ops.toList[j] := List.getElem?_eq_getElem (show j < ops.toList.length from hj)
      have hback := (dataOk_spec g.data hget).2.2
      by_cases hall : ∀ e ∈ ops.toList[j].after.toList, Region.binds .any e = true → listed.getD e.on false = true
      · have hmem : j ∈ Region.ready .any ops listed := by
          rw [mem_ready]
          refine ⟨?_, ops.toList[j], by rw [← Array.getElem?_toList]; exact hget, fun e he hb => hall e (by simpa using he) hb⟩
          have : j < listed.size := by omega
          simpa [Array.getD, this] using hu
        rw [hr] at hmem
        cases hmem
      · obtain ⟨e, hne⟩ := Classical.not_forall.1 hall
        simp only [Classical.not_imp] at hne
        obtain ⟨he, hb, hf⟩ := hne
        have hlt := hback e he hb
        exact ih e.on hlt (by omega) (by simpa using hf) hr
  intro fuel
  induction fuel with
  | zero =>
    intro listed a w hsz hleft hm
    have hall := left_zero (n := ops.size) (Nat.le_zero.1 hleft)
    refine ⟨?_, hfinal listed a w hall hm⟩
    cases hr : Region.ready .any ops listed with
    | nil => rfl
    | cons x l =>
      have hx : x ∈ Region.ready .any ops listed := by rw [hr]; simp
      obtain ⟨h1, o, h2, _⟩ := mem_ready.1 hx
      have hlt := (Array.getElem?_eq_some_iff.1 h2).1
      have := hall x hlt
      have hl : x < listed.size := by omega
      simp [Array.getD, hl] at this h1
      rw [h1] at this; cases this
  | succ fuel ih =>
    intro listed a w hsz hleft hm
    constructor
    · intro hr
      refine hfinal listed a w (fun i hi => ?_) hm
      cases hdi : listed.getD i false with
      | true => rfl
      | false => exact absurd hr (hready listed hsz hm.down i hi hdi)
    · intro j hj
      obtain ⟨h1, o, h2, h3⟩ := mem_ready.1 hj
      have hlt := (Array.getElem?_eq_some_iff.1 h2).1
      have hl : j < listed.size := by omega
      have hu : listed.getD j false = false := by simpa [Array.getD, hl] using h1
      have hadd : add (fun i => listed.getD i false) j = fun i => (listed.setIfInBounds j true).getD i false := by
        funext i
        unfold add
        by_cases e : i = j
        · subst e; simp [hl]
        · rw [if_neg e, getD_set_ne false (Ne.symm e)]
      refine g.go hE hG hnt hm ⟨hlt, hu, g.bef hm.down (by rw [Array.getElem?_toList]; exact h2) fun e he hb => h3 e (by simpa using he) hb⟩ fun a' w' hm' => ?_
      rw [hadd] at hm'
      refine ih _ _ _ (by simpa using hsz) ?_ hm'
      have := left_step (f := fun i => listed.getD i false) (g := fun i => (listed.setIfInBounds j true).getD i false) (n := ops.size) (j := j) hu (by simp [hl]) (fun i hi => getD_set_ne false (Ne.symm hi))
      rw [if_pos hlt] at this
      omega

/-- A region whose order is open. -/
theorem evD_snd {k : St → Option R} {r : R} {st : St} {a : Act} {w : World} {id : Nat} (hm : P.follows .mixedOrders = true) (hE : EnvOk P G E) (hG : G.le F0) (hnt : E.nt = nt) (hdata : dataOk (obits ops.toList []) ops.toList = true)
    (hQ : ∀ st a w, Inv P nt F0 w0 st a w → k st = some r → Q .normal a w) (hi : Inv P nt F0 w0 st a w) (he : evD E ops.toList (obits ops.toList []) ops.toList 0 [] st k = some r) : (Code.region id ops true).wp P Q a w := by
  refine wp_region_any hm ?_
  obtain ⟨S, V, D, h1, h2, h3, h4, h5, h6⟩ := evD_trace ops.toList 0 [] st he
  have g : Reg E ops.toList (obits ops.toList []) S V D := ⟨hdata, rfl, h3, fun i o hi => by have := h4 i o hi; simpa using this, fun i i' hii hl => by have := h6 i i' hii hl; simpa using this⟩
  obtain ⟨m, F, hrel⟩ := hi
  rw [Nat.zero_add] at h2
  refine g.any hE hG hnt (fun a w hi => hQ _ a w hi h2) ops.size _ a _ (by simp) ?_ ?_
  · rw [left_none]
    · exact Nat.le_refl _
    · intro i hi; simp [hi]
  · refine ⟨fun j hj hdj => ?_, 0, Nat.zero_le _, fun i hi _ => ?_, (S 0).fr, m, F, ?_, fun i o d hi hdi => ?_, fun t _ => rfl⟩
    · have : j < ops.size := hj
      simp [this] at hdj
    · have : i < ops.size := hi
      simp [this]
    · rw [h1]; exact hrel.drew
    · have : i < ops.size := (List.getElem?_eq_some_iff.1 hi).1
      simp [this] at hdi
end
end Go.Ev

/-! What is left behind at a loop's head. -/
namespace Go.Ev
open Go.RowKit
set_option linter.unusedSimpArgs false
set_option linter.unusedVariables false

theorem idxOf_spec : ∀ {l : List Nat} {i : Nat}, i ∈ l → l[idxOf l i]? = some i
  | x :: l, i, h => by
    by_cases e : x = i
    · subst e; simp [idxOf, beq_self]
    · have hm : i ∈ l := by
        rcases List.mem_cons.1 h with h | h
        · exact absurd h.symm e
        · exact h
      simp only [idxOf, beq_ne e, cond_false, List.getElem?_cons_succ]
      exact idxOf_spec hm
theorem nodupN_spec : ∀ {l : List Nat}, nodupN l = true → ∀ (i j x : Nat), l[i]? = some x → l[j]? = some x → i = j
  | [], _, i, _, x, hi, _ => by simp at hi
  | y :: l, h, i, j, x, hi, hj => by
    simp only [nodupN, Bool.and_eq_true, Bool.not_eq_true'] at h
    have hno : ∀ k, l[k]? ≠ some y := fun k hk => by
      have := memN_iff.2 (List.mem_of_getElem? hk)
      rw [h.1] at this; cases this
    cases i with
    | zero =>
      simp only [List.getElem?_cons_zero, Option.some.injEq] at hi
      subst hi
      cases j with
      | zero => rfl
      | succ j => exact absurd (by simpa using hj) (hno j)
    | succ i =>
      cases j with
      | zero =>
        simp only [List.getElem?_cons_zero, Option.some.injEq] at hj
        subst hj
        exact absurd (by simpa using hi) (hno i)
      | succ j =>
        rw [nodupN_spec h.2 i j x (by simpa using hi) (by simpa using hj)]

section
variable {P : Program} {nt : Nat} {F0 F : FH} {w0 w : World} {st : St} {m : MM} {a : Act}

theorem gcWith_snd (l : List Nat) (hi : Inv P nt F0 w0 st a w) : Inv P nt F0 w0 (gcWith l st) a w := by
  unfold gcWith
  cases hc : (nodupN l && (st.fr.all (fun p => p.2.okG l) && l.all fun i => match atN st.h i with | some o => o.okG l | none => true)) with
  | false => exact hi
  | true =>
    simp only [Bool.and_eq_true] at hc
    obtain ⟨h1, h2, h3⟩ := hc
    obtain ⟨m, F, h⟩ := hi
    refine ⟨fun j => (l[j]?).bind m, F, ?_⟩
    have hR : ∀ i, i ∈ l → ∀ o, atN st.h i = some o → atN (l.map fun i => ((atN st.h i).getD .gone).ren l) (idxOf l i) = some (o.rn (idxOf l)) ∧ (l[idxOf l i]?).bind m = m i := by
      intro i hil o ho
      have := idxOf_spec hil
      refine ⟨?_, by rw [this]; rfl⟩
      rw [atN_eq, List.getElem?_map, this, Option.map_some, ho, Option.getD_some, Obj.ren_rn]
    have hV : ∀ {v : AV} {u : Value}, v.okG l = true → RelV1 P st.h m F v u → RelV1 P (l.map fun i => ((atN st.h i).getD .gone).ren l) (fun j => (l[j]?).bind m) F (v.ren l) u := by
      intro v u hv hr
      rw [AV.ren_rn]
      refine hr.rn fun i hi o ho => hR i ?_ o ho
      cases v <;> simp only [AV.has] at hi <;> first | (cases hi; done) | exact hr.elim | (rw [← Nat.eq_of_beq_eq_true hi]; exact memN_iff.1 hv)
    refine ⟨h.nt, fun t v ht => ?_, fun j u hu => ?_, fun i j b n n' hi hj => ?_, fun j b n hj => ?_, h.fok, h.gro, h.bel, h.dfr⟩
    · simp only [cond_true] at ht
      rw [look_map] at ht
      obtain ⟨x, hx, rfl⟩ := Option.map_eq_some_iff.1 ht
      have hmem : ∀ (fr : List (Nat × AV)), look fr t = some x → ∃ p ∈ fr, p.2 = x := by
        intro fr
        induction fr with
        | nil => intro h; simp [look] at h
        | cons p fr ih =>
          intro h
          obtain ⟨k, y⟩ := p
          simp only [look] at h
          cases hb : Nat.beq k t with
          | true => rw [hb] at h; simp only [cond_true, Option.some.injEq] at h; exact ⟨(k, y), by simp, h⟩
          | false => rw [hb] at h; obtain ⟨p, hp, e⟩ := ih h; exact ⟨p, by simp [hp], e⟩
      obtain ⟨p, hp, rfl⟩ := hmem _ hx
      have hok := List.all_eq_true.1 h2 p hp
      have hr := h.fr t p.2 hx
      simp only [cond_true]
      cases hpv : p.2 with
      | tup vs =>
        rw [hpv] at hok hr
        exact RelV.pure (h := st.h) (m := m) hok hr
      | _ =>
        rw [hpv] at hok hr
        rw [RelV.eq1 (by intro vs e; cases e)] at hr
        refine RelV.of1 ?_
        exact hV hok hr
    · simp only [cond_true] at hu ⊢
      rw [atN_eq, List.getElem?_map] at hu
      obtain ⟨i, hi, rfl⟩ := Option.map_eq_some_iff.1 hu
      have hok := List.all_eq_true.1 h3 i (List.mem_of_getElem? hi)
      cases ho : atN st.h i with
      | none => rw [Option.getD_none]; trivial
      | some o =>
        rw [ho] at hok
        rw [Option.getD_some, Obj.ren_rn]
        refine (h.obs i o ho).rn (fun v f e i' hi' o' ho' => hR i' ?_ o' ho') (by simp only [hi, Option.bind_some])
        subst e
        simp only [Obj.okG] at hok
        cases v <;> simp only [AV.has] at hi' <;> first | (cases hi'; done) | (rw [← Nat.eq_of_beq_eq_true hi']; exact memN_iff.1 hok) | skip
        have := h.obs i _ ho
        obtain ⟨_, _, _, _, _, _, _, h5, _⟩ := this
        exact h5.elim
    · obtain ⟨x, hx, hi⟩ := Option.bind_eq_some_iff.1 hi
      obtain ⟨y, hy, hj⟩ := Option.bind_eq_some_iff.1 hj
      have := h.inj _ _ _ _ _ hi hj
      subst this
      exact nodupN_spec h1 i j x hx hy
    · obtain ⟨x, hx, hj⟩ := Option.bind_eq_some_iff.1 hj
      have := h.rng _ _ _ hj
      refine ⟨?_, this.2⟩
      simp only [cond_true, List.length_map]
      exact (List.getElem?_eq_some_iff.1 hx).1

theorem gc_snd (hi : Inv P nt F0 w0 st a w) : Inv P nt F0 w0 (St.gc st) a w := gcWith_snd _ hi
theorem mask_snd (live : Nat) (hi : Inv P nt F0 w0 st a w) : Inv P nt F0 w0 ⟨mask live st.fr, st.h⟩ a w := by
  obtain ⟨m, F, h⟩ := hi
  exact ⟨m, F, h.frames fun t v ht => look_filter (fun t => Nat.testBit live t) st.fr t v ht⟩
end
end Go.Ev

/-! Code. -/
namespace Go.Ev
open Go.RowKit
set_option linter.unusedSimpArgs false
set_option linter.unusedVariables false

def Ex.of : Ex → Exit
  | .normal => .normal
  | .exit id => .exit id
  | .ret => .ret

section
variable {P : Program} {nt : Nat} {F0 G : FH} {w0 w : World} {E : Env} {R : Type} {a : Act} {Q : Exit → Act → World → Prop}

theorem least_of {p : Nat → Prop} (h : ∃ n, p n) : ∃ n, p n ∧ ∀ m, p m → n ≤ m := by
  obtain ⟨n, hn⟩ := h
  induction n using Nat.strongRecOn with
  | _ n ih =>
    by_cases hm : ∃ m, m < n ∧ p m
    · obtain ⟨m, h1, h2⟩ := hm
      exact ih m h1 h2
    · refine ⟨n, hn, fun m h => ?_⟩
      rcases Nat.lt_or_ge m n with h1 | h1
      · exact absurd ⟨m, h1, h⟩ hm
      · exact h1

open Classical in
/-- The least count that a loop's head may stand at. -/
noncomputable def leastOf (X : Nat → Act → World → Prop) (a : Act) (w : World) : Nat := if h : ∃ n, X n a w then Classical.choose (least_of h) else 0

/-- A loop whose rounds are counted down. -/
theorem wp_rounds {c : Code} (X : Nat → Act → World → Prop) (round : ∀ n a w, X n a w → c.wp P (Exit.then (fun a' w' => ∃ m, m < n ∧ X m a' w') Q) a w) {n : Nat} (h : X n a w) : (Code.loop c).wp P Q a w := by
  have hspec : ∀ {a : Act} {w : World}, (∃ n, X n a w) → X (leastOf X a w) a w ∧ ∀ m, X m a w → leastOf X a w ≤ m := by
    intro a w h
    unfold leastOf
    rw [dif_pos h]
    exact Classical.choose_spec (least_of h)
  refine wp_loop (fun a w => ∃ n, X n a w) (leastOf X) ⟨n, h⟩ fun a w hI => ?_
  refine wp_mono (round _ a w (hspec hI).1) fun e a' w' hq => ?_
  cases e with
  | normal =>
    obtain ⟨m, h1, h2⟩ := hq
    exact ⟨⟨m, h2⟩, Nat.lt_of_le_of_lt ((hspec ⟨m, h2⟩).2 m h2) h1⟩
  | _ => exact hq

/-- What a continuation that comes to r is to say. -/
def Goes (P : Program) (nt : Nat) (F0 : FH) (w0 : World) (k : Ex → St → Option R) (r : R) (Q : Exit → Act → World → Prop) : Prop :=
  ∀ e st a w, Inv P nt F0 w0 st a w → k e st = some r → Q e.of a w

theorem evC_snd (hm : P.follows .mixedOrders = true) (hE : EnvOk P G E) (hG : G.le F0) (hnt : E.nt = nt) {K fin : Nat} {r : R} :
    ∀ (c : Code) {lx : Nat → Nat} {ln : Nat} {k : Ex → St → Option R} {st : St} {a : Act} {w : World} {Q : Exit → Act → World → Prop}, Goes P nt F0 w0 k r Q → Inv P nt F0 w0 st a w → evC E K fin c lx ln k st = some r → c.wp P Q a w := by
  intro c
  induction c with
  | skip => intro lx ln k st a w Q hQ hi he; exact wp_skip (hQ .normal _ _ _ hi he)
  | label l => intro lx ln k st a w Q hQ hi he; exact wp_label (hQ .normal _ _ _ hi he)
  | exit id => intro lx ln k st a w Q hQ hi he; exact wp_exit (hQ (.exit id) _ _ _ hi he)
  | ret => intro lx ln k st a w Q hQ hi he; exact wp_ret (hQ .ret _ _ _ hi he)
  | region id ops d =>
    intro lx ln k st a w Q hQ hi he
    simp only [evC] at he
    cases d with
    | true =>
      simp only [cond_true] at he
      obtain ⟨h1, h2⟩ := cond_some he
      exact evD_snd hm hE hG hnt h1 (fun st a w hi hk => hQ .normal _ _ _ hi hk) hi h2
    | false =>
      simp only [cond_false] at he
      refine wp_region ?_
      have := evOps_snd (Q := Q) hE hG hnt (fun st a w hi hk => hQ .normal _ _ _ hi hk) ops.toList [] st a w rfl hi he
      rw [List.range_eq_range']
      exact this
  | seq x y ihx ihy =>
    intro lx ln k st a w Q hQ hi he
    simp only [evC] at he
    refine wp_seq (ihx ?_ hi he)
    intro e st a w hi hk
    cases e with
    | normal => exact ihy hQ hi hk
    | exit id => exact hQ (.exit id) _ _ _ hi hk
    | ret => exact hQ .ret _ _ _ hi hk
  | cond c x y ihx ihy =>
    intro lx ln k st a w Q hQ hi he
    simp only [evC] at he
    split at he
    · rename_i t hc
      obtain ⟨m, F, h⟩ := id hi
      have hb := (rd_spec hE hG h hc).bool
      cases ht : (show Bool from t) with
      | true =>
        have ht' : t = true := ht
        subst ht'
        exact wp_cond_true hb (ihx hQ hi he)
      | false =>
        have ht' : t = false := ht
        subst ht'
        exact wp_cond_false hb (ihy hQ hi he)
    · cases he
  | block id b ih =>
    intro lx ln k st a w Q hQ hi he
    simp only [evC] at he
    refine wp_block (ih ?_ hi he)
    intro e st a w hi hk
    cases e with
    | normal => exact hQ .normal _ _ _ hi hk
    | exit id' =>
      simp only [Ex.of, Exit.inBlock]
      by_cases e : id' = id
      · subst e
        rw [if_pos rfl]
        simp only [beq_self, cond_true] at hk
        exact hQ .normal _ _ _ hi hk
      · rw [if_neg e]
        simp only [beq_ne e, cond_false] at hk
        exact hQ (.exit id') _ _ _ hi hk
    | ret => exact hQ .ret _ _ _ hi hk
  | loop b ih =>
    intro lx ln k st a w Q hQ hi he
    simp only [evC] at he
    refine wp_rounds (fun n a w => ∃ st, Inv P nt F0 w0 st a w ∧ loopN (lv fin (.loop b) lx ln) (evC E K fin b lx (lv fin (.loop b) lx ln)) k n st = some r) ?_ ⟨_, gc_snd (mask_snd _ hi), he⟩
    rintro n a w ⟨st, hi, he⟩
    cases n with
    | zero => cases he
    | succ n =>
      simp only [loopN] at he
      refine ih ?_ hi he
      intro e st a w hi hk
      cases e with
      | normal => exact ⟨n, Nat.lt_succ_self n, _, gc_snd (mask_snd _ hi), hk⟩
      | exit id => exact hQ (.exit id) _ _ _ hi hk
      | ret => exact hQ .ret _ _ _ hi hk
  | scope b ih =>
    intro lx ln k st a w Q hQ hi he
    simp only [evC] at he
    refine wp_scope_straight (ih ?_ hi he)
    intro e st a w hi hk
    cases e with
    | normal => exact hQ .normal _ _ _ hi hk
    | exit id => exact hQ (.exit id) _ _ _ hi hk
    | ret => exact hQ .ret _ _ _ hi hk
  | _ => intro lx ln k st a w Q hQ hi he; simp [evC] at he
end
end Go.Ev

/-! Functions. -/
namespace Go.Ev
open Go.RowKit
set_option linter.unusedSimpArgs false
set_option linter.unusedVariables false

section
variable {P : Program} {nt : Nat} {F0 F G : FH} {w0 w : World} {st st' : St} {m : MM} {a : Act} {E : Env} {v : AV} {u : Value}

theorem look_params : ∀ {τ : Ty} {x : τ.I} {i t : Nat} {v : AV} {vs : List Value}, look (params τ x i) t = some v → RepA P F τ x vs → i ≤ t ∧ ∃ σ y u, v = .dat σ y ∧ vs[t - i]? = some u ∧ RepV P F σ y u := by
  intro τ
  induction τ with
  | pair a b _ ihb =>
    rintro x i t v vs h ⟨u, r, rfl, h1, h2, h3⟩
    simp only [params] at h
    by_cases e : i = t
    · subst e
      simp only [look, beq_self, cond_true, Option.some.injEq] at h
      exact ⟨Nat.le_refl _, a, x.1, u, h.symm, by simp, h1, h2⟩
    · simp only [look, beq_ne e, cond_false] at h
      obtain ⟨g1, σ, y, u', g2, g3, g4⟩ := ihb h h3
      refine ⟨by omega, σ, y, u', g2, ?_, g4⟩
      rw [show t - i = (t - (i + 1)) + 1 by omega, List.getElem?_cons_succ]
      exact g3
  | _ => intro x i t v vs h; simp [params, look] at h

/-- A call begins. -/
theorem Rel.enter {τ : Ty} {x : τ.I} {vs : List Value} (hk : F0.ok w) (hr : RepA P F0 τ x vs) (n : Nat) :
    Rel P n F0 w ⟨params τ x 0, []⟩ (fun _ => none) F0 { tmps := vs.toArray ++ Array.replicate (n - vs.toArray.size) undef, defers := [] } w := by
  refine ⟨by simp; omega, fun t v ht => ?_, fun i o ho => (by simp [atN] at ho), fun _ _ _ _ _ h => (nomatch h), fun _ _ _ h => (nomatch h), hk, ⟨.refl F0, fun _ _ => rfl⟩, ⟨rfl, rfl, rfl, Nat.le_refl _, fun _ _ => rfl⟩, rfl⟩
  obtain ⟨_, σ, y, u, rfl, h2, h3⟩ := look_params ht hr
  rw [Nat.sub_zero] at h2
  have hlt := (List.getElem?_eq_some_iff.1 h2).1
  have : (vs.toArray ++ Array.replicate (n - vs.toArray.size) undef).getD t undef = u := by
    rw [Array.getD_eq_getD_getElem?, Array.getElem?_append_left (by simpa using hlt)]
    simp [h2]
  rw [this]
  exact h3

/-- One result. -/
def resOne (tmps : Array Value) : ResultVar → Sem Value
  | .tmp t => pure (tmps.getD t undef)
  | .cell a t => do loadVar t (← asAddr (tmps.getD a undef))
theorem results_eq (fn : Func) (tmps : Array Value) : results fn tmps = (do let vs ← fn.results.mapM (resOne tmps); pure (if h : vs.size = 1 then vs[0] else .tuple vs)) := rfl

/-- What a result variable holds. -/
theorem resAV_run {rv : ResultVar} (hE : EnvOk P G E) (h : Rel P nt F0 w0 st m F a w) (hr : resAV E st rv = some v) :
    ∃ u, (resOne a.tmps rv).run P w = .ok u w ∧ RelV P st.h m F v u := by
  cases rv with
  | tmp t => exact ⟨_, rfl, h.fr t v hr⟩
  | cell d t =>
    simp only [resAV] at hr
    split at hr
    · rename_i id hl
      have hx := h.fr d _ hl
      have key : ∀ (y : AV) (f : Bool), atN st.h id = some (.bx y f) → evLoad E t (.bp id []) st pk = some (v, st) →
          ∃ u, (resOne a.tmps (.cell d t)).run P w = .ok u w ∧ RelV P st.h m F v u := by
        intro y f ho he
        obtain ⟨u, h1, _, h2⟩ := evLoad_snd hE h hx he
        obtain ⟨b, n, o, off, _, _, hp, _⟩ := hx.bpAt ho
        refine ⟨u, ?_, h2⟩
        simp only [resOne]
        rw [hp] at h1 ⊢
        simpa [Instr.loadAt, Instr.sureAddr, asAddr] using h1
      split at hr
      · rename_i τ x f ho
        obtain ⟨h1, h2⟩ := cond_some hr
        cases h2
        refine key _ _ ho ?_
        simp only [evLoad, ho, getP, h1, cond_true]
        unfold kAV
        split
        · have : ∀ b : Bool, kB b st pk = some (.dat .bool b, st) := fun b => by cases b <;> rfl
          rename_i b hq
          cases hq
          exact this b
        · rfl
      · rename_i y f hnd ho
        obtain ⟨h1, h2⟩ := cond_some hr
        cases h2
        refine key _ _ ho ?_
        simp only [evLoad, ho]
        cases v <;> first | (simp only [h1, cond_true]; done) | exact absurd rfl (hnd _ _)
      · cases hr
    · cases hr

theorem run_results {f : Func} {vs : List AV} (hE : EnvOk P G E) (h : Rel P nt F0 w0 st m F a w) (hr : f.results.toList.map (resAV E st) = vs.map some) :
    ∃ us, (results f a.tmps).run P w = .ok (unTup us) w ∧ RelVs P st.h m F vs us := by
  have key : ∀ (l : List ResultVar) (vs : List AV), l.map (resAV E st) = vs.map some → ∃ us : List Value, (l.mapM (resOne a.tmps)).run P w = .ok us w ∧ RelVs P st.h m F vs us := by
    intro l
    induction l with
    | nil =>
      intro vs h
      cases vs with
      | nil => exact ⟨[], by simp, rfl⟩
      | cons _ _ => simp at h
    | cons rv l ih =>
      intro vs hl
      cases vs with
      | nil => simp at hl
      | cons v vs =>
        simp only [List.map_cons, List.cons.injEq] at hl
        obtain ⟨us, h1, h2⟩ := ih vs hl.2
        obtain ⟨u, h3, h4⟩ := resAV_run hE h hl.1
        refine ⟨u :: us, ?_, u, us, rfl, h4, h2⟩
        simp only [List.mapM_cons, Sem.run_bind]
        rw [h3]
        simp only [Result.andThen_ok, h1, Sem.run_pure]
  obtain ⟨us, h1, h2⟩ := key _ _ hr
  refine ⟨us, ?_, h2⟩
  rw [results_eq, Array.mapM_eq_mapM_toList, ← bind_pure_comp]
  simp only [Sem.run_bind, h1, Result.andThen_ok, Sem.run_pure]
  match us with
  | [] => rfl
  | [u] => rfl
  | u :: v :: us => rfl

theorem filterMap_all {α : Type} : ∀ {l : List (Option α)}, l.all Option.isSome = true → l = (l.filterMap id).map some
  | [], _ => rfl
  | none :: l, h => by simp at h
  | some x :: l, h => by
    simp only [List.all_cons, Option.isSome_some, Bool.true_and] at h
    simp only [List.filterMap_cons, id, List.map_cons, ← filterMap_all h]

/-- What a function comes to, it comes to. -/
theorem evF_calls (hm : P.follows .mixedOrders = true) (hE : EnvOk P G E) {fi : FuncId} {f : Func} (hf : P.funcs[fi]? = some f) {K : Nat} {a r : Ty} {x : a.I} {y : r.I} (he : evF E K f a r x = some y)
    {F0 : FH} {w : World} {vs : List Value} (hG : G.le F0) (hk : F0.ok w) (hr : RepA P F0 a x vs) :
    Calls P fi vs.toArray w fun e w' => ∃ us F', e = .returned (unTup us) ∧ Below w.heap.size w w' ∧ F0.grow F' w.heap.size ∧ F'.ok w' ∧ RepA P F' r y us := by
  unfold evF at he
  cases hb : f.body with
  | none => rw [hb] at he; cases he
  | some c =>
    rw [hb] at he
    simp only at he
    have hE' : EnvOk P G { E with nt := f.ntmps } := ⟨hE.types, hE.funs, hE.glob⟩
    refine calls_of_wp hf hb ?_
    refine evC_snd (nt := f.ntmps) (F0 := F0) (w0 := w) hm hE' hG rfl c (r := y) ?_ ⟨_, F0, Rel.enter hk hr f.ntmps⟩ he
    rintro e st a' w' ⟨m, F, h⟩ hfin
    have hdone : ∀ {st : St} {m : MM} {F : FH}, Rel P f.ntmps F0 w st m F a' w' → (cond ((f.results.toList.map (resAV { E with nt := f.ntmps } st)).all Option.isSome) (match packAs false r ((f.results.toList.map (resAV { E with nt := f.ntmps } st)).filterMap id) st with | some p => some p.1 | none => none) none) = some y →
        a'.defers = [] ∧ ∃ v, (results f a'.tmps).run P w' = .ok v w' ∧ ∃ us F', Ending.returned v = .returned (unTup us) ∧ Below w.heap.size w w' ∧ F0.grow F' w.heap.size ∧ F'.ok w' ∧ RepA P F' r y us := by
      intro st m F h hfin
      obtain ⟨h1, h2⟩ := cond_some hfin
      obtain ⟨us, h3, h4⟩ := run_results hE' h (filterMap_all h1)
      split at h2
      · rename_i p hp
        cases h2
        obtain ⟨F', h5, h6, h7, _⟩ := packAs_spec (x := p.1) (st' := p.2) hp h h4
        exact ⟨h.dfr, _, h3, us, F', rfl, h6.bel, h6.gro, h6.fok, h7⟩
      · cases h2
    cases e with
    | normal => exact hdone h hfin
    | ret => exact hdone h hfin
    | exit id => cases hfin
end
end Go.Ev

/-! From a reading of arguments to typed values. -/
namespace Go.Ev
open Go.RowKit Go.ChangeShapes
set_option linter.unusedSimpArgs false
set_option linter.unusedVariables false

/-- All blocks of a world. -/
def FH.of (w : World) : FH := fun k => match w.heap[k]? with | some (.cells c _ _) => some c | _ => none
theorem FH.of_ok (w : World) : (FH.of w).ok w := fun k c h => by
  unfold FH.of at h
  split at h
  · rename_i c' el fz hk; cases h; exact ⟨el, fz, hk⟩
  · cases h

/-- What a value that was read is: numbers in range, lengths in bounds. -/
def InR : (τ : Ty) → τ.I → Prop
  | .int k, n => (Lit.int k n).wf = true
  | .str, s => ByteArray.size s ≤ maxLen
  | .pair a b, x => InR a x.1 ∧ InR b x.2
  | .st a, x => InR a x
  | .arr n a, xs => List.length xs = n ∧ ∀ x ∈ (show List a.I from xs), InR a x
  | .sl a, xs => List.length xs ≤ maxLen ∧ ∀ x ∈ (show List a.I from xs), InR a x
  | _, _ => True

/-- Types of plain data. -/
def Ty.data : Ty → Bool
  | .bool | .int _ | .str | .unit => true
  | .pair a b => a.data && b.data
  | .st a => a.data
  | .arr _ a => a.data
  | .sl a => a.data
  | _ => false

section
variable {P : Program} {H : Type} {enc : TypeId × Value → H} {w : World} {base : Nat} {sp : Nat → Bool} {held : Bool}

theorem spot_add {a : Addr} {j : Nat} {v : Value} (h : w.cell? (a.add j) = some v) (h0 : a.spot = none ∨ j = 0) : a.spot = none ∧ ∃ c el fz, w.heap[a.block]? = some (.cells c el fz) ∧ c[a.off + j]? = some v := by
  have hs : a.spot = none := by
    rcases h0 with h0 | rfl
    · exact h0
    · have : a.add 0 = a := by unfold Addr.add; rfl
      rw [this] at h
      unfold World.cell? at h
      split at h
      · cases hsp : a.spot with
        | none => rfl
        | some x => rw [hsp] at h; simp at h
      · cases h
  refine ⟨hs, ?_⟩
  rw [add_spot hs] at h
  unfold World.cell? at h
  simp only at h
  split at h
  · rename_i c el fz hk
    exact ⟨c, el, fz, hk, by simpa using h⟩
  · cases h

theorem cells_at {a : Addr} {n : Nat} {cs : List Value} (h : w.cells? base a n = some cs) (hn : 0 < n) : ∃ c, FH.of w a.block = some c ∧ a.spot = none ∧ ∀ (j : Nat) (v : Value), cs[j]? = some v → c[a.off + j]? = some v := by
  obtain ⟨hb, hl, hc⟩ := World.cells?_some h
  have h0 := hc 0 hn
  rw [List.getElem?_eq_getElem (by omega)] at h0
  obtain ⟨hs, c, el, fz, hk, _⟩ := spot_add h0 (.inr rfl)
  refine ⟨c, by simp [FH.of, hk], hs, fun j v hv => ?_⟩
  have hj := (List.getElem?_eq_some_iff.1 hv).1
  have := hc j (by omega)
  rw [hv] at this
  obtain ⟨_, c', _, _, hk', h2⟩ := spot_add this (.inl hs)
  rw [hk] at hk'
  cases hk'
  exact h2

/-- Rows of cells, one behind the other. -/
theorem rows_at {ad : Addr} {n : Nat} (hn : 0 < n) {c : Array Value} (hs : ad.spot = none) (hc : FH.of w ad.block = some c) : ∀ (m i0 : Nat) (css : List (List Value)), ((List.range' i0 m).mapM fun i => w.cells? base (ad.add (i * n)) n) = some css →
    ∀ (j : Nat) (v : Value), css.flatten[j]? = some v → c[ad.off + i0 * n + j]? = some v
  | 0, i0, css, h, j, v, hj => by simp at h; subst h; simp at hj
  | m + 1, i0, css, h, j, v, hj => by
    rw [List.range'_succ, List.mapM_cons] at h
    simp only [Option.bind_eq_bind, Option.bind_eq_some_iff, Option.pure_def, Option.some.injEq] at h
    obtain ⟨cs, h1, css', h2, rfl⟩ := h
    have hl := (World.cells?_some h1).2.1
    obtain ⟨c', h3, _, h5⟩ := cells_at h1 hn
    rw [add_spot hs] at h3 h5
    simp only at h3 h5
    rw [hc] at h3
    cases h3
    rw [List.flatten_cons] at hj
    by_cases hjn : j < n
    · rw [List.getElem?_append_left (by omega)] at hj
      exact h5 j v hj
    · rw [List.getElem?_append_right (by omega), hl] at hj
      have := rows_at hn hs hc m (i0 + 1) css' h2 (j - n) v hj
      rw [show ad.off + i0 * n + j = ad.off + (i0 + 1) * n + (j - n) by rw [Nat.add_mul]; omega]
      exact this

theorem mapM_rep {α : Type} {R : α → List Value → Prop} {f : Nat → Option (List Value)} {g : List Value → Option (DataW H × List MemPlace)} {I : α → Prop} (hg : ∀ cs y, g cs = some y → ∃ x, R x cs ∧ I x) :
    ∀ (l : List Nat) (ys : List (DataW H × List MemPlace)), (l.mapM fun i => (f i).bind g) = some ys → ∃ (xs : List α) (css : List (List Value)), xs.length = l.length ∧ l.mapM f = some css ∧ RepL R xs css.flatten ∧ ∀ x ∈ xs, I x
  | [], ys, h => ⟨[], [], rfl, rfl, rfl, by simp⟩
  | i :: l, ys, h => by
    rw [List.mapM_cons] at h
    simp only [Option.bind_eq_bind, Option.bind_eq_some_iff, Option.pure_def, Option.some.injEq] at h
    obtain ⟨y, ⟨cs, hcs, hy⟩, ys', h2, rfl⟩ := h
    obtain ⟨x, hx, hI⟩ := hg cs y hy
    obtain ⟨xs, css, h3, h4, h5, h6⟩ := mapM_rep hg l ys' h2
    refine ⟨x :: xs, cs :: css, by simp [h3], ?_, ⟨cs, css.flatten, rfl, hx, h5⟩, ?_⟩
    · rw [List.mapM_cons, hcs, h4]; rfl
    · intro z hz
      rcases List.mem_cons.1 hz with rfl | hz
      · exact hI
      · exact h6 z hz

theorem mapM_le {α β γ : Type} {f : α → Option β} {g : α → Option γ} (hfg : ∀ x y, f x = some y → ∃ z, g x = some z) : ∀ (l : List α) (ys : List β), l.mapM f = some ys → ∃ zs, l.mapM g = some zs
  | [], _, _ => ⟨[], rfl⟩
  | x :: l, ys, h => by
    rw [List.mapM_cons] at h
    simp only [Option.bind_eq_bind, Option.bind_eq_some_iff, Option.pure_def, Option.some.injEq] at h
    obtain ⟨y, h1, ys', h2, _⟩ := h
    obtain ⟨z, hz⟩ := hfg x y h1
    obtain ⟨zs, hzs⟩ := mapM_le hfg l ys' h2
    exact ⟨z :: zs, by rw [List.mapM_cons, hz, hzs]; rfl⟩

theorem take_drop_rows {cs : List Value} {n : Nat} : ∀ (m i0 : Nat) (css : List (List Value)), (i0 + m) * n ≤ cs.length → ((List.range' i0 m).mapM fun i => some ((cs.drop (i * n)).take n)) = some css → css.flatten = (cs.drop (i0 * n)).take (m * n)
  | 0, i0, css, _, h => by simp at h; subst h; simp
  | m + 1, i0, css, hl, h => by
    rw [List.range'_succ, List.mapM_cons] at h
    simp only [Option.bind_eq_bind, Option.bind_some, Option.bind_eq_some_iff, Option.pure_def, Option.some.injEq] at h
    obtain ⟨css', h2, rfl⟩ := h
    have := take_drop_rows m (i0 + 1) css' (by rw [show i0 + 1 + m = i0 + (m + 1) by omega]; exact hl) h2
    rw [List.flatten_cons, this, Nat.add_mul i0 1 n, Nat.one_mul, ← List.drop_drop, show (m + 1) * n = n + m * n by rw [Nat.add_mul]; omega, List.take_add]

theorem trod_rep : ∀ (τ : Ty), τ.data = true →
    (∀ (fuel : Nat) (t : TypeId) (cs : List Value) (x : DataW H × List MemPlace), τ.np = true → TyOk P t τ → DataW.trod enc P w base sp held fuel t cs = some x → ∃ y, Rep P (FH.of w) τ y cs ∧ InR τ y) ∧
    (∀ (fuel : Nat) (fs : List Field) (off : Nat) (cs : List Value) (xs : List (DataW H × List MemPlace)), (tyB P τ).2 fs off = true → (fs.mapM fun f => DataW.trod enc P w base sp held fuel f.type ((cs.drop f.offset).take (P.cellsOf f.type))) = some xs → cs.length = off + nc τ → ∃ y, Rep P (FH.of w) τ y (cs.drop off) ∧ InR τ y) := by
  intro τ
  induction τ with
  | unit =>
    intro _
    refine ⟨fun fuel t cs x _ h => (by cases h), fun fuel fs off cs xs h _ hl => ⟨(), ?_, trivial⟩⟩
    show cs.drop off = []
    rw [List.drop_eq_nil_iff]
    simp only [nc] at hl
    omega
  | bool =>
    intro _
    refine ⟨fun fuel t cs x _ h hx => ?_, fun fuel fs off cs xs h => (by cases h)⟩
    have hu : P.underlying t = some .bool := by
      simp only [TyOk, tyB, Bool.and_eq_true] at h
      have := h.2
      split at this
      · assumption
      · cases this
    cases fuel with
    | zero => simp [DataW.trod] at hx
    | succ fuel =>
      unfold DataW.trod at hx
      rw [hu] at hx
      split at hx <;> first | (cases hx; done) | skip
      all_goals first | exact ⟨_, rfl, trivial⟩ | (rename_i hh; simp at hh)
  | int k =>
    intro _
    refine ⟨fun fuel t cs x _ h hx => ?_, fun fuel fs off cs xs h => (by cases h)⟩
    have hu : P.underlying t = some (.int k) := by
      simp only [TyOk, tyB, Bool.and_eq_true] at h
      have := h.2
      split at this
      · simp only [decide_eq_true_eq] at this; subst this; assumption
      · cases this
    cases fuel with
    | zero => simp [DataW.trod] at hx
    | succ fuel =>
      unfold DataW.trod at hx
      rw [hu] at hx
      split at hx <;> first | (cases hx; done) | skip
      · rename_i hh; cases hh
      · rename_i k1 k2 n hh
        cases hh
        split at hx
        · rename_i hc; obtain ⟨rfl, hw⟩ := hc; exact ⟨n, rfl, hw⟩
        · cases hx
      all_goals (rename_i hh; simp at hh)
  | str =>
    intro _
    refine ⟨fun fuel t cs x _ h hx => ?_, fun fuel fs off cs xs h => (by cases h)⟩
    have hu : P.underlying t = some .string := by
      simp only [TyOk, tyB, Bool.and_eq_true] at h
      have := h.2
      split at this
      · assumption
      · cases this
    cases fuel with
    | zero => simp [DataW.trod] at hx
    | succ fuel =>
      unfold DataW.trod at hx
      rw [hu] at hx
      split at hx <;> first | (cases hx; done) | skip
      all_goals first
        | (rename_i hh; simp at hh; done)
        | (rename_i s hh; split at hx; · rename_i hc; exact ⟨s, rfl, hc⟩
           · cases hx)
        | skip
  | pair a b iha ihb =>
    intro hd
    simp only [Ty.data, Bool.and_eq_true] at hd
    refine ⟨fun fuel t cs x _ h hx => ?_, fun fuel fs off cs xs h hx hl => ?_⟩
    · rename_i hnp; cases hnp
    · cases fs with
      | nil => cases h
      | cons f fs =>
        simp only [tyB, Bool.and_eq_true] at h
        obtain ⟨⟨⟨⟨h1, h2⟩, h3⟩, _⟩, h4⟩ := h
        obtain rfl := Nat.eq_of_beq_eq_true h1
        obtain ⟨i, hi, hsz⟩ := TyOk.size h2 (Ty.np_spec h3.2)
        rw [List.mapM_cons] at hx
        simp only [Option.bind_eq_bind, Option.bind_eq_some_iff, Option.pure_def, Option.some.injEq] at hx
        obtain ⟨x1, hx1, xs2, hx2, _⟩ := hx
        have hcells : P.cellsOf f.type = nc a := by unfold Program.cellsOf; rw [hi]; exact hsz
        rw [hcells] at hx1
        obtain ⟨y1, g1, g2⟩ := (iha hd.1).1 fuel f.type _ x1 h3.2 h2 hx1
        simp only [nc] at hl
        obtain ⟨y2, g3, g4⟩ := (ihb hd.2).2 fuel fs (f.offset + nc a) cs xs2 h4 hx2 (by omega)
        refine ⟨(y1, y2), ⟨_, _, ?_, g1, g3⟩, g2, g4⟩
        rw [← List.drop_drop, List.take_append_drop]
  | st a iha =>
    intro hd
    refine ⟨fun fuel t cs x _ h hx => ?_, fun fuel fs off cs xs h => (by cases h)⟩
    obtain ⟨fs, hu, hf, _⟩ := TyOk.st h
    obtain ⟨i, hi, hsz⟩ := TyOk.size h (by intro a b e; cases e)
    have hcells : P.cellsOf t = nc a := by unfold Program.cellsOf; rw [hi]; exact hsz
    cases fuel with
    | zero => simp [DataW.trod] at hx
    | succ fuel =>
      unfold DataW.trod at hx
      rw [hu] at hx
      simp only at hx
      split at hx
      · rename_i hl
        simp only [Option.map_eq_some_iff] at hx
        obtain ⟨xs, hx, _⟩ := hx
        obtain ⟨y, g1, g2⟩ := (iha hd).2 fuel fs.toList 0 cs xs hf hx (by omega)
        exact ⟨y, g1, g2⟩
      · cases hx
  | arr n a iha =>
    intro hd
    refine ⟨fun fuel t cs x _ h hx => ?_, fun fuel fs off cs xs h => (by cases h)⟩
    obtain ⟨e, hu, he, hpos, hnp, _⟩ := TyOk.arr h
    obtain ⟨i, hi, hsz⟩ := TyOk.size h (by intro a b e; cases e)
    obtain ⟨ie, hie, hsze⟩ := TyOk.size he (Ty.np_spec hnp)
    have hcells : P.cellsOf t = n * nc a := by unfold Program.cellsOf; rw [hi]; exact hsz
    have hcellse : P.cellsOf e = nc a := by unfold Program.cellsOf; rw [hie]; exact hsze
    cases fuel with
    | zero => simp [DataW.trod] at hx
    | succ fuel =>
      unfold DataW.trod at hx
      rw [hu] at hx
      simp only at hx
      split at hx
      · rename_i hl
        simp only [Option.map_eq_some_iff] at hx
        obtain ⟨xs, hx, _⟩ := hx
        rw [hcellse] at hx
        obtain ⟨ys, css, h1, h2, h3, h4⟩ := mapM_rep (f := fun i => some ((cs.drop (i * nc a)).take (nc a))) (g := DataW.trod enc P w base sp held fuel e) (R := Rep P (FH.of w) a) (I := InR a) (fun cs y hy => (iha hd).1 fuel e cs y hnp he hy) (List.range n) xs hx
        rw [List.range_eq_range'] at h2
        have := take_drop_rows n 0 css (by rw [Nat.zero_add]; omega) h2
        rw [this] at h3
        simp only [Nat.zero_mul, List.drop_zero] at h3
        rw [List.take_of_length_le (by omega)] at h3
        refine ⟨ys, ⟨by simpa using h1, h3⟩, by simpa using h1, h4⟩
      · cases hx
  | sl a iha =>
    intro hd
    refine ⟨fun fuel t cs x _ h hx => ?_, fun fuel fs off cs xs h => (by cases h)⟩
    obtain ⟨e, hu, he, hpos, hnp⟩ := TyOk.sl h
    obtain ⟨ie, hie, hsze⟩ := TyOk.size he (Ty.np_spec hnp)
    have hcellse : P.cellsOf e = nc a := by unfold Program.cellsOf; rw [hie]; exact hsze
    cases fuel with
    | zero => simp [DataW.trod] at hx
    | succ fuel =>
      unfold DataW.trod at hx
      rw [hu] at hx
      split at hx <;> first | (cases hx; done) | skip
      all_goals first
        | (rename_i hh; cases hh; done)
        | exact ⟨[], ⟨_, 0, rfl, Nat.le_refl _, fun hne => absurd rfl hne⟩, Nat.zero_le _, fun x hx => by cases hx⟩
        | skip
      rename_i e' ad len cap heq
      simp only [Option.some.injEq, TypeDesc.slice.injEq] at heq
      subst heq
      simp only at hx
      split at hx
      · rename_i hc
        simp only [Option.bind_eq_some_iff] at hx
        obtain ⟨elems, hx, _⟩ := hx
        rw [hcellse] at hx
        obtain ⟨ys, css, h1, h2, h3, h4⟩ := mapM_rep (f := fun i => w.cells? base (ad.add (i * nc a)) (nc a)) (g := DataW.trod enc P w base sp held fuel e) (R := Rep P (FH.of w) a) (I := InR a) (fun cs y hy => (iha hd).1 fuel e cs y hnp he hy) (List.range len) elems hx
        rw [List.length_range] at h1
        refine ⟨ys, ⟨some ad, cap, by rw [h1], by rw [h1]; exact hc.2.1, fun hne => ?_⟩, (show ys.length ≤ maxLen by omega), h4⟩
        have hlen : 0 < len := by
          rw [← h1]
          exact List.length_pos_iff.2 hne
        rw [List.range_eq_range'] at h2
        -- the block
        obtain ⟨m, rfl⟩ : ∃ m, len = m + 1 := ⟨len - 1, by omega⟩
        have h2' := h2
        rw [List.range'_succ, List.mapM_cons] at h2'
        simp only [Option.bind_eq_bind, Option.bind_eq_some_iff, Option.pure_def, Option.some.injEq] at h2'
        obtain ⟨cs0, g1, _⟩ := h2'
        rw [Nat.zero_mul, show ad.add 0 = ad from rfl] at g1
        obtain ⟨c, g2, g3, g4⟩ := cells_at g1 hpos
        refine ⟨ad, css.flatten, rfl, ⟨g3, c, g2, fun j v hv => ?_⟩, h3⟩
        have := rows_at hpos g3 g2 (m + 1) 0 css h2 j v hv
        simpa using this
      · cases hx
  | ptr a => intro hd; cases hd
  | fn a b => intro hd; cases hd

/-- Whether types are a chain's. -/
def tyL (P : Program) : Ty → List TypeId → Bool
  | .unit, [] => true
  | .pair a b, t :: ts => (tyB P a).1 t && a.np && a.data && tyL P b ts
  | _, _ => false

/-- What was read as arguments are typed values. -/
theorem trodAll_rep : ∀ {τ : Ty} {ts : List TypeId} {vs : List Value} {ds : List (DataW H)} {ps : List MemPlace}, tyL P τ ts = true → DataW.TrodAll enc P w base sp held ts vs ds ps → (∀ (j : Nat) (t : TypeId) (v : Value), ts[j]? = some t → vs[j]? = some v → ∃ W r b, Value.okWide P W r b t v) →
    ∃ x, RepA P (FH.of w) τ x vs ∧ InR τ x
  | .unit, [], [], [], ps, _, _, _ => ⟨(), rfl, trivial⟩
  | .pair a b, t :: ts, v :: vs, d :: ds, ps, h, hr, hf => by
    simp only [tyL, Bool.and_eq_true] at h
    obtain ⟨⟨⟨h1, h2⟩, h3⟩, h4⟩ := h
    obtain ⟨p, q, ⟨fuel, h5⟩, h6, _⟩ := hr
    obtain ⟨y, g1, g2⟩ := (trod_rep a h3).1 fuel t v.cells.toList (d, p) h2 h1 h5
    obtain ⟨x, g3, g4⟩ := trodAll_rep h4 h6 fun j t v ht hv => hf (j + 1) t v (by simpa using ht) (by simpa using hv)
    refine ⟨(y, x), ⟨v, vs, rfl, g1, ?_, g3⟩, g2, g4⟩
    obtain ⟨W, r, b0, hform⟩ := hf 0 t v rfl rfl
    obtain ⟨de, hu, hagg⟩ := TyOk.isAgg h1
    unfold Value.okWide at hform
    rw [hu] at hform
    rw [← hagg]
    have hno : ∀ cs, v = .agg cs → Cell.okWide P W r b0 t v → (match de with | .struct _ | .array _ _ => true | _ => false) = false → False := by
      rintro cs rfl hc hde
      unfold Cell.okWide at hc
      rw [hu] at hc
      cases de <;> simp [Cell.ok, hu] at hc hde
    cases de <;> simp only at hform hno ⊢
    case struct => obtain ⟨cs, rfl, _⟩ := hform; rfl
    case array => obtain ⟨cs, rfl, _⟩ := hform; rfl
    all_goals (cases v <;> first | rfl | exact (hno _ rfl hform trivial).elim)
  | .unit, [], [], _ :: _, _, _, h, _ => h.elim
  | .unit, [], _ :: _, _, _, _, h, _ => (by cases h)
  | .unit, _ :: _, _, _, _, h, _, _ => (by cases h)
  | .pair _ _, [], _, _, _, h, _, _ => (by cases h)
  | .pair _ _, _ :: _, [], _, _, _, h, _ => (by cases h)
  | .pair _ _, _ :: _, _ :: _, [], _, _, h, _ => (by cases h)
  | .bool, _, _, _, _, h, _, _ => (by cases h)
  | .int _, _, _, _, _, h, _, _ => (by cases h)
  | .str, _, _, _, _, h, _, _ => (by cases h)
  | .st _, _, _, _, _, h, _, _ => (by cases h)
  | .arr _ _, _, _, _, _, h, _, _ => (by cases h)
  | .sl _, _, _, _, _, h, _, _ => (by cases h)
  | .ptr _, _, _, _, _, h, _, _ => (by cases h)
  | .fn _ _, _, _, _, _, h, _, _ => (by cases h)

/-- Behind a call that left the old blocks alone the arguments read as before. -/
theorem trodAll_below {W W' : World} (hl : laidOutB P = true) (hb : Below W.heap.size W W') : ∀ {ts : List TypeId} {vs : List Value} {ds : List (DataW H)} {ps : List MemPlace},
    (∀ t ∈ ts, P.readableRec t = true ∧ t < P.types.size) → DataW.TrodAll enc P W 0 (fun _ => true) true ts vs ds ps → (∀ x ∈ ps, x.block < W.heap.size) → ∀ s : Nat → Bool, (∀ p ∈ ps, s p.block = true) → DataW.TrodAll enc P W' 0 s true ts vs ds ps
  | [], [], [], ps, _, h, _, s, _ => h
  | t :: ts, v :: vs, d :: ds, ps, ht, ⟨p, q, h1, h2, e⟩, hlt, s, hs => by
    subst e
    have h0 := ht t (by simp)
    refine ⟨p, q, ?_, trodAll_below hl hb (fun t' h' => ht t' (by simp [h'])) h2 (fun x hx => hlt x (by simp [hx])) s (fun x hx => hs x (by simp [hx])), rfl⟩
    exact WideElems.Trod_stays hl h0.1 h0.2 h1 (fun x hx => hb.same (hlt x (by simp [hx]))) (fun x hx => hs x (by simp [hx]))
  | [], [], _ :: _, _, _, h, _, _, _ => h.elim
  | [], _ :: _, _, _, _, h, _, _, _ => h.elim
  | _ :: _, [], _, _, _, h, _, _, _ => h.elim
  | _ :: _, _ :: _, [], _, _, h, _, _, _ => h.elim
end

section
variable {P : Program} {H : Type} {enc : TypeId × Value → H}

/-- A law that comes to true wherever it is called on what can be read. -/
theorem law_contract {fi : FuncId} {f : Func} {a : Ty} {tb : TypeId} {spec : ChangeSpec} {W : World} {base : Nat} {args : Array Value} {ds gs : List (DataW H)} {before : List MemPlace}
    (hl : laidOutB P = true) (hts : ∀ t ∈ f.params.toList, P.readableRec t = true ∧ t < P.types.size) (hty : tyL P a f.params.toList = true) (hres : f.resultTypes = #[tb]) (hbool : P.underlying tb = some .bool) (hvars : spec.vars = [])
    (hfn : ∀ ds : List (DataW H), ds.length = f.params.size → spec.fn H ds = { results := [.lit (.bool true)], args := ds })
    (hval : ∀ (j : Nat) t v, f.params[j]? = some t → args[j]? = some v → Value.okWide P W .any base t v)
    (hW : DataW.Whole enc P f.params.toList spec.vars false W args.toList ds gs before)
    (hcall : ∀ x, InR a x → RepA P (FH.of W) a x args.toList → Calls P fi args W fun e W' => e = .returned (.bool true) ∧ Below W.heap.size W W') :
    Calls P fi args W fun e W' => ∃ v, e = .returned v ∧ spec.post enc P f false true false false W args v W' := by
  have hW' := hW
  obtain ⟨p, q, hA, hV, rfl, hfz, hnd⟩ := hW
  rw [hvars] at hV
  obtain ⟨rfl, rfl⟩ := trodVars_none hV
  have hlt : ∀ x ∈ p, x.block < W.heap.size := fun x hx => by simpa using hW'.lt x (by simp [hx])
  obtain ⟨x, hx, hin⟩ := trodAll_rep (w := W) hty hA fun j t v ht hv => ⟨W, .any, base, hval j t v (by rw [← Array.getElem?_toList]; exact ht) (by rw [← Array.getElem?_toList]; exact hv)⟩
  have hlen : ∀ {ts : List TypeId} {vs : List Value} {ds : List (DataW H)} {ps : List MemPlace}, DataW.TrodAll enc P W 0 (fun _ => true) true ts vs ds ps → ds.length = ts.length := by
    intro ts
    induction ts with
    | nil => intro vs ds ps h; cases vs <;> cases ds <;> first | rfl | exact h.elim
    | cons t ts ih => intro vs ds ps h; cases vs <;> cases ds <;> first | exact h.elim | (obtain ⟨_, _, _, h2, _⟩ := h; simp [ih h2])
  have hfn' := hfn ds (by rw [hlen hA]; simp)
  refine (hcall x hin hx).mono fun e W' ⟨he, hb⟩ => ?_
  subst he
  simp only [List.append_nil] at *
  refine ⟨_, rfl, ds, [], p, [], p, [], hW', ?_, ?_, ?_, hb.frame _, fun h => (by cases h)⟩
  · rw [List.append_nil, hfn', hres]
    exact trodAll_cons_mk (shut_bool hbool _) trodAll_mk0
  · rw [List.append_nil, hfn']
    exact trodAll_below hl hb hts hA hlt _ (fun x hx => by simpa using hlt x hx)
  · rw [List.append_nil, hfn', hvars]
    rfl
end
end Go.Ev

/-! Functions' contracts, one upon the other. -/
namespace Go.Ev
open Go.RowKit
set_option linter.unusedSimpArgs false
set_option linter.unusedVariables false

section
variable {P : Program} {G : FH} {E : Env}

theorem SndF.mk (hm : P.follows .mixedOrders = true) (hE : EnvOk P G E) {fi : FuncId} {f : Func} (hf : P.funcs[fi]? = some f) (hn : (f.name == "runtime.NumGoroutine") = false) (hb : f.body.isNone = false)
    {F : Fun} (hmd : F.md = 0) (h : ∀ x y, F.spec x = some y → ∃ K, evF E K f F.a F.r x = some y) : SndF P G fi F := by
  refine ⟨⟨f, hf, hn, hb⟩, fun x y hy F0 w vs hG hk hr => ?_⟩
  obtain ⟨K, he⟩ := h x y hy
  refine (evF_calls hm hE hf he hG hk hr).mono ?_
  rintro e w' ⟨us, F', h1, h2, h3, h4, h5⟩
  refine ⟨us, F', h1, h2, h3, h4, ?_⟩
  rw [hmd]
  exact h5

theorem EnvOk.nil {types : List (Nat × Ty)} {nt : Nat} (ht : (types.all fun p => (tyB P p.2).1 p.1) = true) {glob : List (Nat × AV)} (hg : ∀ g v, look glob g = some v → ∃ τ x cs, v = .dat (.ptr τ) (some x) ∧ At G ⟨g, 0, none⟩ cs ∧ Rep P G τ x cs) : EnvOk P G ⟨types, [], glob, nt⟩ := by
  refine ⟨fun t τ h => ?_, fun f F h => by simp [look] at h, hg⟩
  have key : ∀ l : List (Nat × Ty), (l.all fun p => (tyB P p.2).1 p.1) = true → look l t = some τ → TyOk P t τ := by
    intro l
    induction l with
    | nil => intro _ h; simp [look] at h
    | cons p l ih =>
      intro h1 h2
      obtain ⟨k, ρ⟩ := p
      simp only [List.all_cons, Bool.and_eq_true] at h1
      simp only [look] at h2
      cases hb : Nat.beq k t with
      | true =>
        rw [hb] at h2
        simp only [cond_true, Option.some.injEq] at h2
        subst h2
        rw [← Nat.eq_of_beq_eq_true hb]
        exact h1.1
      | false => rw [hb] at h2; exact ih h1.2 h2
  exact key types ht h

theorem EnvOk.cons (hE : EnvOk P G E) {fi : FuncId} {F : Fun} (h : SndF P G fi F) : EnvOk P G { E with funs := (fi, F) :: E.funs } := by
  refine ⟨hE.types, fun f F' h' => ?_, hE.glob⟩
  simp only [look] at h'
  cases hb : Nat.beq fi f with
  | true =>
    rw [hb] at h'
    simp only [cond_true, Option.some.injEq] at h'
    subst h'
    rw [← Nat.eq_of_beq_eq_true hb]
    exact h
  | false => rw [hb] at h'; exact hE.funs f F' h'
end

/-- Where the loops are. -/
def loopsAt : Code → List (List Nat)
  | .seq a b => (loopsAt a).map (0 :: ·) ++ (loopsAt b).map (1 :: ·)
  | .cond _ a b => (loopsAt a).map (0 :: ·) ++ (loopsAt b).map (1 :: ·)
  | .block _ b => (loopsAt b).map (0 :: ·)
  | .scope b => (loopsAt b).map (0 :: ·)
  | .loop b => [] :: (loopsAt b).map (0 :: ·)
  | _ => []
end Go.Ev

/-! Loops over lists, in plain Lean. -/
namespace Go.Ev
set_option linter.unusedSimpArgs false
set_option linter.unusedVariables false

/-- A loop over a list: what is done at each element, with what comes after it. -/
def forL {α σ ρ : Type} (body : σ → Int → α → (σ → Option ρ) → Option ρ) (fin : σ → Option ρ) : List α → Int → σ → Option ρ
  | [], _, s => fin s
  | x :: xs, i, s => body s i x fun s' => forL body fin xs (i + 1) s'

theorem wrap_nat {n : Nat} (h : n ≤ Go.maxLen) : IntKind.wrap .i64 (n : Int) = (n : Int) := by
  unfold Go.maxLen at h
  exact IntWalk.i64_in _ (by omega)

theorem for_loop {α σ ρ : Type} {L : Nat → σ → Int → Option ρ} {xs : List α} {d : α} {body : σ → Int → α → (σ → Option ρ) → Option ρ} {fin : σ → Option ρ} (hl : xs.length ≤ Go.maxLen)
    (step : ∀ n s (i : Int), L (n + 1) s i = cond (decide (i < Int.ofNat xs.length)) (cond (decide (0 ≤ i)) (cond (decide (i < (xs.length : Int))) (body s i (xs.getD i.toNat d) fun s' => L n s' (IntKind.wrap .i64 (i + 1))) none) none) (fin s)) :
    ∀ (rest : List α) (i n : Nat) (s : σ), xs.drop i = rest → rest.length < n → L n s (i : Int) = forL body fin rest (i : Int) s := by
  intro rest
  induction rest with
  | nil =>
    intro i n s hd hn
    obtain ⟨m, rfl⟩ : ∃ m, n = m + 1 := ⟨n - 1, by simp at hn; omega⟩
    have : xs.length ≤ i := List.drop_eq_nil_iff.1 hd
    rw [step, decide_eq_false (by simp; omega)]
    rfl
  | cons x rest ih =>
    intro i n s hd hn
    obtain ⟨m, rfl⟩ : ∃ m, n = m + 1 := ⟨n - 1, by simp at hn; omega⟩
    have hi : i < xs.length := by
      rcases Nat.lt_or_ge i xs.length with h | h
      · exact h
      · rw [List.drop_eq_nil_iff.2 h] at hd; cases hd
    have hsplit := List.drop_eq_getElem_cons hi
    rw [hd] at hsplit
    simp only [List.cons.injEq] at hsplit
    have hx : xs.getD i d = x := by simp [hi, hsplit.1]
    have hw : IntKind.wrap .i64 ((i : Int) + 1) = ((i + 1 : Nat) : Int) := by
      rw [show (i : Int) + 1 = ((i + 1 : Nat) : Int) by omega]
      exact wrap_nat (by omega)
    have hi' : decide ((i : Int) < (xs.length : Int)) = true := decide_eq_true (by omega)
    rw [step, decide_eq_true (by simp; omega), decide_eq_true (show (0 : Int) ≤ (i : Int) by omega), Int.toNat_natCast, hx, hw, hi']
    simp only [cond_true, forL]
    congr 1
    funext s'
    rw [ih (i + 1) m s' hsplit.2.symm (by simpa using hn)]
    rfl
theorem for_loop0 {α σ ρ : Type} {L : Nat → σ → Int → Option ρ} {xs : List α} {d : α} {body : σ → Int → α → (σ → Option ρ) → Option ρ} {fin : σ → Option ρ} (hl : xs.length ≤ Go.maxLen)
    (step : ∀ n s (i : Int), L (n + 1) s i = cond (decide (i < Int.ofNat xs.length)) (cond (decide (0 ≤ i)) (cond (decide (i < (xs.length : Int))) (body s i (xs.getD i.toNat d) fun s' => L n s' (IntKind.wrap .i64 (i + 1))) none) none) (fin s)) (s : σ) :
    L (xs.length + 1) s 0 = forL body fin xs 0 s := for_loop hl step xs 0 (xs.length + 1) s rfl (Nat.lt_succ_self _)

/-- The place of the first of which something is so. -/
def idxB {α : Type} (p : α → Bool) : List α → Int → Int
  | [], _ => -1
  | x :: xs, i => cond (p x) i (idxB p xs (i + 1))
theorem forL_idx {α : Type} {g : α → Option (Bool × Unit)} {p : α → Bool} : ∀ (xs : List α) (i : Int), (∀ x ∈ xs, g x = some (p x, ())) →
    forL (σ := Unit) (ρ := Int × Unit) (fun s i x k => (g x).bind fun r => cond r.1 (some (i, ())) (k s)) (fun _ => some (-1, ())) xs i () = some (idxB p xs i, ())
  | [], _, _ => rfl
  | x :: xs, i, h => by
    simp only [forL, idxB]
    rw [h x (by simp), Option.bind_some]
    cases p x with
    | true => rfl
    | false => exact forL_idx xs (i + 1) fun y hy => h y (by simp [hy])
theorem idxB_any {α : Type} {p : α → Bool} : ∀ (xs : List α) (i : Int), 0 ≤ i → decide (idxB p xs i ≥ 0) = xs.any p
  | [], _, _ => rfl
  | x :: xs, i, h => by
    have ih := idxB_any (p := p) xs (i + 1) (by omega)
    simp only [idxB, List.any_cons]
    by_cases hp : p x = true
    · simp [hp, h]
    · simp only [Bool.not_eq_true] at hp
      simp only [hp, cond_false, Bool.false_or]
      exact ih

/-- A loop that counts up. -/
def cntL {σ ρ : Type} (body : σ → Int → (σ → Option ρ) → Option ρ) (fin : σ → Option ρ) : Nat → Int → σ → Option ρ
  | 0, _, s => fin s
  | k + 1, i, s => body s i fun s' => cntL body fin k (i + 1) s'
theorem cnt_loop {σ ρ : Type} {L : Nat → σ → Int → Option ρ} {len : Nat} {body : σ → Int → (σ → Option ρ) → Option ρ} {fin : σ → Option ρ} (hl : len ≤ Go.maxLen)
    (step : ∀ n s (i : Int), L (n + 1) s i = cond (decide (i < (len : Int))) (body s i fun s' => L n s' (IntKind.wrap .i64 (i + 1))) (fin s)) :
    ∀ (k i n : Nat) (s : σ), i + k = len → k < n → L n s (i : Int) = cntL body fin k (i : Int) s := by
  intro k
  induction k with
  | zero =>
    intro i n s hi hn
    obtain ⟨m, rfl⟩ : ∃ m, n = m + 1 := ⟨n - 1, by omega⟩
    rw [step, decide_eq_false (by omega)]
    rfl
  | succ k ih =>
    intro i n s hi hn
    obtain ⟨m, rfl⟩ : ∃ m, n = m + 1 := ⟨n - 1, by omega⟩
    have hw : IntKind.wrap .i64 ((i : Int) + 1) = ((i + 1 : Nat) : Int) := by
      rw [show (i : Int) + 1 = ((i + 1 : Nat) : Int) by omega]
      exact wrap_nat (by omega)
    rw [step, decide_eq_true (by omega), hw]
    simp only [cond_true, cntL]
    congr 1
    funext s'
    rw [ih (i + 1) m s' (by omega) (by omega)]
    rfl
end Go.Ev

/-! Loops over places, in plain Lean. -/
namespace Go.Ev
set_option linter.unusedVariables false

theorem wrapS {i len : Nat} (h : i < len) (hl : len ≤ Go.maxLen) : IntKind.wrap .i64 ((i : Int) + 1) = (i : Int) + 1 := by
  rw [show (i : Int) + 1 = ((i + 1 : Nat) : Int) by omega]
  exact wrap_nat (by omega)
theorem drop_getD {α : Type} {l : List α} {i : Nat} (d : α) (h : i < l.length) : l.drop i = l.getD i d :: l.drop (i + 1) := by
  rw [List.drop_eq_getElem_cons h]
  simp [List.getD, h]
/-- A loop that counts up to a number: what comes of it from a place on. -/
theorem idx_loop {σ ρ : Type} {L : Nat → Int → σ → Option ρ} {len : Nat} (hl : len ≤ Go.maxLen) (F : Nat → σ → Option ρ) (I : Nat → σ → Prop)
    (hstep : ∀ n i s, i < len → I i s → (∀ s', I (i + 1) s' → L n ((i : Int) + 1) s' = F (i + 1) s') → L (n + 1) (i : Int) s = F i s)
    (hend : ∀ n s, I len s → L (n + 1) (len : Int) s = F len s) :
    ∀ (k i n : Nat) (s : σ), i + k = len → k < n → I i s → L n (i : Int) s = F i s := by
  intro k
  induction k with
  | zero =>
    intro i n s hi hn hI
    obtain ⟨m, rfl⟩ : ∃ m, n = m + 1 := ⟨n - 1, by omega⟩
    obtain rfl : i = len := by omega
    exact hend m s hI
  | succ k ih =>
    intro i n s hi hn hI
    obtain ⟨m, rfl⟩ : ∃ m, n = m + 1 := ⟨n - 1, by omega⟩
    refine hstep m i s (by omega) hI fun s' hI' => ?_
    have := ih (i + 1) m s' (by omega) (by omega) hI'
    rw [show (i : Int) + 1 = ((i + 1 : Nat) : Int) by omega]
    exact this
theorem idx_loop0 {σ ρ : Type} {L : Nat → Int → σ → Option ρ} {len : Nat} (hl : len ≤ Go.maxLen) (F : Nat → σ → Option ρ) (I : Nat → σ → Prop)
    (hstep : ∀ n i s, i < len → I i s → (∀ s', I (i + 1) s' → L n ((i : Int) + 1) s' = F (i + 1) s') → L (n + 1) (i : Int) s = F i s)
    (hend : ∀ n s, I len s → L (n + 1) (len : Int) s = F len s) (n : Nat) (hn : len < n) (s : σ) (h0 : I 0 s) : L n 0 s = F 0 s :=
  idx_loop hl F I hstep hend len 0 n s (by omega) hn h0
end Go.Ev
