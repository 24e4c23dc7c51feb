import Derived.Test.YtkcakhbkoeimdaaGreatDoorMdb
import Derived.Orders
import Derived.Scope
set_option linter.unusedSimpArgs false
set_option linter.unusedVariables false
section
namespace Go.Ev
open Go.RowKit
section
variable {P:Program} {nt:Up} {F0 F G:FH} {w0 w:World} {st st':St} {m:MM} {a:Act} {E:Env} {v:AV} {u:Value}
theorem zl0 (hE:EnvOk P G E) (hG:G.le F0) (h:Rel P nt F0 w0 st m F a w) {θ:Nat→Option Ty}:∀ {ps:List (Nat × Operand)},(∀ p ∈ ps,(rd E st (θ p.1) p.2).isSome = true)→zjZ P st.h m F (ps.map fun p=>(p.1,rd E st (θ p.1) p.2)) (ps.map fun p=>(p.1,a.eval p.2))
 | [],_=>rfl
 | (i,x) :: ps,hp=>by
  obtain ⟨v,hv⟩:=Option.isSome_iff_exists.1 (hp (i,x) (by simp))
  simp only [List.map_cons,hv]
  exact ⟨_,_,rfl,zv hE hG h hv,zl0 hE hG h fun p hp'=>hp p (by simp [hp'])⟩
theorem zkk {q:Bool} {b:Ty}:∀ {ps:List (Nat × Option AV)} {vs:List AV} {st:St} {r:List AV × St},zax q b vs ps st = some r→∀ p ∈ ps,p.2.isSome = true
 | [],_,_,_,_,p,hp=>by simp at hp
 | (i,none) :: ps,vs,st,r,he,p,hp=>by simp [zax] at he
 | (i,some v) :: ps,vs,st,r,he,p,hp=>by
  rcases List.mem_cons.1 hp with rfl | hp'
  ·rfl
  ·have dat:(match frz q st v with
    | some ⟨σ,y,st⟩=>cond (zb5 b i σ) (zax q b (zf vs i (.dat σ y)) ps st) none
    | none=>none) = some r→p.2.isSome = true:=by
    intro he
    split at he
    ·obtain ⟨_,he⟩:=zb he
     exact zkk he p hp'
    ·cases he
   cases v with
   | ow j =>
    simp only [zax] at he
    obtain ⟨_,he⟩:=zb he
    exact zkk he p hp'
   | clip σ xs =>
    cases xs with
    | nil =>
     simp only [zax] at he
     obtain ⟨_,he⟩:=zb he
     exact zkk he p hp'
    | cons x xs=>exact dat he
   | _=>exact dat he
theorem zsP {q:Bool}:∀ {ps:List (Nat × Option AV)} {τ:Ty} {x:τ.I} {st:St} {r:τ.I × St},za8 q τ x ps st = some r→∀ p ∈ ps,p.2.isSome = true
 | [],_,_,_,_,_,p,hp=>by simp at hp
 | (i,none) :: ps,τ,x,st,r,he,p,hp=>by cases τ <;> simp [za8] at he
 | (i,some v) :: ps,τ,x,st,r,he,p,hp=>by
  rcases List.mem_cons.1 hp with rfl | hp
  ·rfl
  ·simp only [za8] at he
   split at he
   ·split at he
    ·exact zsP he p hp
    ·cases he
   ·cases he
theorem znv {q:Bool} {τ:Ty}:∀ {ps:List (Nat × Option AV)} {x:List τ.I} {st:St} {r:List τ.I × St},vQ q τ x ps st = some r→∀ p ∈ ps,p.2.isSome = true
 | [],_,_,_,_,p,hp=>by simp at hp
 | (i,none) :: ps,x,st,r,he,p,hp=>by simp [vQ] at he
 | (i,some v) :: ps,x,st,r,he,p,hp=>by
  rcases List.mem_cons.1 hp with rfl | hp
  ·rfl
  ·simp only [vQ] at he
   split at he
   ·obtain ⟨_,he⟩:=zb he
    exact znv he p hp
   ·cases he
theorem zzO (hE:EnvOk P G E) (hG:G.le F0) (h:Rel P nt F0 w0 st m F a w) (x:Option Operand):zkS P st.h m F (x.map (rd E st none)) (x.map a.eval):=by
 cases x with
 | none=>rfl
 | some x =>
  simp only [Option.map_some]
  cases hv:rd E st none x with
  | none=>trivial
  | some v=>exact ⟨_,rfl,zv hE hG h hv⟩
theorem zK {x:Sem Value} {u:Value} {w':World} (h:x.run P w = .ok u w'):(do pure (Next.value (← x)):Sem Next).run P w = .ok (.value u) w':=by
 simp [h]
theorem zDD {x:Sem Unit} {w':World} (h:x.run P w = .ok () w'):(do x; pure Next.skip:Sem Next).run P w = .ok .skip w':=by
 simp [h]
def yK (z:Value) (n:Nat):Array Value:=(Array.range (n * z.cells.size)).map (z.cells[· % z.cells.size]!)
theorem zcO (z:Value) (n:Nat):(yK z n).toList = (List.replicate n z.cells.toList).flatten:=by
 apply List.ext_getElem?
 intro j
 have hl:∀ n:Nat,(List.replicate n z.cells.toList).flatten.length = n * z.cells.size:=by
  intro n; simp
 by_cases hj:j < n * z.cells.size
 ·have hpos:0 < z.cells.size:=by
   rcases Nat.eq_zero_or_pos z.cells.size with h | h
   ·rw [h] at hj; simp at hj
   ·exact h
  have hmod:j % z.cells.size < z.cells.size:=Nat.mod_lt _ hpos
  have key:∀ (n j:Nat),j < n * z.cells.size→(List.replicate n z.cells.toList).flatten[j]? = some (z.cells[j % z.cells.size]'(Nat.mod_lt _ hpos)):=by
   intro n
   induction n with
   | zero=>intro j hj; simp at hj
   | succ n ih =>
    intro j hj
    rw [List.replicate_succ,List.flatten_cons]
    by_cases h1:j < z.cells.size
    ·rw [List.getElem?_append_left (by simpa using h1)]
     simp only [Nat.mod_eq_of_lt h1]
     simp [h1]
    ·rw [List.getElem?_append_right (by simp; omega)]
     have:=ih (j - z.cells.size) (by rw [Nat.add_mul] at hj; omega)
     simp only [Array.length_toList]
     rw [this]
     congr 2
     rw [Nat.mod_eq_sub_mod (by omega:j ≥ z.cells.size)]
  rw [key n j hj]
  simp [yK,hj,hmod]
 ·rw [List.getElem?_eq_none (l:=(List.replicate n z.cells.toList).flatten) (by rw [hl]; omega),List.getElem?_eq_none]
  simp [yK]; omega
theorem zBl {z:Value} {n:Nat} (h:n * z.cells.size = 0):yK z n = #[]:=by
 apply Array.ext'
 rw [zcO]
 apply List.eq_nil_of_length_eq_zero
 simpa using h
theorem zJu (f:Nat→Value):(Array.range 0).map f = #[]:=by
 apply Array.eq_empty_of_size_eq_zero
 simp
theorem zlx {c:Ty} {fs:Array Field} (h:(tyB P c).2 fs.toList 0 = true) :
 ∃ places:Array (Nat × Nat),(fs.mapM (m:=Sem) fun f=>do pure (f.offset,← sizeOf f.type)).run P w = .ok places w ∧ ∀ i o σ,jt c i = some (o,σ)→places[i]? = some (o,nc σ):=by
 have key:∀ (c:Ty) (l:List Field) (off:Nat),(tyB P c).2 l off = true→∃ ps:List (Nat × Nat),(l.mapM (m:=Sem) fun f=>do pure (f.offset,← sizeOf f.type)).run P w = .ok ps w ∧ ∀ i o σ,jt c i = some (o,σ)→ps[i]? = some (off + o,nc σ):=by
  intro c
  induction c with
  | unit =>
   intro l off h
   simp only [tyB,List.isEmpty_iff] at h
   subst h
   exact ⟨[],by simp,fun i o σ hn=>by simp [jt] at hn⟩
  | pair a b _ ihb =>
   intro l off h
   cases l with
   | nil=>cases h
   | cons f l =>
    simp only [tyB,Bool.and_eq_true] at h
    obtain ⟨⟨⟨⟨h1,h2⟩,h3⟩,h4⟩,h5⟩:=h
    obtain ⟨ps,h6,h7⟩:=ihb l _ h5
    obtain ⟨i,hi,hsz⟩:=zY.size h2 (Ty.np_spec h3.2)
    refine ⟨(f.offset,i.size) :: ps,?_,fun j o σ hn=>?_⟩
    ·simp only [List.mapM_cons,Sem.run_bind,z3 hi,Result.andThen_ok,Sem.run_pure,h6]
    ·cases j with
     | zero =>
      simp only [jt,Option.some.injEq,Prod.mk.injEq] at hn
      obtain ⟨rfl,rfl⟩:=hn
      simp [Nat.eq_of_beq_eq_true h1,hsz]
     | succ j =>
      simp only [jt,Option.map_eq_some_iff,Prod.mk.injEq,Prod.exists] at hn
      obtain ⟨o',σ',hn,rfl,rfl⟩:=hn
      have:=h7 j o' σ' hn
      rw [List.getElem?_cons_succ,this,Nat.add_assoc]
  | _=>intro l off h; cases h
 obtain ⟨ps,h1,h2⟩:=key c fs.toList 0 h
 refine ⟨ps.toArray,?_,fun i o σ hn=>by have:=h2 i o σ hn; simpa using this⟩
 rw [Array.mapM_eq_mapM_toList]
 simp only [bind_pure_comp] at h1
 simp [h1]
theorem zHO {add:Bool} {args:Array Operand} (he:znh add (args.toList.map (rd E st none)) st pk = some (v,st')) :
 ∃ (x y:Int) (X Y C:Operand),0 ≤ x ∧ 0 ≤ y ∧ y < 18446744073709551616 ∧ rd E st none X = some (.dat (.int .u64) x) ∧ rd E st none Y = some (.dat (.int .u64) y) ∧ rd E st none C = some (.dat (.int .u64) (0:Int)) ∧ args.toList = [X,Y,C] ∧
  v = .tup [.dat (.int .u64) (extA add x y),.dat (.int .u64) (extB add x y)] ∧ st' = st:=by
 generalize args.toList = l at he
 unfold znh at he
 split at he
 ·rename_i x y c hl
  obtain ⟨h1,he⟩:=zb he
  obtain ⟨h2,he⟩:=zb he
  obtain ⟨h3,he⟩:=zb he
  obtain ⟨h4,he⟩:=zb he
  cases he
  have h4':(c:Int) = 0:=by simpa using h4
  subst h4'
  obtain ⟨X,l,rfl⟩:∃ X l',l = X :: l':=by cases l with | nil=>cases hl | cons X l'=>exact ⟨X,l',rfl⟩
  obtain ⟨Y,l,rfl⟩:∃ X l',l = X :: l':=by cases l with | nil=>simp at hl | cons X l'=>exact ⟨X,l',rfl⟩
  obtain ⟨C,l,rfl⟩:∃ X l',l = X :: l':=by cases l with | nil=>simp at hl | cons X l'=>exact ⟨X,l',rfl⟩
  obtain rfl:l = []:=by cases l with | nil=>rfl | cons X l'=>simp at hl
  simp only [List.map_cons,List.map_nil,List.cons.injEq,and_true] at hl
  exact ⟨x,y,X,Y,C,of_decide_eq_true h1,of_decide_eq_true h2,of_decide_eq_true h3,hl.1,hl.2.1,hl.2.2,rfl,rfl,rfl⟩
 ·cases he
theorem zHP {q:Bool} {dst:Option Tmp} {c:Call} {ty:TypeId} {pos:String} {after:Array Edge} {guard:Option (Nat × Bool)} (hE:EnvOk P G E) (hG:G.le F0) (h:Rel P nt F0 w0 st m F a w)
 (he:zfb q E c st pk = some (v,st')):z8 P ⟨dst,.call c,ty,pos,after,guard⟩ a w (jR P nt F0 w0 st' a F v):=by
 obtain ⟨callee,args,argTypes⟩:=c
 unfold zfb at he
 simp only at he
 split at he
 ·rename_i f
  split at he
  ·rename_i H hf
   obtain ⟨_,he⟩:=qs he
   refine zBj (us:=args.toList.map a.eval) hE hG h hf ?_ (zcN hE hG h (by unfold zfK at he; exact (zb he).1)) he
   have e:(args.toList.map a.eval).toArray = args.map a.eval:=by apply Array.ext'; simp
   rw [e]
   simp only [execOp,resolve,Act.eval,Deferred.ofValue,Sem.run_bind,Sem.run_pure,Result.andThen_ok,invoke,Array.append_empty,Array.empty_append]
   exact zfe (hE.hnd f H hf).1
  split at he
  ·rename_i Fn hf
   refine zzM hE hG h hf (args:=args) ?_ he
   simp only [execOp,resolve,Act.eval,Deferred.ofValue,Sem.run_bind,Sem.run_pure,Result.andThen_ok,invoke,Array.append_empty,Array.empty_append]
   exact zfe (hE.funs f Fn hf).1
  ·split at he
   ·rename_i add hx
    obtain ⟨x,y,X,Y,C,h1,h2,h3,e1,e2,e3,hl,hv,rfl⟩:=zHO he
    have hargs:args.map a.eval = #[.int .u64 x,.int .u64 y,.int .u64 0]:=by
     apply Array.ext'
     simp [hl,(zv hE hG h e1).int,(zv hE hG h e2).int,(zv hE hG h e3).int]
    subst hv
    refine z8.val (w':=w) (u:=.tuple #[.int .u64 (extA add x y),.int .u64 (extB add x y)]) ?_ ⟨m,F,.refl F,h,_,rfl,rfl,fun i u hu=>?_⟩
    ·simp only [execOp,resolve,Act.eval,Deferred.ofValue,Sem.run_bind,Sem.run_pure,Result.andThen_ok,invoke,Array.append_empty,Array.empty_append,hargs]
     exact hE.ext f add hx x y w h1 h2 h3
    ·match i,hu with
     | 0,hu=>cases hu; exact ⟨_,rfl,rfl,rfl⟩
     | 1,hu=>cases hu; exact ⟨_,rfl,rfl,rfl⟩
   ·cases he
 ·rename_i f hnf
  split at he
  ·rename_i τ σ g0 hg
   obtain ⟨g,rfl,he⟩:=Option.bind_eq_some_iff.1 he
   refine zBP hE hG h (zv hE hG h hg) (args:=args) ?_ he
   intro fid first caps hp hent
   simp only [execOp,resolve,hp,Deferred.ofValue,Sem.run_bind,Sem.run_pure,Result.andThen_ok,invoke]
   exact zfe hent
  ·rename_i fi l hg
   split at he
   ·rename_i H hf
    obtain ⟨_,he⟩:=qs he
    obtain ⟨caps,hp,h1,h2⟩:=(show zF P st.h m F (.clo fi l) (a.eval f) from zv hE hG h hg)
    have hall:(args.toList.map (rd E st none)).all Option.isSome = true:=by
     unfold zfK at he
     have:=(zb he).1
     rw [List.all_append,Bool.and_eq_true] at this
     exact this.1
    refine zBj (us:=args.toList.map a.eval ++ caps.toList) hE hG h hf ?_ ?_ he
    ·have e:(args.toList.map a.eval ++ caps.toList).toArray = #[] ++ args.map a.eval ++ caps:=by apply Array.ext'; simp
     rw [e]
     simp only [execOp,resolve,hp,Deferred.ofValue,Sem.run_bind,Sem.run_pure,Result.andThen_ok,invoke]
     exact zfe (hE.hnd fi H hf).1
    ·rw [List.filterMap_append]
     exact jx.append (zcN hE hG h hall) (jx.caps (by simpa using h1) fun i id hi=>by
      obtain ⟨u,hu,hb⟩:=h2 i id hi
      exact ⟨u,by simpa using hu,hb⟩)
   ·cases he
  ·cases he
 ·
  split at he
  ·rename_i x t hx ht
   split at he
   ·rename_i av hav
    obtain ⟨u,h1,rfl,h2⟩:=zBh (ty:=ty) hE h (zv hE hG h hav) ht he
    have hargs:args.map a.eval = #[a.eval x]:=by apply Array.ext'; simp [hx]
    refine z8.val (w':=w) (u:=u) ?_ ⟨m,F,.refl F,h,h2⟩
    simp only [execOp,resolve,Sem.run_bind,Sem.run_pure,Result.andThen_ok,invoke,builtin,hargs]
    simp [h1]
   ·cases he
  ·cases he
 ·
  split at he
  ·rename_i x y t t' hx ht
   split at he
   ·rename_i av au hav hau
    obtain ⟨_,he⟩:=qs he
    obtain ⟨u,w',h1,h2⟩:=zDC (ty:=ty) hE h (zv hE hG h hav) (zv hE hG h hau) ht he
    have hargs:args.map a.eval = #[a.eval x,a.eval y]:=by apply Array.ext'; simp [hx]
    refine z8.val (w':=w') (u:=u) ?_ h2
    simp only [execOp,resolve,Sem.run_bind,Sem.run_pure,Result.andThen_ok,invoke,builtin,hargs]
    simp [h1]
   ·cases he
  ·cases he
 ·
  split at he
  ·rename_i x y hx
   split at he
   ·rename_i k1 n1 k2 n2 hav hau
    obtain ⟨h1,h2⟩:=zb he
    simp only [decide_eq_true_eq] at h1
    subst h1
    cases h2
    have e1:=(zv hE hG h hav).int
    have e2:=(zv hE hG h hau).int
    have hargs:args.map a.eval = #[.int k1 n1,.int k1 n2]:=by apply Array.ext'; simp [hx,e1,e2]
    refine z8.val (w':=w) (u:=.int k1 (if (n1:Int) < n2 then n2 else n1)) ?_ ⟨m,F,.refl F,h,.mkInt⟩
    simp only [execOp,resolve,Sem.run_bind,Sem.run_pure,Result.andThen_ok,invoke,builtin,hargs]
    rfl
   ·cases he
  ·cases he
 ·
  split at he
  ·rename_i x y hx
   split at he
   ·rename_i k1 n1 k2 n2 hav hau
    obtain ⟨h1,h2⟩:=zb he
    simp only [decide_eq_true_eq] at h1
    subst h1
    cases h2
    have e1:=(zv hE hG h hav).int
    have e2:=(zv hE hG h hau).int
    have hargs:args.map a.eval = #[.int k1 n1,.int k1 n2]:=by apply Array.ext'; simp [hx,e1,e2]
    refine z8.val (w':=w) (u:=.int k1 (if (n2:Int) < n1 then n2 else n1)) ?_ ⟨m,F,.refl F,h,.mkInt⟩
    simp only [execOp,resolve,Sem.run_bind,Sem.run_pure,Result.andThen_ok,invoke,builtin,hargs]
    rfl
   ·cases he
  ·cases he
 ·cases he
theorem zxM {x:Operand} {ty:TypeId} (hE:EnvOk P G E) (hG:G.le F0) (h:Rel P nt F0 w0 st m F a w) (he:zaB E x ty st pk = some (v,st')):jR P nt F0 w0 st' a F v (a.eval x) w:=by
 unfold zaB at he
 split at he
 ·rename_i c
  split at he
  ·rename_i av hav
   have hr:=zv hE hG h hav
   unfold zkh at he
   split at he
   ·rename_i τ b hty
    cases he
    obtain ⟨ad,hq,_⟩:=(show zF P st.h m F (.clip τ []) _ from hr)
    obtain ⟨h5,h6,_⟩:=zfP b ad h
    rw [hq]
    exact ⟨m,F,.refl F,h5,h6⟩
   ·cases he
    exact ⟨m,F,.refl F,h,hr⟩
  ·cases he
 ·split at he
  ·rename_i av hav
   cases he
   exact ⟨m,F,.refl F,h,zv hE hG h hav⟩
  ·cases he
theorem zjt {t e:TypeId} {i:TypeInfo} {z:Value} {n:Nat} {ps:List (Nat × Value)} {cells':Array Value} {psa:Array (Nat × Value)} (hu:P.underlying t = some (.slice e)) (g1:P.info? e = some i) (g4:i.zero = some z) (hg:i.size = z.cells.size) (hn:n * i.size ≤ 16777216)
 (hps:psa.toList = ps) (k3:Instr.fill (fun j=>some (j * i.size,i.size)) (yK z n) ps = some cells') :
 (Instr.buildSlice t n psa).run P w = .ok (.slice (some ⟨w.heap.size,0,none⟩) n n) { w with heap:=w.heap.push (.cells cells' e) }:=by
 subst hps
 unfold Instr.buildSlice
 have hlim:¬ (n * i.size > 2 ^ 24):=by omega
 simp only [Sem.run_bind,zj hu,Result.andThen_ok,z3 g1,hlim,if_false,Sem.run_pure]
 by_cases h0:n * i.size = 0
 ·rw [if_pos h0]
  have hz0:=zBl (z:=z) (n:=n) (by rw [← hg]; exact h0)
  rw [hz0] at k3
  rw [h0]
  simp only [Sem.run_bind,Sem.run_pure,Result.andThen_ok,zJu (fun x=>(#[]:Array Value)[x % (#[]:Array Value).size]!),k3,newRow,run_newObj]
 ·rw [if_neg h0]
  have hz1:(Array.range (n * i.size)).map (z.cells[· % z.cells.size]!) = yK z n:=by unfold yK; rw [hg]
  simp only [Sem.run_bind,qC g1 g4,Sem.run_pure,Result.andThen_ok,hz1,k3,newRow,run_newObj]
theorem zBQ {q:Bool} {t:TypeId} {n:Nat} {ps:Array (Nat × Operand)} {τ:Ty} (hE:EnvOk P G E) (hG:G.le F0) (h:Rel P nt F0 w0 st m F a w) (hτ:qm E.types t = some (.sl τ))
 (he:zb6 q τ n (ps.toList.map fun p=>(p.1,rd E st (some τ) p.2)) st pk = some (v,st')):∃ u w',(Instr.buildSlice t n (ps.map fun x=>(x.1,a.eval x.2))).run P w = .ok u w' ∧ jR P nt F0 w0 st' a F v u w':=by
 unfold zb6 at he
 split at he
 ·rename_i xs st1 hb
  have hty:=hE.types t _ hτ
  obtain ⟨e,hu,he2,hpos,hnp⟩:=hty.sl
  obtain ⟨i,z,g1,g2,g3,g4,g5⟩:=jQ (he2.head (Ty.np_spec hnp))
  have hsome:=znv hb
  have hps:=zl0 hE hG h (θ:=fun _=>some τ) (ps:=ps.toList) fun p hp=>hsome (p.1,rd E st (some τ) p.2) (List.mem_map.2 ⟨p,hp,rfl⟩)
  obtain ⟨hn24,he⟩:=zb he
  have hn24:n * nc τ ≤ 16777216:=of_decide_eq_true hn24
  cases he
  have hzsz:=zaA (g5 F)
  have hzrow:RepL (Rep P F τ) (List.replicate n (ze τ)) (yK z n).toList:=by
   rw [zcO]
   exact RepL.replicate (g5 F).1 n
  obtain ⟨m',F',cells',k1,k2,k3,k4,k5⟩:=zns (cells:=yK z n) hb h hps hzrow
  rw [List.length_replicate] at k5
  have hL:=RepL.length (fun x c h=>Rep.length (P:=P) (F:=F') (x:=x) h) _ _ k4
  obtain ⟨h5,h6⟩:=znr (w':={ w with heap:=w.heap.push (.cells cells' e) }) (cap:=n) k2 (show cells'.toList = cells'.toList ++ [] by simp) k4 (by rw [← Array.length_toList,hL,k5]) (by omega) rfl rfl rfl rfl
  refine ⟨.slice (some ⟨w.heap.size,0,none⟩) n n,{ w with heap:=w.heap.push (.cells cells' e) },?_,_,F',k1.le,h5,by rw [k5] at h6; exact h6⟩
  exact zjt hu g1 g4 (by rw [g2,hzsz]) (by rw [g2]; exact hn24) (Array.toList_map) (by rw [g2]; exact k3)
 ·cases he
theorem zF6 {τ x y:Ty} {f:Nat} {l:List Nat} {ps:List (Nat × Operand)} (h:zDf τ (ps.map fun p=>(p.1,rd E st none p.2)) = some (x,y,f,l)):τ = .st (.pair (.fn x y) .unit) ∧ ∃ X,ps = [(0,X)] ∧ rd E st none X = some (.clo f l):=by
 unfold zDf at h
 split at h
 ·rename_i f' l' hps
  split at h
  ·rename_i x' y' hx
   cases h
   refine ⟨zqx hx,?_⟩
   match ps,hps with
   | [(i,X)],hps =>
    simp only [List.map_cons,List.map_nil,List.cons.injEq,Prod.mk.injEq,and_true] at hps
    exact ⟨X,by rw [hps.1],hps.2⟩
   | [],hps=>cases hps
   | _ :: _ :: _,hps=>simp at hps
  ·cases h
 ·cases h
theorem zHQ {τ b:Ty} {n i j:Nat} {o:Option AV} {ps:List (Nat × Option AV)} {vs:List AV} (h:zqp τ (n + 1) i ((j,o) :: ps) = some (b,vs)) :
 ∃ a f l x y b' vs',o = some (.fld a [.clo f l]) ∧ i = j ∧ τ = .st a ∧ fn1 τ = some (x,y) ∧ zqp τ n (i + 1) ps = some (b',vs') ∧ b = .pair (.fn x y) b' ∧ vs = .clo f l :: vs':=by
 unfold zqp at h
 split at h
 ·rename_i e; cases e
 ·rename_i e1 e2
  simp only [Nat.succ.injEq] at e1
  subst e1
  simp only [List.cons.injEq,Prod.mk.injEq] at e2
  obtain ⟨⟨rfl,rfl⟩,rfl⟩:=e2
  obtain ⟨hc,h⟩:=zb h
  simp only [Bool.and_eq_true,decide_eq_true_eq] at hc
  split at h
  ·rename_i hx hbs
   cases h
   exact ⟨_,_,_,_,_,_,_,rfl,Nat.eq_of_beq_eq_true hc.1,hc.2,hx,hbs,rfl,rfl⟩
  ·cases h
 ·cases h
theorem zxN (hE:EnvOk P G E) (hG:G.le F0) (h:Rel P nt F0 w0 st m F a w) {τ:Ty}:∀ {n i:Nat} {ps:List (Nat × Operand)} {b:Ty} {vs:List AV} {cells:Array Value},zqp τ n i (ps.map fun p=>(p.1,rd E st (some τ) p.2)) = some (b,vs)→cells.size = i + n →
 ∃ us:List Value,zX P st.h m F b vs us ∧ us.length = n ∧ zDl n b = true ∧ Instr.fill (fun j=>some (j * 1,1)) cells (ps.map fun p=>(p.1,a.eval p.2)) = some (cells.toList.take i ++ us).toArray
 | 0,i,[],b,vs,cells,hb,hs=>by
  cases hb
  refine ⟨[],rfl,rfl,rfl,?_⟩
  simp only [List.map_nil,Instr.fill,List.append_nil]
  rw [List.take_of_length_le (by simp; omega)]
 | 0,i,_ :: _,b,vs,cells,hb,hs=>by cases hb
 | n + 1,i,[],b,vs,cells,hb,hs=>by cases hb
 | n + 1,i,(j,X) :: ps,b,vs,cells,hb,hs=>by
  simp only [List.map_cons] at hb
  obtain ⟨a',f,l,x,y,b',vs',hX,hij,hc,hx,hbs,rfl,rfl⟩:=zHQ hb
  subst hij
  ·
   obtain ⟨cs,hval,hr⟩:=(show zE P st.h m F (.fld a' [.clo f l]) (a.eval X) from zv hE hG h hX)
   have ha:a' = .pair (.fn x y) .unit:=by have:=zqx hx; rw [hc] at this; cases this; rfl
   subst ha
   obtain ⟨c,d,hcs,hcl,hd⟩:=hr
   obtain ⟨x',y',u,hxy,rfl,hcu⟩:=hcl
   have hd:d = []:=hd
   subst hd
   have hcells:(a.eval X).cells.toList = [u]:=by rw [hval]; exact hcs
   have hsz:(a.eval X).cells.size = 1:=by rw [← Array.length_toList,hcells]; rfl
   have hf:=zha (place:=fun j=>some (j * 1,1)) (cells:=cells) (i:=i) (off:=i * 1) (size:=1) (q:=a.eval X) (rest:=ps.map fun p=>(p.1,a.eval p.2)) rfl hsz (by rw [hsz]; omega)
   rw [hcells] at hf
   have hl:i * 1 + [u].length ≤ cells.toList.length:=by simp; omega
   obtain ⟨us,g1,g2,g3,g4⟩:=zxN hE hG h (cells:=(zB cells.toList (i * 1) [u]).toArray) hbs (by
    have:=jN hl
    simp only [List.size_toArray,this,Array.length_toList]; omega)
   refine ⟨u :: us,⟨[u],us,rfl,⟨x,y,u,rfl,rfl,hcu⟩,g1⟩,by simp [g2],g3,?_⟩
   simp only [List.map_cons]
   rw [hf,g4]
   congr 2
   unfold zB
   have:i ≤ cells.toList.length:=by simp; omega
   simp only [Nat.mul_one]
   rw [List.append_assoc,List.take_append,List.length_take,Nat.min_eq_left this,List.take_of_length_le (by simp; omega)]
   simp
theorem zBR {t:TypeId} {n:Nat} {ps:Array (Nat × Operand)} {τ b:Ty} {vs:List AV} (hE:EnvOk P G E) (hG:G.le F0) (h:Rel P nt F0 w0 st m F a w) (hτ:qm E.types t = some (.sl τ))
 (hb:zqp τ n 0 (ps.toList.map fun p=>(p.1,rd E st (some τ) p.2)) = some (b,vs)) (hn:n ≤ 16777216) (h1:nc τ = 1) :
 ∃ u w',(Instr.buildSlice t n (ps.map fun x=>(x.1,a.eval x.2))).run P w = .ok u w' ∧ jR P nt F0 w0 ⟨st.fr,st.h ++ [.bx (.fld b vs) false]⟩ a F (.gs st.h.length n) u w':=by
 have hty:=hE.types t _ hτ
 obtain ⟨e,hu,he2,hpos,hnp⟩:=hty.sl
 obtain ⟨i,z,g1,g2,g3,g4,g5⟩:=jQ (he2.head (Ty.np_spec hnp))
 have hzsz:=zaA (g5 F)
 have hzl:(yK z n).size = 0 + n:=by
  have hzrow:RepL (Rep P F τ) (List.replicate n (ze τ)) (yK z n).toList:=by
   rw [zcO]
   exact RepL.replicate (g5 F).1 n
  have:=RepL.length (fun x c h=>Rep.length (P:=P) (F:=F) (x:=x) h) _ _ hzrow
  rw [h1,List.length_replicate] at this
  simp at this
  omega
 obtain ⟨us,k1,k2,k3,k4⟩:=zxN (cells:=yK z n) hE hG h hb hzl
 simp only [List.take_zero,List.nil_append] at k4
 obtain ⟨h5,h6⟩:=zdT (nv:=.fld b vs) (cs:=us.toArray) (el:=e) h (by simpa using k1)
 have hps:(ps.map fun x=>(x.1,a.eval x.2)).toList = ps.toList.map fun p=>(p.1,a.eval p.2):=by simp
 refine ⟨_,_,zjt (w:=w) hu g1 g4 (by rw [g2,hzsz]) (by rw [g2,h1]; omega) hps (by rw [g2,h1]; exact k4),_,F,.refl F,h5,?_⟩
 exact .inr ⟨w.heap.size,us.toArray.size,b,.fld b vs,false,by simp [MM.put],ju _ _,rfl,k3,rfl⟩
theorem zxO {t:TypeId} {x:Operand} {τ:Ty} {av:AV} {y:τ.I} {h1:List Obj} {psa:Array (Nat × Value)} (hE:EnvOk P G E) (h:Rel P nt F0 w0 st m F a w) (hτ:qm E.types t = some (.sl τ)) (hdeep:τ.deep = true)
 (hv:zh P st.h m F av (a.eval x)) (habs:zvY τ av st.h = some (y,h1)) (hpsa:psa.toList = [(0,a.eval x)]) (h24:nc τ ≤ 16777216) :
 ∃ u w',(Instr.buildSlice t 1 psa).run P w = .ok u w' ∧ jR P nt F0 w0 ⟨st.fr,h1 ++ [.drow τ [y] 1]⟩ a F (.ow h1.length) u w':=by
 have hty:=hE.types t _ hτ
 obtain ⟨e,hu,he2,hpos,hnp⟩:=hty.sl
 obtain ⟨i,z,g1,g2,g3,g4,g5⟩:=jQ (he2.head (Ty.np_spec hnp))
 have hzsz:=zaA (g5 F)
 obtain ⟨m1,D,k1,k2,k3,k4,k5,k6,k7⟩:=zBf h hv habs
 have hl:=k4.length
 have hzs:(yK z 1).size = nc τ:=by simp [yK,hzsz]
 have hspl:zB (yK z 1).toList 0 (a.eval x).cells.toList = (a.eval x).cells.toList:=by
  unfold zB
  have:(yK z 1).toList.drop (0 + (a.eval x).cells.toList.length) = []:=by
   apply List.drop_eq_nil_of_le
   rw [Array.length_toList,hzs]; omega
  rw [this]; simp
 have hfill:Instr.fill (fun j=>some (j * i.size,i.size)) (yK z 1) [(0,a.eval x)] = some (a.eval x).cells:=by
  rw [zha (by rw [Nat.zero_mul]) (by rw [g2]; simpa using hl) (by rw [hzs]; simp at hl; omega),hspl]
  simp [Instr.fill]
 have hrun:=zjt (w:=w) hu g1 g4 (by rw [g2,hzsz]) (n:=1) (by rw [g2]; omega) hpsa hfill
 have hother:∀ k,k < w.heap.size→({ w with heap:=w.heap.push (.cells (a.eval x).cells e) }:World).heap[k]? = w.heap[k]?:=fun k hk=>by simp [Array.getElem?_push]; omega
 have had:=k1.adopt (o:=.drow τ [y] 1) (w':={ w with heap:=w.heap.push (.cells (a.eval x).cells e) }) (x:=some (w.heap.size,(a.eval x).cells.size)) (D:=fun j p=>if j = 0 then D p else none) rfl rfl rfl (by simp) (fun b hb _=>hother b hb)
  (fun b n hx=>by
   cases hx
   have:=k1.bel.size
   exact ⟨this,by simp,k1.noF,fun i n' hi=>by have:=k1.rng _ _ _ hi; omega,fun i j p n' hp=>by have:=(k1.dok _ _ _ _ _ hp).2.2.1; omega⟩)
  (fun j p b n hp=>by
   by_cases ej:j = 0
   ·simp only [ej,if_true] at hp
    obtain ⟨f1,f2,f3,f4,f5⟩:=k5 p _ _ hp
    exact ⟨by simp [Obj.deepAt,ej],f2,by simp; omega,f1,fun n' hx=>by cases hx; omega,f4,f5⟩
   ·simp only [ej,if_false] at hp; cases hp)
  (fun j p b n j' p' n' q1 q2=>by
   by_cases ej:j = 0
   ·by_cases ej':j' = 0
    ·simp only [ej,if_true] at q1
     simp only [ej',if_true] at q2
     exact ⟨by omega,k6 _ _ _ _ _ q1 q2⟩
    ·simp only [ej',if_false] at q2; cases q2
   ·simp only [ej,if_false] at q1; cases q1)
  (by
   simp only [z6,MM.put2_f]
   refine ⟨Nat.le_refl _,hdeep,e,(a.eval x).cells,(a.eval x).cells.toList,[],by simp,rfl,by simp,k1.noF,(a.eval x).cells.toList,[],by simp,?_,rfl⟩
   unfold DE
   rw [if_pos (by omega)]
   exact zlQ P (.refl F) (fun p=>by rw [MM.put2_d]; simp) (fun p b n hp=>⟨hother b (k5 p _ _ hp).2.2.1,fun hn=>hn⟩) _ _ _ k4)
 refine ⟨_,_,hrun,_,F,.refl F,had.1,.inr ⟨_,τ,1,ju _ _,rfl,?_⟩⟩
 rw [MM.put2_f]
 exact ⟨1,by simp at hl; omega,Nat.le_refl _,rfl⟩
theorem zqI {q:Bool} {o:Oper} (hE:EnvOk P G E) (hG:G.le F0) (h:Rel P nt F0 w0 st m F a w) (he:qJ q E o.op o.type st pk = some (v,st')):z8 P o a w (jR P nt F0 w0 st' a F v):=by
 obtain ⟨dst,op,ty,pos,after,guard⟩:=o
 simp only at he
 unfold qJ at he
 split at he
 ·
  rename_i x
  exact z8.val (w':=w) (u:=a.eval x) rfl (zxM hE hG h he)
 ·rename_i x
  exact z8.val (w':=w) (u:=a.eval x) rfl (zxM hE hG h he)
 ·
  rename_i c x y
  split at he
  ·rename_i t hc
   have hb:=(zv hE hG h hc).bool
   cases ht:(show Bool from t) with
   | true =>
    have ht':t = true:=ht
    subst ht'
    simp only [cond_true] at he
    split at he
    ·rename_i av hav
     obtain ⟨rfl,rfl⟩:=jG he
     refine z8.val (w':=w) (u:=a.eval x) ?_ ⟨m,F,.refl F,h,zv hE hG h hav⟩
     simp [execOp,hb,asBool]
    ·cases he
   | false =>
    have ht':t = false:=ht
    subst ht'
    simp only [cond_false] at he
    split at he
    ·rename_i av hav
     obtain ⟨rfl,rfl⟩:=jG he
     refine z8.val (w':=w) (u:=a.eval y) ?_ ⟨m,F,.refl F,h,zv hE hG h hav⟩
     simp [execOp,hb,asBool]
    ·cases he
  ·cases he
 ·
  rename_i e
  split at he
  ·rename_i τ hτ
   obtain ⟨u,w',h1,h2⟩:=zHK hE h hτ he
   exact z8.val (w':=w') (u:=u) (by simp only [execOp]; exact zK h1) h2
  ·cases he
  ·rename_i b hτ
   cases hd:(E.deep && b.dl) with
   | true =>
    rw [hd] at he
    simp only [cond_true] at he
    obtain ⟨u,w',h1,h2⟩:=zHL hE h hτ he
    exact z8.val (w':=w') (u:=u) (by simp only [execOp]; exact zK h1) h2
   | false =>
    rw [hd] at he
    simp only [cond_false] at he
    obtain ⟨u,w',h1,h2⟩:=zrq hE h hτ (fun a b e=>by cases e) (fun a e=>by cases e) he
    exact z8.val (w':=w') (u:=u) (by simp only [execOp]; exact zK h1) h2
  ·rename_i τ hns hnp _ hτ
   obtain ⟨u,w',h1,h2⟩:=zrq hE h hτ (fun a b e=>hnp a b e) (fun a e=>hns a e) he
   exact z8.val (w':=w') (u:=u) (by simp only [execOp]; exact zK h1) h2
  ·cases he
 ·
  rename_i e x
  split at he
  ·rename_i τ y hx
   obtain ⟨h1,h2⟩:=zb he
   cases h2
   have hr:=zv hE hG h hx
   obtain ⟨h3,h4⟩:=zdT (nv:=.dat τ y) (cs:=(a.eval x).cells) (el:=e) h hr.1
   exact z8.val (by simp only [execOp]; exact zK (zup e _)) ⟨_,F,.refl F,h3,h4⟩
  ·rename_i τ y hx
   obtain ⟨h1,h2⟩:=zb he
   cases h2
   have hr:=zv hE hG h hx
   have hr':=hr
   obtain ⟨ad,hq,_⟩:=(show zF P st.h m F (.clip τ y) _ from hr)
   obtain ⟨h3,h4⟩:=zdT (nv:=.clip τ y) (cs:=(a.eval x).cells) (el:=e) h ⟨a.eval x,by rw [hq]; rfl,hr'⟩
   exact z8.val (by simp only [execOp]; exact zK (zup e _)) ⟨_,F,.refl F,h3,h4⟩
  ·rename_i i hx
   obtain ⟨h1,h2⟩:=zb he
   cases h2
   simp only [Bool.and_eq_true] at h1
   have hr:=zv hE hG h hx
   have hr':=hr
   obtain ⟨_,τ,len,_,_,hq⟩:=(show zF P st.h m F (.ow i) _ from hr).resolve_left (zjr h1.2)
   have hcells:(a.eval x).cells = #[a.eval x]:=by
    split at hq
    ·obtain ⟨cap,_,_,hq⟩:=hq; rw [hq]; rfl
    ·obtain ⟨_,ad,hq⟩:=hq; rw [hq]; rfl
   obtain ⟨h3,h4⟩:=zdT (nv:=.ow i) (cs:=(a.eval x).cells) (el:=e) h ⟨a.eval x,hcells,hr'⟩
   exact z8.val (by simp only [execOp]; exact zK (zup e _)) ⟨_,F,.refl F,h3,h4⟩
  ·rename_i b vs hx
   obtain ⟨h1,h2⟩:=zb he
   cases h2
   have hr:=zv hE hG h hx
   obtain ⟨cs,hcs,hfs⟩:=(show zE P st.h m F (.fld b vs) _ from hr)
   obtain ⟨h3,h4⟩:=zdT (nv:=.fld b vs) (cs:=(a.eval x).cells) (el:=e) h (by rw [hcs]; exact hfs)
   exact z8.val (by simp only [execOp]; exact zK (zup e _)) ⟨_,F,.refl F,h3,h4⟩
  ·cases he
 ·
  rename_i t ps
  split at he
  ·rename_i τ hτ
   have hmap:(ps.map fun x=>(x.1,a.eval x.2)).toList = ps.toList.map fun p=>(p.1,a.eval p.2):=by simp
   split at he
   ·rename_i b hsel
    have hτb:τ = .st b:=by
     unfold zHv at hsel
     split at hsel
     ·obtain ⟨_,hsel⟩:=zb hsel
      cases hsel; rfl
     ·cases hsel
    subst hτb
    split at he
    rename_i vs h1 hz
    split at he
    ·rename_i vs' st1 hb
     cases he
     have hty:=hE.types t _ hτ
     obtain ⟨i,z,g1,g2,g3,g4⟩:=zv5 (hty.head (by intro a b e; cases e))
     obtain ⟨fs,f1,f2,_⟩:=hty.st
     obtain ⟨places,hpl1,hpl2⟩:=zlx (w:=w) f2
     obtain ⟨c,k1,k2,k3,k4⟩:=zqF hty.chn hz (show zcB b z.cells.toList = some [] from g3) h
     rw [List.append_nil] at k1
     have hagg:∃ zc,z = .agg zc:=by
      have:isAggV z = true:=g4
      cases z <;> first | exact ⟨_,rfl⟩ | cases this
     obtain ⟨zc,rfl⟩:=hagg
     have hsome:=zkk hb
     have hps:=zl0 hE hG h (θ:=fun i=>zdX b i) (ps:=ps.toList) fun p hp=>hsome (p.1,rd E st (zdX b p.1) p.2) (List.mem_map.2 ⟨p,hp,rfl⟩)
     obtain ⟨m',F',cells',r1,r2,r3,r4⟩:=zsL (place:=(places[·]?)) hpl2 (cells:=zc) hb k2 (hps.ext k3) (by rw [show zc.toList = c from k1]; exact k4)
     refine z8.val (w':=w) (u:=.agg cells') ?_ ⟨m',F',r1.le,r2,cells',rfl,r4⟩
     simp only [execOp]
     refine zK ?_
     unfold Instr.build
     simp only [Sem.run_bind,qC g1 g2,Result.andThen_ok,zj f1,hpl1,hmap,Value.cells,r3,Sem.run_pure]
    ·cases he
   ·split at he
    ·rename_i x y f l hb
     cases he
     obtain ⟨rfl,X,hps,hav⟩:=zF6 hb
     have hty:=hE.types t _ hτ
     have hu:=zv hE hG h hav
     obtain ⟨caps,hval,_⟩:=(show zF P st.h m F (.clo f l) (a.eval X) from hu)
     obtain ⟨fs,h1,h2,_⟩:=hty.st
     obtain ⟨i,z,g1,g2,g3,g4,g5⟩:=jQ (hty.head (by intro a b e; cases e))
     obtain ⟨places,hpl1,hpl2⟩:=zlx (w:=w) h2
     obtain ⟨zc,rfl,hz⟩:=zV.agg' rfl (g5 F)
     have hzl:zc.size = 1:=by have:=Rep.length hz; simpa [nc] using this
     have hcell:(a.eval X).cells.toList = [a.eval X]:=by rw [hval]; rfl
     have hfill:=zha (place:=(places[·]?)) (cells:=zc) (i:=0) (off:=0) (size:=1) (q:=a.eval X) (rest:=[]) (hpl2 0 0 _ rfl) (by rw [← Array.length_toList,hcell]; rfl) (by rw [← Array.length_toList (xs:=(a.eval X).cells),hcell,hzl]; simp)
     have hsp:zB zc.toList 0 [a.eval X] = [a.eval X]:=by
      have hd:zc.toList.drop 1 = []:=by rw [List.drop_eq_nil_iff]; simp only [Array.length_toList]; omega
      simp [zB,hd]
     rw [hcell,hsp] at hfill
     have hfin:Instr.fill (places[·]?) zc [(0,a.eval X)] = some #[a.eval X]:=by rw [hfill]; rfl
     refine z8.val (w':=w) (u:=.agg #[a.eval X]) ?_ ⟨m,F,.refl F,h,#[a.eval X],rfl,[a.eval X],[],rfl,⟨x,y,a.eval X,rfl,rfl,hu⟩,rfl⟩
     simp only [execOp]
     refine zK ?_
     unfold Instr.build
     simp only [Sem.run_bind,qC g1 g4,Result.andThen_ok,zj h1,hpl1,hmap,hps,List.map_cons,List.map_nil,Value.cells,hfin,Sem.run_pure]
    split at he
    ·rename_i x st1 hb
     obtain ⟨hagg,he⟩:=zb he
     cases he
     have hty:=hE.types t _ hτ
     have hsome:=zsP hb
     have hps:=zl0 hE hG h (θ:=fun _=>none) (ps:=ps.toList) fun p hp=>hsome (p.1,rd E st none p.2) (List.mem_map.2 ⟨p,hp,rfl⟩)
     cases τ with
     | st c =>
      obtain ⟨fs,h1,h2,_⟩:=hty.st
      obtain ⟨i,z,g1,g2,g3,g4,g5⟩:=jQ (hty.head (by intro a b e; cases e))
      obtain ⟨places,hpl1,hpl2⟩:=zlx (w:=w) h2
      obtain ⟨zc,rfl,hz⟩:=zV.agg' rfl (g5 F)
      obtain ⟨m',F',cells',k1,k2,k3,k4⟩:=zxG (place:=(places[·]?)) hpl2 (cells:=zc) hb h hps hz
      refine z8.val (w':=w) (u:=.agg cells') ?_ ⟨m',F',k1.le,k2,k4,rfl⟩
      simp only [execOp]
      refine zK ?_
      unfold Instr.build
      simp only [Sem.run_bind,qC g1 g4,Result.andThen_ok,zj h1,hpl1,hmap,Value.cells,k3,Sem.run_pure]
     | arr n c =>
      obtain ⟨e,h1,h2,_,hnp,_⟩:=hty.arr
      obtain ⟨i,z,g1,g2,g3,g4,g5⟩:=jQ (hty.head (by intro a b e; cases e))
      obtain ⟨ie,hie,hsz⟩:=h2.size (Ty.np_spec hnp)
      obtain ⟨zc,rfl,hz⟩:=zV.agg' rfl (g5 F)
      obtain ⟨m',F',cells',k1,k2,k3,k4⟩:=zvh (cells:=zc) hb h hps hz
      refine z8.val (w':=w) (u:=.agg cells') ?_ ⟨m',F',k1.le,k2,k4,rfl⟩
      simp only [execOp]
      refine zK ?_
      unfold Instr.build
      simp only [Sem.run_bind,qC g1 g4,Result.andThen_ok,zj h1,z3 hie,hsz,hmap,Value.cells,k3,Sem.run_pure]
     | _=>cases hagg
    ·cases he
  ·cases he
 ·
  rename_i t n ps
  split at he
  ·rename_i τ hτ
   split at he
   ·rename_i y h1 hsel
    unfold zxn at hsel
    split at hsel
    ·rename_i av hd1 hd2 hps0
     have habs:=hsel
     obtain ⟨x,hps,hav⟩:∃ x,ps.toList = [(0,x)] ∧ rd E st (some τ) x = some av:=by
      cases hl:ps.toList with
      | nil=>rw [hl] at hps0; cases hps0
      | cons p l =>
       rw [hl] at hps0
       cases l with
       | nil =>
        obtain ⟨i,x⟩:=p
        simp only [List.map_cons,List.map_nil,List.cons.injEq,Prod.mk.injEq,and_true] at hps0
        exact ⟨x,by rw [hps0.1],hps0.2⟩
       | cons _ _=>simp at hps0
     obtain ⟨h24,he⟩:=zb he
     cases he
     obtain ⟨u,w',r1,r2⟩:=zxO (psa:=ps.map fun x=>(x.1,a.eval x.2)) hE h hτ hd2 (zv hE hG h hav) habs (by simp [hps]) (of_decide_eq_true h24)
     exact z8.val (w':=w') (u:=u) (by simp only [execOp]; exact zK r1) r2
    ·cases hsel
   ·split at he
    ·rename_i b vs hb
     obtain ⟨_,hb⟩:=qs hb
     obtain ⟨_,he⟩:=qs he
     obtain ⟨hn,he⟩:=zb he
     cases he
     simp only [Bool.and_eq_true,decide_eq_true_eq,Nat.beq_eq] at hn
     obtain ⟨u,w',r1,r2⟩:=zBR hE hG h hτ hb hn.1 hn.2
     exact z8.val (w':=w') (u:=u) (by simp only [execOp]; exact zK r1) r2
    obtain ⟨u,w',r1,r2⟩:=zBQ hE hG h hτ he
    exact z8.val (w':=w') (u:=u) (by simp only [execOp]; exact zK r1) r2
  ·cases he
 ·
  rename_i t x
  split at he
  ·rename_i av hav
   obtain ⟨u,h1,rfl,h2⟩:=zqy hE h (zv hE hG h hav) he
   exact z8.val (w':=w) (u:=u) (by simp only [execOp]; exact zK h1) ⟨m,F,.refl F,h,h2⟩
  ·cases he
 ·
  rename_i t x y
  split at he
  ·rename_i av au hav hau
   obtain ⟨w',h1,h2⟩:=zF2 hE h (zv hE hG h hav) (zv hE hG h hau) he
   exact z8.skip (w':=w') (by simp only [execOp]; exact zDD h1) h2
  ·cases he
 ·
  rename_i x
  split at he
  ·rename_i τ y hx
   obtain ⟨y,rfl,he⟩:=Option.bind_eq_some_iff.1 he
   cases he
   have hr:=zv hE hG h hx
   obtain ⟨d,cc,hp,_⟩:=hr.ptr
   exact z8.val (w':=w) (u:=a.eval x) (by simp only [execOp,hp]; rfl) ⟨m,F,.refl F,h,hr⟩
  ·rename_i τ σ y hx
   obtain ⟨y,rfl,he⟩:=Option.bind_eq_some_iff.1 he
   cases he
   have hr:=zv hE hG h hx
   obtain ⟨f,first,caps,hp,_⟩:=zh.one rfl hr
   simp only [List.cons.injEq,and_true] at hp
   exact z8.val (w':=w) (u:=a.eval x) (by simp only [execOp,hp]; rfl) ⟨m,F,.refl F,h,hr⟩
  ·rename_i id p hx
   obtain ⟨hlive,he⟩:=zb he
   cases he
   have hr:=zv hE hG h hx
   obtain ⟨b,n,o,off,_,_,hp,_⟩:=(show zF P st.h m F (.bp id p) _ from hr).resolve_left (zjr hlive)
   exact z8.val (w':=w) (u:=a.eval x) (by simp only [execOp,hp]; rfl) ⟨m,F,.refl F,h,hr⟩
  ·rename_i id i p hx
   obtain ⟨hlive,he⟩:=zb he
   cases he
   have hr:=zv hE hG h hx
   obtain ⟨b,n,o,τ,len,off,σ,_,_,_,_,_,hp⟩:=(show zF P st.h m F (.rp id i p) _ from hr).resolve_left (zjr hlive)
   exact z8.val (w':=w) (u:=a.eval x) (by simp only [execOp,hp]; rfl) ⟨m,F,.refl F,h,hr⟩
  ·rename_i id i p j q hx
   split at he
   ·rename_i τ xs k ho
    cases he
    have hr:=zv hE hG h hx
    obtain ⟨o,ho',_,hr'⟩:=(show zF P st.h m F (.dp id i p j q) _ from hr)
    rw [ho] at ho'
    cases ho'
    obtain ⟨_,σ,len,off,ρ,b,n,_,_,_,_,hp⟩:=hr' _ _ _ rfl
    exact z8.val (w':=w) (u:=a.eval x) (by simp only [execOp,hp]; rfl) ⟨m,F,.refl F,h,hr⟩
   ·cases he
  ·cases he
 ·
  rename_i op t x y ty'
  split at he
  ·rename_i av au hav hau
   obtain ⟨u,h1,rfl,h2⟩:=zxB (X:=x) (Y:=y) (w:=w) hE zot (zv hE hG h hav) (zv hE hG h hau) he
   exact z8.val (w':=w) (u:=u) (by simp only [execOp]; exact zK h1) ⟨m,F,.refl F,h,h2⟩
  ·cases he
 ·
  rename_i op t x
  split at he
  ·rename_i av hav
   obtain ⟨u,h1,rfl,h2⟩:=zKA h (zv hE hG h hav) he
   exact z8.val (w':=w) (u:=u) (by simp only [execOp]; exact zK h1) ⟨m,F,.refl F,h,h2⟩
  ·cases he
 ·
  rename_i s d x
  split at he
  ·rename_i av hav
   obtain ⟨u,w',h1,h2⟩:=zBO hE h (zv hE hG h hav) he
   exact z8.val (w':=w') (u:=u) (by simp only [execOp]; exact zK h1) h2
  ·cases he
 ·
  rename_i fn first caps
  obtain ⟨u,h1,h2⟩:=zzL hE hG h he
  exact z8.val (w':=w) (u:=u) (by simp only [execOp]; exact zK h1) h2
 ·
  rename_i t
  split at he
  ·rename_i κ σ hτ
   cases he
   have hm:(m.put st.h.length (w.heap.size,0)) st.h.length = some (w.heap.size,0):=by simp [MM.put]
   have hnew:({ w with heap:=w.heap.push (.map #[] 0) }:World).heap[w.heap.size]? = some (.map #[] 0):=by simp
   have hrel:=h.alloc (o:=.mp κ σ []) (ob:=.map #[] 0) (n:=0) (w':={ w with heap:=w.heap.push (.map #[] 0) }) rfl rfl rfl rfl ⟨_,_,#[],0,hm,hnew,⟨rfl,fun i p e hp _=>by simp at hp⟩,h.noF⟩
   refine z8.val (w':={ w with heap:=w.heap.push (.map #[] 0) }) (u:=.map (some w.heap.size)) (by simp only [execOp]; refine zK ?_; simp [Instr.makeMap]) ⟨_,F,.refl F,hrel,.inr ⟨w.heap.size,0,κ,σ,[],hm,by rw [z7]; simp,rfl⟩⟩
  ·cases he
 ·
  rename_i t l c
  split at he
  ·rename_i τ k1 n k2 mx hτ hl hc
   obtain ⟨h1,he⟩:=zb he
   obtain ⟨h2,he⟩:=zb he
   obtain ⟨h3,he⟩:=zb he
   have h1:@LE.le Int _ 0 n:=of_decide_eq_true h1
   have h2:@LE.le Int _ n mx:=of_decide_eq_true h2
   have h3:@LE.le Int _ mx (lim:Int):=of_decide_eq_true h3
   cases he
   have e1:=(zv hE hG h hl).int
   have e2:=(zv hE hG h hc).int
   obtain ⟨e,hu,he2,hpos,hnp⟩:=(hE.types t _ hτ).sl
   obtain ⟨i,z,g1,g2,g3,g4,g5⟩:=jQ (he2.head (Ty.np_spec hnp))
   have hzsz:=zaA (g5 F)
   obtain ⟨n,rfl⟩:=Int.eq_ofNat_of_zero_le h1
   obtain ⟨mx,rfl⟩:=Int.eq_ofNat_of_zero_le (Int.le_trans h1 h2)
   have h2':n ≤ mx:=by omega
   have h3':mx ≤ lim:=by omega
   have hr:RepL (Rep P F τ) (List.replicate n (ze τ)) (yK z n).toList:=by
    rw [zcO]
    exact RepL.replicate (g5 F).1 n
   have hsz:(yK z mx).size = mx * nc τ:=by simp [yK,hzsz]
   have hsplit:(yK z mx).toList = (yK z n).toList ++ (yK z (mx - n)).toList:=by
    rw [zcO,zcO,zcO,← List.flatten_append,List.replicate_append_replicate,Nat.add_sub_cancel' h2']
   obtain ⟨h5,h6⟩:=znr (w':={ w with heap:=w.heap.push (.cells (yK z mx) e) }) (cap:=mx) h hsplit hr hsz (by simpa using h2') rfl rfl rfl rfl
   rw [List.length_replicate] at h6
   refine z8.val (w':={ w with heap:=w.heap.push (.cells (yK z mx) e) }) (u:=.slice (some ⟨w.heap.size,0,none⟩) n mx) ?_ ⟨_,F,.refl F,h5,h6⟩
   simp only [execOp]
   refine zK ?_
   rw [e1,e2]
   unfold lim at h3'
   unfold zsH at g3
   have w1:=IntWalk.i64_in (n:Int) (by omega)
   have w2:=IntWalk.i64_in (mx:Int) (by omega)
   have hroom:askRoom (mx * i.bytes) = pure ():=by
    unfold askRoom roomBytes
    rw [if_neg]
    have:=Nat.mul_le_mul h3' g3
    omega
   have hprod:¬ ((i.bytes:Int) * (mx:Int) > 2 ^ 48):=by
    have:=Nat.mul_le_mul h3' g3
    have h8:((mx * i.bytes:Nat):Int) ≤ ((4294967296 * 16384:Nat):Int):=Int.ofNat_le.2 this
    rw [Int.natCast_mul,Int.mul_comm] at h8
    omega
   unfold Instr.makeSlice
   simp only [Sem.run_bind,zj hu,Result.andThen_ok,asInt,asIntOf,Sem.run_pure,zgT g1,w1,w2,hprod,decide_false,Bool.or_false,show ¬ ((mx:Int) < 0) by omega,show ¬ ((n:Int) < 0) by omega,show ¬ ((n:Int) > (mx:Int)) by omega,Bool.false_eq_true,false_or,if_false,or_self,Int.toNat_natCast,hroom,z3 g1]
   have hg:mx * i.size = mx * z.cells.size:=by rw [g2,hzsz]
   by_cases h0:mx * i.size = 0
   ·rw [if_pos h0]
    have hz0:=zBl (z:=z) (n:=mx) (by rw [← hg]; exact h0)
    rw [hz0,h0]
    simp only [Sem.run_bind,Sem.run_pure,Result.andThen_ok,zJu (fun x=>(#[]:Array Value)[x % (#[]:Array Value).size]!),newRow,run_newObj]
   ·rw [if_neg h0]
    have hz1:(Array.range (mx * i.size)).map (z.cells[· % z.cells.size]!) = yK z mx:=by unfold yK; rw [hg]
    simp only [Sem.run_bind,qC g1 g4,Sem.run_pure,Result.andThen_ok,hz1,newRow,run_newObj]
  ·cases he
 ·
  rename_i t x lo hi mx
  split at he
  ·rename_i av hav
   obtain ⟨u,h1,h2⟩:=zF5 hE h (zv hE hG h hav) (zzO hE hG h lo) (zzO hE hG h hi) (zzO hE hG h mx) he
   exact z8.val (w':=w) (u:=u) (by simp only [execOp]; exact zK h1) h2
  ·cases he
 ·
  rename_i t x f
  split at he
  ·rename_i av hav
   obtain ⟨u,h1,rfl,h2⟩:=znp hE h (zv hE hG h hav) he
   exact z8.val (w':=w) (u:=u) (by simp only [execOp]; exact zK h1) ⟨m,F,.refl F,h,h2⟩
  ·cases he
 ·
  rename_i t x f
  split at he
  ·rename_i c y hx
   obtain ⟨h1,he⟩:=zb he
   split at he
   ·rename_i σ z hz
    obtain ⟨rfl,rfl⟩:=jG he
    obtain ⟨cs,hp,hr⟩:=(zv hE hG h hx).agg rfl
    obtain ⟨o,σ',y',c',h5,h6,h7,h8⟩:=zuj (a:=c) hz hr
    cases h6
    obtain ⟨fs,g1,g2,_⟩:=(hE.types t _ (Env.is_spec h1)).st
    obtain ⟨fd,g3,g4,g5,g6,g7,_⟩:=zqt g2 h5
    obtain ⟨u,k1,k2⟩:=zfd (w:=w) g5 (Ty.np_spec g7) h7 (cs:=cs) (o:=o) h8
    refine z8.val (w':=w) (u:=u) ?_ ⟨m,F,.refl F,h,k2⟩
    simp only [execOp]
    refine zK ?_
    unfold Instr.field
    have g3':fs[f]? = some fd:=by rw [← Array.getElem?_toList]; exact g3
    simp only [Sem.run_bind,zj g1,Result.andThen_ok,g3',hp,asAgg,Sem.run_pure,g4,Nat.zero_add]
    exact k1
   ·cases he
  ·rename_i c vs hx
   obtain ⟨h1,he⟩:=zb he
   obtain ⟨cs,hp,hr⟩:=(show zE P st.h m F (.fld c vs) _ from zv hE hG h hx)
   obtain ⟨fs,g1,g2,_⟩:=(hE.types t _ (Env.is_spec h1)).st
   split at he
   ·rename_i σ z hz
    obtain ⟨rfl,rfl⟩:=jG he
    obtain ⟨o,t',c0,h5,⟨rfl,h7⟩,h8⟩:=y8 hr hz
    obtain ⟨fd,g3,g4,g5,g6,g7,_⟩:=zqt g2 h5
    obtain ⟨u,k1,k2⟩:=zfd (w:=w) g5 (Ty.np_spec g7) h7 (cs:=cs) (o:=o) h8
    refine z8.val (w':=w) (u:=u) ?_ ⟨m,F,.refl F,h,k2⟩
    simp only [execOp]
    refine zK ?_
    unfold Instr.field
    have g3':fs[f]? = some fd:=by rw [← Array.getElem?_toList]; exact g3
    simp only [Sem.run_bind,zj g1,Result.andThen_ok,g3',hp,asAgg,Sem.run_pure,g4,Nat.zero_add]
    exact k1
   ·rename_i jd hz
    cases he
    obtain ⟨o,t',c0,h5,⟨σ,u,rfl,rfl,h7,_⟩,h8⟩:=y8 hr hz
    obtain ⟨fd,g3,g4,g5,g6,g7,_⟩:=zqt g2 h5
    obtain ⟨i',hi,hsz⟩:=g5.size (Ty.np_spec g7)
    refine z8.val (w':=w) (u:=u) ?_ ⟨m,F,.refl F,h,h7⟩
    simp only [execOp]
    refine zK ?_
    unfold Instr.field
    have g3':fs[f]? = some fd:=by rw [← Array.getElem?_toList]; exact g3
    simp only [Sem.run_bind,zj g1,Result.andThen_ok,g3',hp,asAgg,Sem.run_pure,g4,Nat.zero_add]
    have h0:=h8 0 u rfl
    rw [Nat.add_zero,Array.getElem?_toList] at h0
    unfold part
    simp only [Sem.run_bind,zaN g5,Result.andThen_ok,Ty.agg]
    simp [h0]
   ·cases he
  ·cases he
 ·
  rename_i t x i
  split at he
  ·rename_i av au hav hau
   obtain ⟨u,h1,rfl,h2⟩:=znq hE h (zv hE hG h hav) (zv hE hG h hau) he
   exact z8.val (w':=w) (u:=u) (by simp only [execOp]; exact zK h1) ⟨m,F,.refl F,h,h2⟩
  ·cases he
 ·
  rename_i t x i
  split at he
  ·rename_i av au hav hau
   obtain ⟨u,h1,rfl,h2⟩:=zF3 (w:=w) hE (zv hE hG h hav) (zv hE hG h hau) he
   exact z8.val (w':=w) (u:=u) (by simp only [execOp]; exact zK h1) ⟨m,F,.refl F,h,h2⟩
  ·cases he
 ·
  rename_i t x i ok
  split at he
  ·rename_i av au hav hau
   obtain ⟨u,h1,rfl,h2⟩:=zsO hE h (zv hE hG h hav) (zv hE hG h hau) he
   exact z8.val (w':=w) (u:=u) (by simp only [execOp]; exact zK h1) ⟨m,F,.refl F,h,h2⟩
  ·cases he
 ·
  rename_i t x i y
  split at he
  ·rename_i av au ay hav hau hay
   obtain ⟨w',h1,h2⟩:=zxL hE h (zv hE hG h hav) (zv hE hG h hau) (zv hE hG h hay) he
   exact z8.skip (w':=w') (by simp only [execOp]; exact zDD h1) h2
  ·cases he
 ·
  rename_i t i
  split at he
  ·rename_i vs ht
   split at he
   ·rename_i av hav
    obtain ⟨rfl,rfl⟩:=jG he
    obtain ⟨arr,hp,hsz,hget⟩:=zv hE hG h ht
    rw [z7] at hav
    obtain ⟨x,hx,hr⟩:=hget i v hav
    refine z8.val (w':=w) (u:=x) ?_ ⟨m,F,.refl F,h,zh.of1 hr⟩
    simp only [execOp,hp]
    refine zK ?_
    unfold Instr.extract
    simp [hx]
   ·cases he
  ·cases he
 ·exact zHP hE hG h he
 ·cases he
end
end Go.Ev
end
section
namespace Go.Ev
def sw (fr:List (Nat × AV)) (st:St):St:=⟨fr,st.h⟩
@[simp] theorem zff (fr:List (Nat × AV)) (st:St):(sw fr st).h = st.h:=rfl
@[simp] theorem zC2 (fr:List (Nat × AV)) (st:St):(sw fr st).fr = fr:=rfl
@[simp] theorem zHR (fr f:List (Nat × AV)) (h:List Obj):sw fr ⟨f,h⟩ = ⟨fr,h⟩:=rfl
section
variable {R:Type} {k:AV→St→Option R} {st:St} {E:Env} {fr:List (Nat × AV)}
theorem zHc (q:Bool) (v:AV):qD q (sw fr st) v = (qD q st v).map fun r=>⟨r.1,r.2.1,sw fr r.2.2⟩:=by
 unfold qD
 simp only [zff]
 (repeat' split) <;> first | rfl | (cases q <;> rfl)
theorem zJv (q:Bool) (σ:Ty) (v:AV) (st:St):yw q σ (sw fr st) v = (yw q σ st v).map fun r=>(r.1,sw fr r.2):=by
 unfold yw
 rw [zHc]
 cases qD q st v with
 | none=>rfl
 | some r=>simp only [Option.map_some]; cases qK r.1 σ r.2.1 <;> rfl
theorem zHS (q:Bool):∀ (τ:Ty) (vs:List AV) (st:St),jl q τ vs (sw fr st) = (jl q τ vs st).map fun r=>(r.1,sw fr r.2):=by
 intro τ
 induction τ with
 | unit=>intro vs st; cases vs <;> rfl
 | pair a b _ ih =>
  intro vs st
  cases vs with
  | nil=>rfl
  | cons v vs =>
   simp only [jl,zJv]
   cases yw q a st v with
   | none=>rfl
   | some r =>
    simp only [Option.map_some,ih]
    cases jl q b vs r.2 <;> rfl
 | _=>intro vs st; cases vs <;> rfl
theorem zgu (q:Bool) (v:AV) (st:St):frz q (sw fr st) v = (frz q st v).map fun r=>⟨r.1,r.2.1,sw fr r.2.2⟩:=by
 cases v with
 | fld a vs =>
  simp only [frz,zHS]
  cases jl q a vs st <;> rfl
 | _=>simp only [frz,zHc]
theorem zDE (q:Bool) (σ:Ty) (v:AV):zgQ q σ (sw fr st) v = (zgQ q σ st v).map fun r=>(r.1,sw fr r.2):=by
 unfold zgQ
 rw [zgu]
 cases frz q st v with
 | none=>rfl
 | some r=>simp only [Option.map_some]; cases qK r.1 σ r.2.1 <;> rfl
theorem zJw (q:Bool):∀ (τ:Ty) (vs:List AV) (st:St),jF q τ vs (sw fr st) = (jF q τ vs st).map fun r=>(r.1,sw fr r.2):=by
 intro τ
 induction τ with
 | unit=>intro vs st; cases vs <;> rfl
 | pair a b _ ih =>
  intro vs st
  cases vs with
  | nil=>rfl
  | cons v vs =>
   simp only [jF,zDE]
   cases zgQ q a st v with
   | none=>rfl
   | some r =>
    simp only [Option.map_some,ih]
    cases jF q b vs r.2 <;> rfl
 | _=>intro vs st; cases vs <;> rfl
theorem zv7 (q:Bool):∀ (vs:List AV) (st:St),chain q vs (sw fr st) = (chain q vs st).map fun r=>⟨r.1,r.2.1,sw fr r.2.2⟩
 | [],st=>rfl
 | v :: vs,st=>by
  simp only [chain,zgu]
  cases frz q st v with
  | none=>rfl
  | some r =>
   simp only [Option.map_some,zv7 q vs]
   cases chain q vs r.2.2 <;> rfl
theorem zxP (q:Bool) (τ:Ty):∀ (ps:List (Nat × Option AV)) (x:τ.I) (st:St),za8 q τ x ps (sw fr st) = (za8 q τ x ps st).map fun r=>(r.1,sw fr r.2)
 | [],x,st=>by cases τ <;> rfl
 | (i,none) :: ps,x,st=>by cases τ <;> rfl
 | (i,some v) :: ps,x,st=>by
  simp only [za8,zgu]
  cases frz q st v with
  | none=>rfl
  | some r =>
   simp only [Option.map_some]
   split
   ·rename_i x' hx'
    simp only [hx']
    exact zxP q τ ps _ _
   ·rename_i hx'
    simp only [hx']
    rfl
theorem zrs (q:Bool) (τ:Ty):∀ (ps:List (Nat × Option AV)) (x:List τ.I) (st:St),vQ q τ x ps (sw fr st) = (vQ q τ x ps st).map fun r=>(r.1,sw fr r.2)
 | [],x,st=>rfl
 | (i,none) :: ps,x,st=>rfl
 | (i,some v) :: ps,x,st=>by
  simp only [vQ,zDE]
  cases zgQ q τ st v with
  | none=>rfl
  | some r =>
   simp only [Option.map_some,zrs q τ ps]
   cases decide (i < x.length) <;> rfl
theorem zo7 (v:AV):kAV v (sw fr st) k = kAV v st fun v s=>k v (sw fr s):=by
 unfold kAV
 split <;> rfl
theorem zJx (nil:Bool) (op:BinOp) (t:TypeId) (x y:AV):zb4 nil E op t x y (sw fr st) k = zb4 nil E op t x y st fun v s=>k v (sw fr s):=rfl
theorem zLI (op:UnOp) (x:AV):zsC op x (sw fr st) k = zsC op x st fun v s=>k v (sw fr s):=rfl
theorem zKH (t:TypeId) (f:Nat) (l:List Nat):zjX E t f l (sw fr st) k = zjX E t f l st fun v s=>k v (sw fr s):=by
 unfold zjX
 (repeat' split) <;> rfl
theorem zJy (t:TypeId) (a:AV):jU E t a (sw fr st) k = jU E t a st fun v s=>k v (sw fr s):=by
 unfold jU
 simp only [zff,zo7,zKH]
theorem zKI (t:TypeId) (id:Nat) (p:List Nat) (v:AV):zgR E t id p v (sw fr st) k = zgR E t id p v st fun v s=>k v (sw fr s):=by
 unfold zgR
 simp only [zff,zgu]
 cases frz false st v <;> rfl
theorem zKJ (t:TypeId) (id:Nat) (b:Ty) (vs:List AV) (v:AV) (p:List Nat):zc5 E t id b vs v p (sw fr st) k = zc5 E t id b vs v p st fun v s=>k v (sw fr s):=by
 unfold zc5
 simp only [zff,zgu]
 split
 ·rfl
 ·split
  ·rfl
  ·cases frz false st v <;> rfl
theorem zJz (t:TypeId) (id i:Nat) (v:AV):zhT E t id i v (sw fr st) k = zhT E t id i v st fun v s=>k v (sw fr s):=rfl
theorem zJA (t:TypeId) (id i:Nat) (p:List Nat) (v:AV):zgt E t id i p v (sw fr st) k = zgt E t id i p v st fun v s=>k v (sw fr s):=by
 unfold zgt
 simp only [zff,zgu]
 cases frz false st v <;> rfl
theorem zHT (t:TypeId) (a v:AV):qY E t a v (sw fr st) k = qY E t a v st fun v s=>k v (sw fr s):=by
 unfold qY
 simp only [zff,zgu,zKI,zKJ,zJz,zJA]
 split
 ·rfl
 ·split
  ·rfl
  ·cases frz false st v <;> rfl
 ·cases frz false st v <;> rfl
 ·rfl
theorem zzP (t:TypeId) (x i:AV):qA E t x i (sw fr st) k = qA E t x i st fun v s=>k v (sw fr s):=rfl
theorem zHU (t:TypeId) (x i:AV):zfI E t x i (sw fr st) k = zfI E t x i st fun v s=>k v (sw fr s):=by
 unfold zfI
 simp only [zo7]
theorem zDF (g:(R:Type)→List AV→List Obj→(AV→List Obj→Option R)→Option R) (args:List (Option AV)):zfK g args (sw fr st) k = zfK g args st fun v s=>k v (sw fr s):=by
 unfold zfK
 simp only [zff,zC2]
 congr 2
theorem zBS (q:Bool) (ty:TypeId) (fn:Fn) (first caps:List (Option AV)):zaL q E ty fn first caps (sw fr st) k = zaL q E ty fn first caps st fun v s=>k v (sw fr s):=by
 unfold zaL
 simp only [zv7]
 split <;> try rfl
 split
 ·cases zsD caps <;> rfl
 cases look E.funs _ <;> try rfl
 cases chain q (first.filterMap id) st with
 | none=>rfl
 | some r =>
  simp only [Option.map_some,zv7]
  cases chain q (caps.filterMap id) r.2.2 <;> rfl
theorem zzQ (big:Bool) (σ:Ty) (x:AV) (ys:List σ.I):yW big σ x ys (sw fr st) k = yW big σ x ys st fun v s=>k v (sw fr s):=rfl
theorem zxQ (t u:TypeId) (id:Nat) (τ:Ty) (xs:List τ.I) (n jd:Nat) (σ:Ty) (ys:List σ.I) (m:Nat):y7 E t u id τ xs n jd σ ys m (sw fr st) k = y7 E t u id τ xs n jd σ ys m st fun v s=>k v (sw fr s):=rfl
theorem zDG (t u:TypeId) (x y:AV):za1 E t u x y (sw fr st) k = za1 E t u x y st fun v s=>k v (sw fr s):=by
 unfold za1
 rw [zgu]
 cases frz false st y with
 | none=>rfl
 | some r =>
  obtain ⟨τ,x',s⟩:=r
  cases τ <;> first | rfl | (simp only [Option.map_some,zzQ])
theorem zF7 (t u:TypeId) (x y:AV):zdW E t u x y (sw fr st) k = zdW E t u x y st fun v s=>k v (sw fr s):=by
 unfold zdW
 simp only [zff,zDG,zxQ]
theorem zHV (q:Bool) (t:TypeId) (x:AV) (lo hi mx:Option (Option AV)):zfJ q E t x lo hi mx (sw fr st) k = zfJ q E t x lo hi mx st fun v s=>k v (sw fr s):=by
 unfold zfJ
 rw [zgu]
 cases frz q st x with
 | none=>rfl
 | some r =>
  obtain ⟨τ,x',s⟩:=r
  cases τ <;> rfl
theorem zKK (t:TypeId) (x:AV):zc6 E t x (sw fr st) k = zc6 E t x st fun v s=>k v (sw fr s):=rfl
theorem zF8 (t:TypeId) (m i:AV) (ok:Bool):zaw E t m i ok (sw fr st) k = zaw E t m i ok st fun v s=>k v (sw fr s):=by
 unfold zaw
 simp only [zff,zo7]
theorem zzR (t:TypeId) (m i v:AV):za2 E t m i v (sw fr st) k = za2 E t m i v st fun v s=>k v (sw fr s):=rfl
theorem zxR (q:Bool) (a r:Ty) (md:Nat) (g:a.I→Option r.I) (args:List (Option AV)):zbV q a r md g args (sw fr st) k = zbV q a r md g args st fun v s=>k v (sw fr s):=by
 unfold zbV
 rw [zJw]
 cases jF q a (args.filterMap id) st with
 | none=>rfl
 | some p =>
  simp only [Option.map_some,zff,zC2]
  congr 2
theorem zBm (ty:TypeId) (v:AV):zkh E ty v (sw fr st) k = zkh E ty v st fun v s=>k v (sw fr s):=by
 unfold zkh
 split <;> rfl
theorem zKL (h:List Obj) (a:Ty):jZ h a = ((jZ h a).1,(jZ h a).2):=rfl
theorem zuq (q:Bool) (b:Ty):∀ (ps:List (Nat × Option AV)) (vs:List AV) (st:St),zax q b vs ps (sw fr st) = (zax q b vs ps st).map fun r=>(r.1,sw fr r.2)
 | [],vs,st=>rfl
 | (i,none) :: ps,vs,st=>rfl
 | (i,some v) :: ps,vs,st=>by
  have dat:(match frz q (sw fr st) v with
   | some ⟨σ,y,st⟩=>cond (zb5 b i σ) (zax q b (zf vs i (.dat σ y)) ps st) none
   | none=>none) = Option.map (fun (r:List AV × St)=>(r.1,sw fr r.2)) (match frz q st v with
   | some ⟨σ,y,st⟩=>cond (zb5 b i σ) (zax q b (zf vs i (.dat σ y)) ps st) none
   | none=>none):=by
   rw [zgu]
   cases frz q st v with
   | none=>rfl
   | some r =>
    simp only [Option.map_some,zuq q b ps]
    cases zb5 b i r.1 <;> rfl
  cases v with
  | ow j =>
   simp only [zax,zff,zuq q b ps]
   cases zng st.h b i j <;> rfl
  | clip σ xs =>
   cases xs with
   | nil =>
    simp only [zax,zff]
    have:=zuq q b ps (zf vs i (.ow st.h.length)) ⟨st.fr,st.h ++ [qQ σ []]⟩
    simp only [zHR] at this
    rw [show (sw fr st).fr = fr from rfl,this]
    cases zb5 b i (.sl σ) <;> rfl
   | cons x xs=>exact dat
  | _=>exact dat
theorem zDH (q:Bool) (s d:TypeId) (x:AV):zdS q E s d x (sw fr st) k = zdS q E s d x st fun v s=>k v (sw fr s):=rfl
theorem zzS (t:TypeId) (x:AV) (f:Nat):qB E t x f (sw fr st) k = qB E t x f st fun v s=>k v (sw fr s):=rfl
theorem zHW (v:AV):zam v (sw fr st) k = zam v st fun v s=>k v (sw fr s):=rfl
theorem zC3 {θ:Option Ty} {x:Operand} (h:∀ t,x = .tmp t→look fr t = look st.fr t):rd E (sw fr st) θ x = rd E st θ x:=by
 cases x with
 | tmp t=>unfold rd; simp only [zC2,h t rfl]
 | _=>rfl
theorem zKM (add:Bool) (args:List (Option AV)):znh add args (sw fr st) k = znh add args st fun v s=>k v (sw fr s):=rfl
theorem zJB (q:Bool) (c:Call) (h:∀ x ∈ c.operands,∀ t,x = .tmp t→look fr t = look st.fr t):zfb q E c (sw fr st) k = zfb q E c st fun v s=>k v (sw fr s):=by
 have hargs:∀ θ,∀ x ∈ c.args.toList,rd E (sw fr st) θ x = rd E st θ x:=fun θ x hx=>zC3 fun t ht=>h x (by simp only [Call.operands]; cases c.callee <;> simp [Array.mem_def.2 hx]) t ht
 have hmap:c.args.toList.map (rd E (sw fr st) none) = c.args.toList.map (rd E st none):=List.map_congr_left fun x hx=>hargs none x hx
 unfold zfb
 split
 ·split
  ·rw [hmap,zDF]
  ·split
   ·rw [hmap,zxR]
   ·split
    ·rw [hmap,zKM]
    ·rfl
 ·rename_i f _ hc
  rw [zC3 (x:=f) (θ:=none) fun t ht=>h f (by simp [Call.operands,hc]) t ht,hmap]
  split
  ·simp only [zxR]
  ·split
   ·rw [zDF]
   ·rfl
  ·rfl
 ·split
  ·rename_i x t hx ht
   rw [hargs none x (by rw [hx]; simp)]
   split
   ·rw [zKK]
   ·rfl
  ·rfl
 ·split
  ·rename_i x y t u hx ht
   rw [hargs _ x (by rw [hx]; simp),hargs _ y (by rw [hx]; simp)]
   split
   ·rw [zF7]
   ·rfl
  ·rfl
 ·split
  ·rename_i x y hx
   rw [hargs _ x (by rw [hx]; simp),hargs _ y (by rw [hx]; simp)]
  ·rfl
 ·split
  ·rename_i x y hx
   rw [hargs _ x (by rw [hx]; simp),hargs _ y (by rw [hx]; simp)]
  ·rfl
 ·rfl
theorem zHd (q:Bool) (op:Op) (ty:TypeId) (h:∀ x ∈ op.operands,∀ t,x = .tmp t→look fr t = look st.fr t):qJ q E op ty (sw fr st) k = qJ q E op ty st fun v s=>k v (sw fr s):=by
 have hr:∀ θ,∀ x ∈ op.operands,rd E (sw fr st) θ x = rd E st θ x:=fun θ x hx=>zC3 (h x hx)
 have hps:∀ θ (ps:Array (Nat × Operand)),(∀ p ∈ ps.toList,p.2 ∈ op.operands)→ps.toList.map (fun p=>(p.1,rd E (sw fr st) θ p.2)) = ps.toList.map (fun p=>(p.1,rd E st θ p.2)):=fun θ ps hp =>
  List.map_congr_left fun p hm=>by rw [hr θ p.2 (hp p hm)]
 have hm:∀ (xs:Array Operand),(∀ x ∈ xs.toList,x ∈ op.operands)→xs.toList.map (rd E (sw fr st) none) = xs.toList.map (rd E st none):=fun xs hx=>List.map_congr_left fun x hm=>hr none x (hx x hm)
 have ho:∀ (x:Option Operand),(∀ y,x = some y→y ∈ op.operands)→x.map (rd E (sw fr st) none) = x.map (rd E st none):=fun x hx=>by
  cases x with
  | none=>rfl
  | some y=>simp only [Option.map_some,hr none y (hx y rfl)]
 cases op <;> simp only [qJ]
 all_goals try rfl
 all_goals try (simp only [Op.operands,List.mem_toArray,List.mem_cons,List.not_mem_nil,or_false,forall_eq_or_imp,forall_eq] at hr)
 case move x =>
  cases x <;> simp only [zaB,hr,zBm]
 case assign x =>
  cases x <;> simp only [zaB,hr,zBm]
 case pick=>simp only [hr,zo7]
 case box=>simp only [hr,zHW,zff]
 case build t ps =>
  have hpf:∀ b:Ty,ps.toList.map (fun p=>(p.1,rd E (sw fr st) (zdX b p.1) p.2)) = ps.toList.map (fun p=>(p.1,rd E st (zdX b p.1) p.2)):=fun b =>
   List.map_congr_left fun p hm=>by rw [hr _ p.2 (by simpa [Op.operands] using ⟨p.1,by simpa using hm⟩)]
  rw [hps none ps fun p hp=>by simpa [Op.operands] using ⟨p.1,by simpa using hp⟩]
  split
  ·split
   ·rename_i b _
    rw [hpf b]
    simp only [zff]
    have:=zuq (fr:=fr) q b (ps.toList.map fun p=>(p.1,rd E st (zdX b p.1) p.2)) (jZ st.h b).1 ⟨st.fr,(jZ st.h b).2⟩
    simp only [zHR] at this
    rw [show (sw fr st).fr = fr from rfl,this]
    generalize zax q b (jZ st.h b).1 (ps.toList.map fun p=>(p.1,rd E st (zdX b p.1) p.2)) ⟨st.fr,(jZ st.h b).2⟩ = o
    cases o <;> rfl
   ·split
    ·rfl
    ·rw [zxP]
     cases za8 q _ _ _ st <;> rfl
  ·rfl
 case buildSlice t n ps =>
  split
  ·rename_i τ _
   have hps':ps.toList.map (fun p=>(p.1,rd E (sw fr st) (some τ) p.2)) = ps.toList.map (fun p=>(p.1,rd E st (some τ) p.2)):=hps (some τ) ps fun p hp=>by simpa [Op.operands] using ⟨p.1,by simpa using hp⟩
   have hb:∀ k:AV→St→Option R,zb6 q τ n (ps.toList.map fun p=>(p.1,rd E st (some τ) p.2)) (sw fr st) k = zb6 q τ n (ps.toList.map fun p=>(p.1,rd E st (some τ) p.2)) st fun v s=>k v (sw fr s):=fun k=>by
    unfold zb6
    rw [zrs]
    cases vQ q _ _ _ st <;> rfl
   rw [hps']
   simp only [zff]
   cases zxn E st.h τ n (ps.toList.map fun p=>(p.1,rd E st (some τ) p.2)) with
   | none =>
    simp only
    split
    ·rfl
    ·exact hb k
   | some p=>rfl
  ·rfl
 case load=>simp only [hr,zJy]
 case store=>simp only [hr,zHT]
 case nilCheck=>simp only [hr,zff]
 case binOp=>simp only [hr,zJx]
 case unOp=>simp only [hr,zLI]
 case convert=>simp only [hr,zDH]
 case makeFunc fn first caps =>
  rw [hm first fun x hx=>by simp [Op.operands,Array.mem_def.2 hx],hm caps fun x hx=>by simp [Op.operands,Array.mem_def.2 hx],zBS]
 case makeMap t r=>cases r <;> rfl
 case makeSlice=>simp only [hr,zff,zC2,zHR]
 case slice t x lo hi mx =>
  rw [hr none x (by simp [Op.operands]),ho lo (fun y hy=>by simp [Op.operands,hy]),ho hi (fun y hy=>by simp [Op.operands,hy]),ho mx (fun y hy=>by simp [Op.operands,hy])]
  simp only [zHV]
 case fieldAddr=>simp only [hr,zzS]
 case field=>simp only [hr,zo7]
 case indexAddr=>simp only [hr,zzP]
 case index=>simp only [hr,zHU]
 case lookup=>simp only [hr,zF8]
 case mapUpdate=>simp only [hr,zzR]
 case extract=>simp only [hr,zo7]
 case call c=>exact zJB q c h
theorem zqJ {o:Oper} {t:Nat}:t ∈ zde o ↔ .tmp t ∈ o.op.operands:=by
 unfold zde
 rw [List.mem_filterMap]
 constructor
 ·rintro ⟨x,hx,h⟩
  cases x <;> simp at h
  subst h
  simpa using hx
 ·intro h
  exact ⟨.tmp t,by simpa using h,rfl⟩
theorem zqK {q:Bool} {op:Op} {ty:TypeId} {v:AV} {st':St} (h:qJ q E op ty st pk = some (v,st')):st'.fr = st.fr:=by
 have h1:=zHd (k:=pk) (st:=st) (E:=E) (fr:=st.fr) q op ty (fun _ _ _ _=>rfl)
 rw [show sw st.fr st = st from rfl,jw (k:=fun v s=>pk v (sw st.fr s)),h] at h1
 simp only [Option.bind_some,Option.some.injEq,Prod.mk.injEq] at h1
 rw [h1.2]; rfl
theorem zv8 {q:Bool} {op:Op} {ty:TypeId} {v:AV} {st':St} (h:qJ q E op ty st pk = some (v,st')) (ha:∀ t,.tmp t ∈ op.operands→look fr t = look st.fr t):qJ q E op ty (sw fr st) pk = some (v,sw fr st'):=by
 rw [zHd q op ty (fun x hx t ht=>ha t (ht ▸ hx)),jw,h]
 rfl
end
end Go.Ev
end
section
namespace Go.Ev
open Go.RowKit
def AV.rn1 (ρ:Nat→Nat):AV→AV
 | .bp id p=>.bp (ρ id) p
 | .rp id i p=>.rp (ρ id) i p
 | .ow id=>.ow (ρ id)
 | .om id=>.om (ρ id)
 | .ds id i p=>.ds (ρ id) i p
 | .dp id i p j q=>.dp (ρ id) i p j q
 | .clo f l=>.clo f (l.map ρ)
 | .gs id n=>.gs (ρ id) n
 | v=>v
def AV.rn (ρ:Nat→Nat):AV→AV
 | .fld a vs=>.fld a (vs.map (AV.rn1 ρ))
 | v=>v.rn1 ρ
def Obj.rn (ρ:Nat→Nat):Obj→Obj
 | .bx v f=>.bx (v.rn ρ) f
 | o=>o
theorem AV.sh1_rn (n:Nat) (v:AV):v.sh1 n = v.rn1 (n + ·):=by cases v <;> rfl
theorem AV.ren1_rn (l:List Nat) (v:AV):v.ren1 l = v.rn1 (zan l):=by cases v <;> rfl
theorem AV.sh_rn (n:Nat) (v:AV):v.sh n = v.rn (n + ·):=by
 cases v with
 | fld a vs=>simp only [AV.sh,AV.rn]; rw [List.map_congr_left fun x _=>AV.sh1_rn n x]
 | _=>rfl
theorem AV.ren_rn (l:List Nat) (v:AV):v.ren l = v.rn (zan l):=by
 cases v with
 | fld a vs=>simp only [AV.ren,AV.rn]; rw [List.map_congr_left fun x _=>AV.ren1_rn l x]
 | _=>rfl
theorem Obj.sh_rn (n:Nat) (o:Obj):o.sh n = o.rn (n + ·):=by cases o <;> simp only [Obj.sh,Obj.rn,AV.sh_rn]
theorem Obj.ren_rn (l:List Nat) (o:Obj):o.ren l = o.rn (zan l):=by cases o <;> simp only [Obj.ren,Obj.rn,AV.ren_rn]
theorem zJC (ρ:Nat→Nat) (v:AV):bxT (v.rn ρ) = bxT v:=by cases v <;> rfl
theorem zv9 (ρ:Nat→Nat) (o:Obj):rowTL (o.rn ρ) = rowTL o:=by cases o <;> rfl
theorem zsQ (ρ:Nat→Nat) (o:Obj) (j:Nat):(o.rn ρ).deepAt j = o.deepAt j:=by cases o <;> rfl
theorem zur {h:List Obj} {i:Nat} {σ:Ty}:zbg h i = some σ ↔ ∃ o,atN h i = some o ∧ (rowTL o).map (·.1) = some σ:=by
 unfold zbg
 constructor
 ·intro hT
  cases ho:atN h i with
  | none=>rw [ho] at hT; cases hT
  | some o =>
   rw [ho] at hT
   cases o <;> first | (cases hT; exact ⟨_,rfl,rfl⟩) | cases hT
 ·rintro ⟨o,ho,hT⟩
  rw [ho]
  cases o <;> first | exact hT | cases hT
section
variable {P:Program} {h h2:List Obj} {m m2:MM} {F:FH} {ρ:Nat→Nat} {v:AV} {u:Value}
theorem zb9.rn {id:Nat} {p:List Nat} (hr:∀ o,atN h id = some o→atN h2 (ρ id) = some (o.rn ρ) ∧ m2 (ρ id) = m id) (hv:zb9 h m id p u):zb9 h2 m2 (ρ id) p u:=by
 rcases hv with hg | ⟨b,n,o,off,h1,ho,h3,h4⟩
 ·exact .inl (hr _ hg).1
 ·obtain ⟨e1,e2⟩:=hr _ ho
  refine .inr ⟨b,n,o.rn ρ,off,by rw [e2]; exact h1,e1,h3,?_⟩
  cases o with
  | bx v f=>simp only [Obj.rn,zJC]; exact h4
  | _=>exact h4.elim
theorem zF.rn (hr:∀ i,v.has1 i = true→∀ o,atN h i = some o→atN h2 (ρ i) = some (o.rn ρ) ∧ m2 (ρ i) = m i ∧ m2.d (ρ i) = m.d i) (hv:zF P h m F v u):zF P h2 m2 F (v.rn1 ρ) u:=by
 cases v with
 | dat τ x=>exact hv
 | clip τ xs=>exact hv
 | bp id p=>exact zb9.rn (fun o ho=>⟨(hr id (Nat.beq_refl _) o ho).1,(hr id (Nat.beq_refl _) o ho).2.1⟩) hv
 | clo f l =>
  obtain ⟨caps,e1,e2,h1⟩:=hv
  refine ⟨caps,e1,by rw [List.length_map]; exact e2,fun i id hi=>?_⟩
  rw [List.getElem?_map] at hi
  obtain ⟨x,hx,rfl⟩:=Option.map_eq_some_iff.1 hi
  obtain ⟨u,hu,hb⟩:=h1 i x hx
  exact ⟨u,hu,hb.rn fun o ho=>⟨(hr x (zuk hx) o ho).1,(hr x (zuk hx) o ho).2.1⟩⟩
 | gs id k =>
  have hi:=hr id (Nat.beq_refl _)
  rcases hv with hg | ⟨b,n,a,u,fz,h1,ho,h3,h4⟩
  ·exact .inl (hi _ hg).1
  ·obtain ⟨e1,e2,_⟩:=hi _ ho
   exact .inr ⟨b,n,a,u.rn ρ,fz,by rw [e2]; exact h1,e1,by rw [zJC]; exact h3,h4⟩
 | rp id i p =>
  have hi:=hr id (Nat.beq_refl _)
  rcases hv with hg | ⟨b,n,o,τ,len,off,σ,h1,ho,h3,h4,h5⟩
  ·exact .inl (hi _ hg).1
  ·obtain ⟨e1,e2,_⟩:=hi _ ho
   exact .inr ⟨b,n,o.rn ρ,τ,len,off,σ,by rw [e2]; exact h1,e1,by rw [zv9]; exact h3,h4,h5⟩
 | ow id =>
  have hi:=hr id (Nat.beq_refl _)
  rcases hv with hg | ⟨o,τ,len,ho,h3,h4⟩
  ·exact .inl (hi _ hg).1
  ·obtain ⟨e1,e2,_⟩:=hi _ ho
   exact .inr ⟨o.rn ρ,τ,len,e1,by rw [zv9]; exact h3,by rw [e2]; exact h4⟩
 | om id =>
  have hi:=hr id (Nat.beq_refl _)
  rcases hv with hg | ⟨b,n,κ,σ,es,h1,ho,h3⟩
  ·exact .inl (hi _ hg).1
  ·obtain ⟨e1,e2,_⟩:=hi _ ho
   exact .inr ⟨b,n,κ,σ,es,by rw [e2]; exact h1,e1,h3⟩
 | ds id i p =>
  have hi:=hr id (Nat.beq_refl _)
  obtain ⟨o,ho,hnh,h3⟩:=hv
  obtain ⟨e1,e2,e3⟩:=hi _ ho
  refine ⟨o.rn ρ,e1,by cases o <;> first | exact absurd rfl hnh | (simp [Obj.rn]),fun τ xs k e=>?_⟩
  have ho':o = .drow τ xs k:=by
   cases o with
   | drow _ _ _=>exact e
   | _=>cases e
  obtain ⟨g1,σ,len,g2,g3⟩:=h3 τ xs k ho'
  exact ⟨g1,σ,len,g2,by unfold zsG at g3 ⊢; rw [e3]; exact g3⟩
 | dp id i p j q =>
  have hi:=hr id (Nat.beq_refl _)
  obtain ⟨o,ho,hnh,h3⟩:=hv
  obtain ⟨e1,e2,e3⟩:=hi _ ho
  refine ⟨o.rn ρ,e1,by cases o <;> first | exact absurd rfl hnh | (simp [Obj.rn]),fun τ xs k e=>?_⟩
  have ho':o = .drow τ xs k:=by
   cases o with
   | drow _ _ _=>exact e
   | _=>cases e
  obtain ⟨g1,σ,len,off,ρ',b,n,g2,g3,g4,g5⟩:=h3 τ xs k ho'
  exact ⟨g1,σ,len,off,ρ',b,n,g2,g3,by rw [e3]; exact g4,g5⟩
 | tup vs=>exact hv.elim
 | fld a vs=>exact hv.elim
 | dead=>trivial
theorem vR.rn {t:Ty} {cs:List Value} (hr:∀ i,v.has1 i = true→∀ o,atN h i = some o→atN h2 (ρ i) = some (o.rn ρ) ∧ m2 (ρ i) = m i ∧ m2.d (ρ i) = m.d i) (hv:vR P h m F t v cs):vR P h2 m2 F t (v.rn1 ρ) cs:=by
 cases v with
 | dat τ x=>exact hv
 | ow id =>
  have hi:=hr id (Nat.beq_refl _)
  obtain ⟨σ,u,rfl,rfl,h1,h2',h3⟩:=hv
  refine ⟨σ,u,rfl,rfl,zF.rn hr h1,?_,h3⟩
  rcases h2' with hg | hT
  ·exact .inl (hi _ hg).1
  ·right
   obtain ⟨o,ho,hl⟩:=zur.1 hT
   exact zur.2 ⟨o.rn ρ,(hi _ ho).1,by rw [zv9]; exact hl⟩
 | ds id i p =>
  obtain ⟨σ,u,rfl,rfl,h1,h3⟩:=hv
  exact ⟨σ,u,rfl,rfl,zF.rn (v:=.ds id i p) hr h1,h3⟩
 | clo f l =>
  obtain ⟨x,y,u,rfl,rfl,h1⟩:=hv
  exact ⟨x,y,u,rfl,rfl,zF.rn (v:=.clo f l) hr h1⟩
 | _=>exact hv.elim
theorem zX.rn:∀ {b:Ty} {vs:List AV} {cs:List Value},(∀ v ∈ vs,∀ i,v.has1 i = true→∀ o,atN h i = some o→atN h2 (ρ i) = some (o.rn ρ) ∧ m2 (ρ i) = m i ∧ m2.d (ρ i) = m.d i)→zX P h m F b vs cs→zX P h2 m2 F b (vs.map (AV.rn1 ρ)) cs:=by
 intro b
 induction b with
 | unit =>
  intro vs cs _ hv
  cases vs with
  | nil=>exact hv
  | cons _ _=>exact hv.elim
 | pair a b _ ihb =>
  intro vs cs hr hv
  cases vs with
  | nil=>exact hv.elim
  | cons v vs =>
   obtain ⟨c,d,e,h1,h2'⟩:=hv
   exact ⟨c,d,e,h1.rn (hr v (by simp)),ihb (fun v' hv'=>hr v' (by simp [hv'])) h2'⟩
 | _=>intro vs cs _ hv; cases vs <;> exact hv.elim
theorem zE.rn (hr:∀ i,v.has i = true→∀ o,atN h i = some o→atN h2 (ρ i) = some (o.rn ρ) ∧ m2 (ρ i) = m i ∧ m2.d (ρ i) = m.d i) (hv:zE P h m F v u):zE P h2 m2 F (v.rn ρ) u:=by
 cases v with
 | fld a vs =>
  obtain ⟨cs,e,h1⟩:=hv
  exact ⟨cs,e,h1.rn fun v hv i hi o ho=>hr i (by simp only [AV.has,List.any_eq_true]; exact ⟨v,hv,hi⟩) o ho⟩
 | tup vs=>exact hv.elim
 | dat τ x=>exact hv
 | clip τ xs=>exact hv
 | bp id p=>exact zF.rn (P:=P) (F:=F) (v:=.bp id p) hr hv
 | rp id i p=>exact zF.rn (P:=P) (F:=F) (v:=.rp id i p) hr hv
 | ow id=>exact zF.rn (P:=P) (F:=F) (v:=.ow id) hr hv
 | om id=>exact zF.rn (P:=P) (F:=F) (v:=.om id) hr hv
 | ds id i p=>exact zF.rn (P:=P) (F:=F) (v:=.ds id i p) hr hv
 | dp id i p j q=>exact zF.rn (P:=P) (F:=F) (v:=.dp id i p j q) hr hv
 | clo f l=>exact zF.rn (P:=P) (F:=F) (v:=.clo f l) hr hv
 | gs id k=>exact zF.rn (P:=P) (F:=F) (v:=.gs id k) hr hv
 | dead=>trivial
theorem z6.rn {w:World} {i j:Nat} {o:Obj} (hr:∀ v f,o = .bx v f→∀ i,v.has i = true→∀ o,atN h i = some o→atN h2 (ρ i) = some (o.rn ρ) ∧ m2 (ρ i) = m i ∧ m2.d (ρ i) = m.d i) (hij:m2 j = m i) (hijd:m2.d j = m.d i) (ho:z6 P h m F w i o):z6 P h2 m2 F w j (o.rn ρ):=by
 cases o with
 | bx v fz =>
  obtain ⟨b,n,el,fr,cs,h1,h2',h3,h4⟩:=ho
  refine ⟨b,n,el,fr,cs,by rw [hij]; exact h1,h2',?_,h4⟩
  have hr':=hr v fz rfl
  cases v with
  | dat τ x=>exact h3
  | fld a vs=>exact zX.rn (fun v hv i hi o ho=>hr' i (by simp only [AV.has,List.any_eq_true]; exact ⟨v,hv,hi⟩) o ho) h3
  | clip τ xs=>obtain ⟨u,e,hu⟩:=h3; exact ⟨u,e,hu⟩
  | ow id=>obtain ⟨u,e,hu⟩:=h3; exact ⟨u,e,zE.rn hr' hu⟩
  | om id=>obtain ⟨u,e,hu⟩:=h3; exact ⟨u,e,zE.rn hr' hu⟩
  | dead=>exact h3
  | _=>exact h3.elim
 | row τ xs fz =>
  simp only [z6,Obj.rn] at ho ⊢
  rw [hij]; exact ho
 | drow τ xs k =>
  simp only [z6,Obj.rn] at ho ⊢
  rw [hij,hijd]; exact ho
 | mp κ σ es =>
  obtain ⟨b,n,ents,clock,h1,h2',h3,h4⟩:=ho
  exact ⟨b,n,ents,clock,by rw [hij]; exact h1,h2',h3,h4⟩
 | gone=>trivial
 | hole=>exact hij.trans ho
end
theorem zb9.noHole {h:List Obj} {m:MM} {u:Value} {id:Nat} {p:List Nat} (hv:zb9 h m id p u):atN h id ≠ some .hole:=by
 intro hh
 rcases hv with hg | ⟨b,n,o,off,h1,h2,h3,h4⟩
 ·rw [hh] at hg; cases hg
 ·rw [hh] at h2; cases h2; exact h4
theorem zb9.there {h:List Obj} {m:MM} {u:Value} {id:Nat} {p:List Nat} (hv:zb9 h m id p u):∃ o,atN h id = some o:=by
 rcases hv with hg | ⟨b,n,o,off,h1,h2,_⟩
 ·exact ⟨_,hg⟩
 ·exact ⟨_,h2⟩
theorem zo8 {f:Nat} {l:List Nat} {i:Nat} (h:(AV.clo f l).has1 i = true):∃ k:Nat,l[k]? = some i:=by
 obtain ⟨x,hx,e⟩:=List.any_eq_true.1 h
 rw [Nat.eq_of_beq_eq_true e] at hx
 exact List.getElem?_of_mem hx
theorem zF.noHole {P:Program} {h:List Obj} {m:MM} {F:FH} {v:AV} {u:Value} {i:Nat} (hv:zF P h m F v u) (hi:v.has1 i = true):atN h i ≠ some .hole:=by
 intro hh
 cases v with
 | bp id p =>
  obtain rfl:id = i:=Nat.eq_of_beq_eq_true hi
  exact zb9.noHole hv hh
 | clo f l =>
  obtain ⟨k,hk⟩:=zo8 hi
  obtain ⟨caps,_,_,h1⟩:=hv
  obtain ⟨u,_,hb⟩:=h1 k i hk
  exact hb.noHole hh
 | gs id k =>
  obtain rfl:id = i:=Nat.eq_of_beq_eq_true hi
  rcases hv with hg | ⟨b,n,a,u,fz,h1,h2,_⟩
  ·rw [hh] at hg; cases hg
  ·rw [hh] at h2; cases h2
 | rp id j p =>
  obtain rfl:id = i:=Nat.eq_of_beq_eq_true hi
  rcases hv with hg | ⟨b,n,o,τ,len,off,σ,h1,h2,h3,_⟩
  ·rw [hh] at hg; cases hg
  ·rw [hh] at h2; cases h2; cases h3
 | ow id =>
  obtain rfl:id = i:=Nat.eq_of_beq_eq_true hi
  rcases hv with hg | ⟨o,τ,len,h2,h3,_⟩
  ·rw [hh] at hg; cases hg
  ·rw [hh] at h2; cases h2; cases h3
 | om id =>
  obtain rfl:id = i:=Nat.eq_of_beq_eq_true hi
  rcases hv with hg | ⟨b,n,κ,σ,es,h1,h2,_⟩
  ·rw [hh] at hg; cases hg
  ·rw [hh] at h2; cases h2
 | ds id j p =>
  obtain rfl:id = i:=Nat.eq_of_beq_eq_true hi
  obtain ⟨o,h2,h3,_⟩:=hv
  rw [hh] at h2; cases h2; exact h3 rfl
 | dp id j p l q =>
  obtain rfl:id = i:=Nat.eq_of_beq_eq_true hi
  obtain ⟨o,h2,h3,_⟩:=hv
  rw [hh] at h2; cases h2; exact h3 rfl
 | _=>cases hi
theorem vR.noHole {P:Program} {h:List Obj} {m:MM} {F:FH} {t:Ty} {v:AV} {cs:List Value} {i:Nat} (hv:vR P h m F t v cs) (hi:v.has1 i = true):atN h i ≠ some .hole:=by
 cases v with
 | ow id=>obtain ⟨σ,u,_,_,h1,_⟩:=hv; exact zF.noHole h1 hi
 | ds id j p=>obtain ⟨σ,u,_,_,h1,_⟩:=hv; exact zF.noHole (v:=.ds id j p) h1 hi
 | clo f l=>obtain ⟨x,y,u,_,_,h1⟩:=hv; exact zF.noHole (v:=.clo f l) h1 hi
 | dat τ x=>cases hi
 | _=>exact hv.elim
theorem zX.noHole {P:Program} {h:List Obj} {m:MM} {F:FH} {i:Nat}:∀ {b:Ty} {vs:List AV} {cs:List Value},zX P h m F b vs cs→∀ v ∈ vs,v.has1 i = true→atN h i ≠ some .hole:=by
 intro b
 induction b with
 | unit=>intro vs cs hv v hm; cases vs with
  | nil=>cases hm
  | cons _ _=>exact hv.elim
 | pair a b _ ihb =>
  intro vs cs hv v hm hi
  cases vs with
  | nil=>exact hv.elim
  | cons x vs =>
   obtain ⟨c,d,e,h1,h2⟩:=hv
   rcases List.mem_cons.1 hm with rfl | hm
   ·exact h1.noHole hi
   ·exact ihb h2 v hm hi
 | _=>intro vs cs hv; cases vs <;> exact hv.elim
theorem zE.noHole {P:Program} {h:List Obj} {m:MM} {F:FH} {v:AV} {u:Value} {i:Nat} (hv:zE P h m F v u) (hi:v.has i = true):atN h i ≠ some .hole:=by
 cases v with
 | fld a vs =>
  obtain ⟨cs,_,h1⟩:=hv
  simp only [AV.has,List.any_eq_true] at hi
  obtain ⟨x,hx,hxi⟩:=hi
  exact h1.noHole x hx hxi
 | tup vs=>exact hv.elim
 | dat τ x=>cases hi
 | clip τ xs=>cases hi
 | bp id p=>exact zF.noHole (P:=P) (F:=F) (v:=.bp id p) hv hi
 | rp id j p=>exact zF.noHole (P:=P) (F:=F) (v:=.rp id j p) hv hi
 | ow id=>exact zF.noHole (P:=P) (F:=F) (v:=.ow id) hv hi
 | om id=>exact zF.noHole (P:=P) (F:=F) (v:=.om id) hv hi
 | ds id j p=>exact zF.noHole (P:=P) (F:=F) (v:=.ds id j p) hv hi
 | dp id j p l q=>exact zF.noHole (P:=P) (F:=F) (v:=.dp id j p l q) hv hi
 | clo f l=>exact zF.noHole (P:=P) (F:=F) (v:=.clo f l) hv hi
 | gs id k=>exact zF.noHole (P:=P) (F:=F) (v:=.gs id k) hv hi
 | dead=>cases hi
theorem zF.there {P:Program} {h:List Obj} {m:MM} {F:FH} {v:AV} {u:Value} {i:Nat} (hv:zF P h m F v u) (hi:v.has1 i = true):∃ o,atN h i = some o:=by
 cases v with
 | bp id p =>
  obtain rfl:id = i:=Nat.eq_of_beq_eq_true hi
  exact zb9.there hv
 | clo f l =>
  obtain ⟨k,hk⟩:=zo8 hi
  obtain ⟨caps,_,_,h1⟩:=hv
  obtain ⟨u,_,hb⟩:=h1 k i hk
  exact hb.there
 | gs id k =>
  obtain rfl:id = i:=Nat.eq_of_beq_eq_true hi
  rcases hv with hg | ⟨b,n,a,u,fz,h1,h2,_⟩
  ·exact ⟨_,hg⟩
  ·exact ⟨_,h2⟩
 | rp id j p =>
  obtain rfl:id = i:=Nat.eq_of_beq_eq_true hi
  rcases hv with hg | ⟨b,n,o,τ,len,off,σ,h1,h2,_⟩
  ·exact ⟨_,hg⟩
  ·exact ⟨_,h2⟩
 | ow id =>
  obtain rfl:id = i:=Nat.eq_of_beq_eq_true hi
  rcases hv with hg | ⟨o,τ,len,h2,_⟩
  ·exact ⟨_,hg⟩
  ·exact ⟨_,h2⟩
 | om id =>
  obtain rfl:id = i:=Nat.eq_of_beq_eq_true hi
  rcases hv with hg | ⟨b,n,κ,σ,es,h1,h2,_⟩
  ·exact ⟨_,hg⟩
  ·exact ⟨_,h2⟩
 | ds id j p =>
  obtain rfl:id = i:=Nat.eq_of_beq_eq_true hi
  obtain ⟨o,h2,_⟩:=hv
  exact ⟨_,h2⟩
 | dp id j p l q =>
  obtain rfl:id = i:=Nat.eq_of_beq_eq_true hi
  obtain ⟨o,h2,_⟩:=hv
  exact ⟨_,h2⟩
 | _=>cases hi
theorem zX.there {P:Program} {h:List Obj} {m:MM} {F:FH} {i:Nat}:∀ {b:Ty} {vs:List AV} {cs:List Value},zX P h m F b vs cs→∀ v ∈ vs,v.has1 i = true→∃ o,atN h i = some o:=by
 intro b
 induction b with
 | unit=>intro vs cs hv v hm; cases vs with
  | nil=>cases hm
  | cons _ _=>exact hv.elim
 | pair a b _ ihb =>
  intro vs cs hv v hm hi
  cases vs with
  | nil=>exact hv.elim
  | cons x vs =>
   obtain ⟨c,d,e,h1,h2⟩:=hv
   rcases List.mem_cons.1 hm with rfl | hm
   ·cases v with
    | ow id=>obtain ⟨σ,u,_,_,h1,_⟩:=h1; exact zF.there h1 hi
    | ds id j p=>obtain ⟨σ,u,_,_,h1,_⟩:=h1; exact zF.there (v:=.ds id j p) h1 hi
    | clo f l=>obtain ⟨x,y,u,_,_,h1⟩:=h1; exact zF.there (v:=.clo f l) h1 hi
    | dat τ x=>cases hi
    | _=>exact h1.elim
   ·exact ihb h2 v hm hi
 | _=>intro vs cs hv; cases vs <;> exact hv.elim
theorem zE.there {P:Program} {h:List Obj} {m:MM} {F:FH} {v:AV} {u:Value} {i:Nat} (hv:zE P h m F v u) (hi:v.has i = true):∃ o,atN h i = some o:=by
 cases v with
 | fld a vs =>
  obtain ⟨cs,_,h1⟩:=hv
  simp only [AV.has,List.any_eq_true] at hi
  obtain ⟨x,hx,hxi⟩:=hi
  exact h1.there x hx hxi
 | tup vs=>exact hv.elim
 | dat τ x=>cases hi
 | clip τ xs=>cases hi
 | bp id p=>exact zF.there (P:=P) (F:=F) (v:=.bp id p) hv hi
 | rp id j p=>exact zF.there (P:=P) (F:=F) (v:=.rp id j p) hv hi
 | ow id=>exact zF.there (P:=P) (F:=F) (v:=.ow id) hv hi
 | om id=>exact zF.there (P:=P) (F:=F) (v:=.om id) hv hi
 | ds id j p=>exact zF.there (P:=P) (F:=F) (v:=.ds id j p) hv hi
 | dp id j p l q=>exact zF.there (P:=P) (F:=F) (v:=.dp id j p l q) hv hi
 | clo f l=>exact zF.there (P:=P) (F:=F) (v:=.clo f l) hv hi
 | gs id k=>exact zF.there (P:=P) (F:=F) (v:=.gs id k) hv hi
 | dead=>cases hi
theorem zE.real {P:Program} {h:List Obj} {m:MM} {F:FH} {v:AV} {u:Value} {i:Nat} (hv:zE P h m F v u) (hi:v.has i = true):∃ o,atN h i = some o ∧ o ≠ .hole:=by
 obtain ⟨o,ho⟩:=hv.there hi
 exact ⟨o,ho,fun e=>hv.noHole hi (e ▸ ho)⟩
theorem AV.rn1_id (v:AV):v.rn1 (fun i=>i) = v:=by cases v <;> first | rfl | simp [AV.rn1]
theorem AV.rn_id (v:AV):v.rn (fun i=>i) = v:=by
 cases v with
 | fld a vs=>simp only [AV.rn]; rw [List.map_congr_left fun x _=>AV.rn1_id x,List.map_id']
 | clo f l=>exact AV.rn1_id (.clo f l)
 | _=>rfl
theorem Obj.rn_id (o:Obj):o.rn (fun i=>i) = o:=by cases o <;> simp only [Obj.rn,AV.rn_id]
section
variable {P:Program} {h h2:List Obj} {m m2:MM} {F:FH} {v:AV} {u:Value}
def zDI (h h2:List Obj) (m m2:MM):Prop:=∀ i o,atN h i = some o→o ≠ .hole→atN h2 i = some o ∧ m2 i = m i ∧ m2.d i = m.d i
theorem zE.keep (hk:zDI h h2 m m2) (hv:zE P h m F v u):zE P h2 m2 F v u:=by
 have:=zE.rn (ρ:=fun i=>i) (h2:=h2) (m2:=m2) (fun i hi o ho=>by
  rw [Obj.rn_id]
  exact hk i o ho (fun e=>hv.noHole hi (e ▸ ho))) hv
 rwa [AV.rn_id] at this
theorem zh.keep (hk:zDI h h2 m m2) (hv:zh P h m F v u):zh P h2 m2 F v u:=by
 cases v with
 | tup vs =>
  obtain ⟨arr,e,h1,h3⟩:=hv
  exact ⟨arr,e,h1,fun i x hx=>let ⟨y,hy,hxy⟩:=h3 i x hx; ⟨y,hy,hxy.keep hk⟩⟩
 | _ =>
  rw [zh.eq1 (by intro vs e; cases e)] at hv
  exact zh.of1 (hv.keep hk)
theorem z6.keep {w:World} {i:Nat} {o:Obj} (hk:zDI h h2 m m2) (hi:m2 i = m i) (hid:m2.d i = m.d i) (ho:z6 P h m F w i o):z6 P h2 m2 F w i o:=by
 cases o with
 | bx v fz =>
  obtain ⟨b,n,el,fr,cs,h1,h2',h3,h4⟩:=ho
  refine ⟨b,n,el,fr,cs,by rw [hi]; exact h1,h2',?_,h4⟩
  cases v with
  | dat τ x=>exact h3
  | fld a vs =>
   have:=zE.keep (u:=.agg ⟨cs.toList⟩) hk (show zE P h m F (.fld a vs) (.agg ⟨cs.toList⟩) from ⟨_,rfl,h3⟩)
   obtain ⟨cs',e,h5⟩:=this
   cases e
   exact h5
  | clip τ xs=>obtain ⟨u,e,hu⟩:=h3; exact ⟨u,e,hu⟩
  | ow id=>obtain ⟨u,e,hu⟩:=h3; exact ⟨u,e,zE.keep hk hu⟩
  | om id=>obtain ⟨u,e,hu⟩:=h3; exact ⟨u,e,zE.keep hk hu⟩
  | dead=>exact h3
  | _=>exact h3.elim
 | row τ xs fz=>simp only [z6] at ho ⊢; rw [hi]; exact ho
 | drow τ xs k=>simp only [z6] at ho ⊢; rw [hi,hid]; exact ho
 | mp κ σ es =>
  obtain ⟨b,n,ents,clock,h1,h2',h3,h4⟩:=ho
  exact ⟨b,n,ents,clock,by rw [hi]; exact h1,h2',h3,h4⟩
 | gone=>trivial
 | hole=>exact hi.trans ho
end
section
variable {P:Program} {h h2:List Obj} {m m2:MM} {F:FH} {ρ:Nat→Nat} {v:AV} {u:Value}
theorem zE.pure (hp:v.pure1 = true) (hv:zE P h m F v u):zE P h2 m2 F v u:=by
 cases v <;> first | exact hv | cases hp
theorem zh.pure (hp:v.pure = true) (hv:zh P h m F v u):zh P h2 m2 F v u:=by
 cases v with
 | tup vs =>
  obtain ⟨arr,e,h1,h3⟩:=hv
  refine ⟨arr,e,h1,fun i x hx=>?_⟩
  obtain ⟨y,hy,hxy⟩:=h3 i x hx
  refine ⟨y,hy,hxy.pure ?_⟩
  simp only [AV.pure,List.all_eq_true] at hp
  exact hp x (List.mem_of_getElem? hx)
 | _=>first | exact hv | (cases hp)
end
section
variable {P:Program} {nt:Up} {F0 F F':FH} {w0 w w':World} {st:St} {m m':MM} {a:Act} {fr fr':List (Nat × AV)} {H h':List Obj}
theorem Rel.start (h:Rel P nt F0 w0 st m F a w) (hf:∀ t v,look fr' t = some v→v.pure = true ∧ zh P st.h m F v (a.tmps.getD t undef)):Rel P ⟨nt.n,[],F⟩ F w ⟨fr',[]⟩ .emp F a w :=
 ⟨h.nt,fun t v ht=>(hf t v ht).2.pure (hf t v ht).1,fun _ _ h=>(nomatch h),.refl F,fun i o ho=>(by simp [atN] at ho),fun _ _ _ _ _ h=>(nomatch h),fun _ _ _ h=>(nomatch h),fun _ _ _ _ _ h=>(nomatch h),fun _ _ _ _ _ _ _ _ _ h=>(nomatch h),h.fok,⟨.refl F,fun _ _=>rfl⟩,⟨rfl,rfl,rfl,Nat.le_refl _,fun _ _=>rfl⟩,h.dfr⟩
def MM.cat (m:MM) (n:Nat) (m':MM):MM:=⟨fun i=>if i < n then m i else m' (i - n),fun i=>if i < n then m.d i else m'.d (i - n)⟩
theorem MM.cat_f (m:MM) {n i:Nat} (m':MM) (h:i < n):(m.cat n m') i = m i:=by show (if i < n then m i else m' (i - n)) = m i; rw [if_pos h]
theorem MM.cat_d (m:MM) {n i:Nat} (m':MM) (h:i < n):(m.cat n m').d i = m.d i:=by show (if i < n then m.d i else m'.d (i - n)) = m.d i; rw [if_pos h]
theorem MM.cat_f2 (m:MM) (n i:Nat) (m':MM):(m.cat n m') (n + i) = m' i:=by show (if n + i < n then m (n + i) else m' (n + i - n)) = m' i; rw [if_neg (by omega),Nat.add_sub_cancel_left]
theorem MM.cat_d2 (m:MM) (n i:Nat) (m':MM):(m.cat n m').d (n + i) = m'.d i:=by show (if n + i < n then m.d (n + i) else m'.d (n + i - n)) = m'.d i; rw [if_neg (by omega),Nat.add_sub_cancel_left]
theorem zdi {n j:Nat} (h:¬ j < n):∃ i,j = n + i:=⟨j - n,by omega⟩
theorem zzT {H h':List Obj} {i:Nat} {o:Obj} (ho:atN h' i = some o):atN (H ++ h'.map (Obj.sh H.length)) (H.length + i) = some (o.rn (H.length + ·)):=by
 rw [z7,List.getElem?_append_right (by omega),Nat.add_sub_cancel_left,List.getElem?_map,← z7,ho,Option.map_some,Obj.sh_rn]
theorem Rel.cat {nt2:Up} (h:Rel P nt F0 w0 ⟨fr,H⟩ m F a w) (h2:Rel P nt2 F w ⟨fr',h'⟩ m' F' a w') (hle:F.le F'):Rel P nt F0 w0 ⟨fr,H ++ h'.map (Obj.sh H.length)⟩ (m.cat H.length m') F' a w':=by
 have h1:=h.step (F':=F') h2.bel h2.gro h2.fok
 have hm:∀ j u,atN H j = some u→jc (H ++ h'.map (Obj.sh H.length)) m (m.cat H.length m') j u:=fun j u hu=>⟨MM.cat_f m m' (je hu),fun _ _ _ _=>by rw [MM.cat_d m m' (je hu)]⟩
 have hh:HLe H (H ++ h'.map (Obj.sh H.length)):=HLe.append _ _
 have hR:∀ i o,atN h' i = some o→atN (H ++ h'.map (Obj.sh H.length)) (H.length + i) = some (o.rn (H.length + ·)) ∧ (m.cat H.length m') (H.length + i) = m' i ∧ (m.cat H.length m').d (H.length + i) = m'.d i:=fun i o ho=>⟨zzT ho,MM.cat_f2 _ _ _ _,MM.cat_d2 _ _ _ _⟩
 have hlast:∀ i b n,m' i = some (b,n)→w.heap.size ≤ b:=fun i b n hi=>(h2.rng _ _ _ hi).2.1
 have hlastd:∀ i j p b n,m'.d i j p = some (b,n)→w.heap.size ≤ b:=fun i j p b n hi=>(h2.dok _ _ _ _ _ hi).2.1
 have hfst:∀ i b n,m i = some (b,n)→b < w.heap.size:=fun i b n hi=>(h.rng _ _ _ hi).2.2
 have hfstd:∀ i j p b n,m.d i j p = some (b,n)→b < w.heap.size:=fun i j p b n hi=>(h.dok _ _ _ _ _ hi).2.2.1
 refine ⟨h.nt,fun t v ht=>(h1.fr t v ht).mono hh hm (.refl F'),fun v u hv=>(h1.up v u hv).mono hh hm (.refl F'),h1.lo,fun j u hu=>?_,fun i j b n n' hi hj=>?_,fun j b n hj=>?_,fun i j p b n hp=>?_,fun i1 j1 p1 b n i2 j2 p2 n' q1 q2=>?_,h2.fok,h1.gro,h1.bel,h.dfr⟩
 ·by_cases hj:j < H.length
  ·have hu':atN H j = some u:=by rw [vS hj] at hu; exact hu
   exact (h1.obs j u hu').mono hh hm (.refl F') hu' hu (fun _ _ _=>rfl) (fun _ _ _ hn=>hn) (fun _ _ _ _ _ _=>⟨rfl,fun hn=>hn⟩)
  ·obtain ⟨i,rfl⟩:=zdi hj
   rw [z7,List.getElem?_append_right (by omega),Nat.add_sub_cancel_left,List.getElem?_map,← z7] at hu
   obtain ⟨o,ho,rfl⟩:=Option.map_eq_some_iff.1 hu
   rw [Obj.sh_rn]
   exact (h2.obs i o ho).rn (fun _ _ _ i _ o' ho'=>hR i o' ho') (hR i o ho).2.1 (hR i o ho).2.2
 ·by_cases e1:i < H.length <;> by_cases e2:j < H.length
  ·rw [MM.cat_f _ _ e1] at hi; rw [MM.cat_f _ _ e2] at hj; exact h.inj _ _ _ _ _ hi hj
  ·obtain ⟨j,rfl⟩:=zdi e2
   rw [MM.cat_f _ _ e1] at hi; rw [MM.cat_f2] at hj
   have:=hfst _ _ _ hi; have:=hlast _ _ _ hj; omega
  ·obtain ⟨i,rfl⟩:=zdi e1
   rw [MM.cat_f2] at hi; rw [MM.cat_f _ _ e2] at hj
   have:=hfst _ _ _ hj; have:=hlast _ _ _ hi; omega
  ·obtain ⟨i,rfl⟩:=zdi e1
   obtain ⟨j,rfl⟩:=zdi e2
   rw [MM.cat_f2] at hi hj
   have:=h2.inj _ _ _ _ _ hi hj; omega
 ·have hs:=h.bel.size
  simp only [List.length_append,List.length_map]
  by_cases e:j < H.length
  ·rw [MM.cat_f _ _ e] at hj
   have:=h1.rng _ _ _ hj
   simp only at this
   omega
  ·obtain ⟨j,rfl⟩:=zdi e
   rw [MM.cat_f2] at hj
   have:=h2.rng _ _ _ hj
   simp only at this
   omega
 ·have hs:=h.bel.size
  by_cases e:i < H.length
  ·rw [MM.cat_d _ _ e] at hp
   obtain ⟨⟨o,g1,g2⟩,g3,g4,g5,g6⟩:=h1.dok _ _ _ _ _ hp
   refine ⟨⟨o,by rw [vS e]; exact g1,g2⟩,g3,g4,g5,fun i' n'=>?_⟩
   by_cases e':i' < H.length
   ·rw [MM.cat_f _ _ e']; exact g6 _ _
   ·obtain ⟨i',rfl⟩:=zdi e'
    rw [MM.cat_f2]
    intro hi'
    have:=hfstd _ _ _ _ _ hp; have:=hlast _ _ _ hi'; omega
  ·obtain ⟨i,rfl⟩:=zdi e
   rw [MM.cat_d2] at hp
   obtain ⟨⟨o,g1,g2⟩,g3,g4,g5,g6⟩:=h2.dok _ _ _ _ _ hp
   refine ⟨⟨_,zzT g1,by rw [zsQ]; exact g2⟩,by omega,g4,g5,fun i' n'=>?_⟩
   by_cases e':i' < H.length
   ·rw [MM.cat_f _ _ e']
    intro hi'
    have:=hfst _ _ _ hi'; omega
   ·obtain ⟨i',rfl⟩:=zdi e'
    rw [MM.cat_f2]; exact g6 _ _
 ·by_cases e1:i1 < H.length <;> by_cases e2:i2 < H.length
  ·rw [MM.cat_d _ _ e1] at q1; rw [MM.cat_d _ _ e2] at q2; exact h.din _ _ _ _ _ _ _ _ _ q1 q2
  ·obtain ⟨i2,rfl⟩:=zdi e2
   rw [MM.cat_d _ _ e1] at q1; rw [MM.cat_d2] at q2
   have:=hfstd _ _ _ _ _ q1; have:=hlastd _ _ _ _ _ q2; omega
  ·obtain ⟨i1,rfl⟩:=zdi e1
   rw [MM.cat_d2] at q1; rw [MM.cat_d _ _ e2] at q2
   have:=hfstd _ _ _ _ _ q2; have:=hlastd _ _ _ _ _ q1; omega
  ·obtain ⟨i1,rfl⟩:=zdi e1
   obtain ⟨i2,rfl⟩:=zdi e2
   rw [MM.cat_d2] at q1 q2
   have:=h2.din _ _ _ _ _ _ _ _ _ q1 q2
   exact ⟨by omega,this.2⟩
theorem Rel.holes (h:Rel P nt F0 w0 ⟨fr,H⟩ m F a w) (n:Nat):Rel P nt F0 w0 ⟨fr,H ++ List.replicate n .hole⟩ m F a w:=by
 have hk:zDI H (H ++ List.replicate n .hole) m m:=fun i o ho _=>⟨by rw [vS (je ho)]; exact ho,rfl,rfl⟩
 refine ⟨h.nt,fun t v ht=>(h.fr t v ht).keep hk,fun v u hv=>(h.up v u hv).keep hk,h.lo,fun j u hu=>?_,h.inj,fun i b n' hi=>?_,fun i j p b n' hp=>?_,h.din,h.fok,h.gro,h.bel,h.dfr⟩
 ·by_cases hj:j < H.length
  ·have hu':atN H j = some u:=by rw [vS hj] at hu; exact hu
   exact (h.obs j u hu').keep hk rfl rfl
  ·rw [z7,List.getElem?_append_right (by omega)] at hu
   have hm:=List.mem_of_getElem? hu
   rw [List.mem_replicate] at hm
   obtain ⟨_,rfl⟩:=hm
   show m j = none
   cases hmj:m j with
   | none=>rfl
   | some bn =>
    obtain ⟨b,n'⟩:=bn
    have:=(h.rng _ _ _ hmj).1
    exact absurd this hj
 ·have:=h.rng _ _ _ hi
  simp only [List.length_append] at this ⊢
  omega
 ·obtain ⟨⟨o,g1,g2⟩,g3⟩:=h.dok _ _ _ _ _ hp
  exact ⟨⟨o,by rw [vS (je g1)]; exact g1,g2⟩,g3⟩
def MM.fill (m:MM) (s n:Nat) (m':MM):MM:=⟨fun i=>if s ≤ i ∧ i < s + n then m' (i - s) else m i,fun i=>if s ≤ i ∧ i < s + n then m'.d (i - s) else m.d i⟩
theorem MM.fill_f (m:MM) {s n i:Nat} (m':MM) (h:¬(s ≤ i ∧ i < s + n)):(m.fill s n m') i = m i:=by show (if s ≤ i ∧ i < s + n then m' (i - s) else m i) = m i; rw [if_neg h]
theorem MM.fill_d (m:MM) {s n i:Nat} (m':MM) (h:¬(s ≤ i ∧ i < s + n)):(m.fill s n m').d i = m.d i:=by show (if s ≤ i ∧ i < s + n then m'.d (i - s) else m.d i) = m.d i; rw [if_neg h]
theorem MM.fill_f2 (m:MM) {s n i:Nat} (m':MM) (h:i < n):(m.fill s n m') (s + i) = m' i:=by show (if s ≤ s + i ∧ s + i < s + n then m' (s + i - s) else m (s + i)) = m' i; rw [if_pos (by omega),Nat.add_sub_cancel_left]
theorem MM.fill_d2 (m:MM) {s n i:Nat} (m':MM) (h:i < n):(m.fill s n m').d (s + i) = m'.d i:=by show (if s ≤ s + i ∧ s + i < s + n then m'.d (s + i - s) else m.d (s + i)) = m'.d i; rw [if_pos (by omega),Nat.add_sub_cancel_left]
theorem Rel.fill {nt2:Up} (h:Rel P nt F0 w0 ⟨fr,H⟩ m F a w) (h2:Rel P nt2 F w ⟨fr',h'⟩ m' F' a w') {s:Nat} {H2:List Obj} (hlen:H2.length = H.length)
 (hs:∀ i o,atN h' i = some o→atN H (s + i) = some .hole ∧ atN H2 (s + i) = some (o.rn (s + ·))) (hn:∀ i,¬(s ≤ i ∧ i < s + h'.length)→atN H2 i = atN H i) :
 Rel P nt F0 w0 ⟨fr,H2⟩ (m.fill s h'.length m') F' a w':=by
 have h1:=h.step (F':=F') h2.bel h2.gro h2.fok
 have hin:∀ i,i < h'.length→atN H (s + i) = some .hole:=fun i hi=>(hs i h'[i] (by rw [z7,List.getElem?_eq_getElem hi])).1
 have hmh:∀ i,i < h'.length→m (s + i) = none:=fun i hi=>h.obs _ _ (hin i hi)
 have seg:∀ {i:Nat},(s ≤ i ∧ i < s + h'.length)→∃ j,j < h'.length ∧ i = s + j:=fun {i} hi=>⟨i - s,by omega,by omega⟩
 have hk:zDI H H2 m (m.fill s h'.length m'):=fun i o ho hne=>by
  by_cases e:s ≤ i ∧ i < s + h'.length
  ·obtain ⟨j,hj,rfl⟩:=seg e
   rw [hin j hj] at ho; cases ho; exact absurd rfl hne
  ·exact ⟨by rw [hn i e]; exact ho,MM.fill_f m m' e,MM.fill_d m m' e⟩
 have hlast:∀ i b n,m' i = some (b,n)→w.heap.size ≤ b:=fun i b n hi=>(h2.rng _ _ _ hi).2.1
 have hlastd:∀ i j p b n,m'.d i j p = some (b,n)→w.heap.size ≤ b:=fun i j p b n hi=>(h2.dok _ _ _ _ _ hi).2.1
 have hfst:∀ i b n,m i = some (b,n)→b < w.heap.size:=fun i b n hi=>(h.rng _ _ _ hi).2.2
 have hfstd:∀ i j p b n,m.d i j p = some (b,n)→b < w.heap.size:=fun i j p b n hi=>(h.dok _ _ _ _ _ hi).2.2.1
 have hnd:∀ {i j p b n},i < h'.length→m.d (s + i) j p ≠ some (b,n):=fun hi hp=>by
  obtain ⟨⟨o,g1,g2⟩,_⟩:=h.dok _ _ _ _ _ hp
  simp only at g1
  rw [hin _ hi] at g1; cases g1; cases g2
 have hR:∀ i o,atN h' i = some o→atN H2 (s + i) = some (o.rn (s + ·)) ∧ (m.fill s h'.length m') (s + i) = m' i ∧ (m.fill s h'.length m').d (s + i) = m'.d i:=fun i o ho=>⟨(hs i o ho).2,MM.fill_f2 _ _ (je ho),MM.fill_d2 _ _ (je ho)⟩
 refine ⟨h.nt,fun t v ht=>(h1.fr t v ht).keep hk,fun v u hv=>(h1.up v u hv).keep hk,h1.lo,fun j u hu=>?_,fun i j b n n' hi hj=>?_,fun j b n hj=>?_,fun i j p b n hp=>?_,fun i1 j1 p1 b n i2 j2 p2 n' q1 q2=>?_,h2.fok,h1.gro,h1.bel,h.dfr⟩
 ·by_cases e:s ≤ j ∧ j < s + h'.length
  ·obtain ⟨i,hi,rfl⟩:=seg e
   obtain ⟨o,ho⟩:∃ o,atN h' i = some o:=⟨h'[i],by rw [z7,List.getElem?_eq_getElem hi]⟩
   have:=(hR i o ho).1
   simp only at hu
   rw [this] at hu
   cases hu
   exact (h2.obs i o ho).rn (fun _ _ _ i _ o' ho'=>hR i o' ho') (hR i o ho).2.1 (hR i o ho).2.2
  ·simp only at hu
   rw [hn j e] at hu
   exact (h1.obs j u hu).keep hk (MM.fill_f m m' e) (MM.fill_d m m' e)
 ·by_cases e1:s ≤ i ∧ i < s + h'.length <;> by_cases e2:s ≤ j ∧ j < s + h'.length
  ·obtain ⟨i,l1,rfl⟩:=seg e1
   obtain ⟨j,l2,rfl⟩:=seg e2
   rw [MM.fill_f2 _ _ l1] at hi; rw [MM.fill_f2 _ _ l2] at hj
   have:=h2.inj _ _ _ _ _ hi hj; omega
  ·obtain ⟨i,l1,rfl⟩:=seg e1
   rw [MM.fill_f2 _ _ l1] at hi; rw [MM.fill_f _ _ e2] at hj
   have:=hfst _ _ _ hj; have:=hlast _ _ _ hi; omega
  ·obtain ⟨j,l2,rfl⟩:=seg e2
   rw [MM.fill_f _ _ e1] at hi; rw [MM.fill_f2 _ _ l2] at hj
   have:=hfst _ _ _ hi; have:=hlast _ _ _ hj; omega
  ·rw [MM.fill_f _ _ e1] at hi; rw [MM.fill_f _ _ e2] at hj; exact h.inj _ _ _ _ _ hi hj
 ·have hsz:=h.bel.size
  by_cases e:s ≤ j ∧ j < s + h'.length
  ·obtain ⟨i,l1,rfl⟩:=seg e
   rw [MM.fill_f2 _ _ l1] at hj
   have:=h2.rng _ _ _ hj
   have:=je (hin i l1)
   simp only at *
   omega
  ·rw [MM.fill_f _ _ e] at hj
   have:=h1.rng _ _ _ hj
   simp only at *
   omega
 ·have hsz:=h.bel.size
  by_cases e:s ≤ i ∧ i < s + h'.length
  ·obtain ⟨i,l1,rfl⟩:=seg e
   rw [MM.fill_d2 _ _ l1] at hp
   obtain ⟨⟨o,g1,g2⟩,g3,g4,g5,g6⟩:=h2.dok _ _ _ _ _ hp
   refine ⟨⟨_,(hR i o g1).1,by rw [zsQ]; exact g2⟩,by omega,g4,g5,fun i' n'=>?_⟩
   by_cases e':s ≤ i' ∧ i' < s + h'.length
   ·obtain ⟨i',l2,rfl⟩:=seg e'
    rw [MM.fill_f2 _ _ l2]; exact g6 _ _
   ·rw [MM.fill_f _ _ e']
    intro hi'
    have:=hfst _ _ _ hi'; omega
  ·rw [MM.fill_d _ _ e] at hp
   obtain ⟨⟨o,g1,g2⟩,g3,g4,g5,g6⟩:=h1.dok _ _ _ _ _ hp
   refine ⟨⟨o,by simp only at g1 ⊢; rw [hn i e]; exact g1,g2⟩,g3,g4,g5,fun i' n'=>?_⟩
   by_cases e':s ≤ i' ∧ i' < s + h'.length
   ·obtain ⟨i',l2,rfl⟩:=seg e'
    rw [MM.fill_f2 _ _ l2]
    intro hi'
    have:=hfstd _ _ _ _ _ hp; have:=hlast _ _ _ hi'; omega
   ·rw [MM.fill_f _ _ e']; exact g6 _ _
 ·by_cases e1:s ≤ i1 ∧ i1 < s + h'.length <;> by_cases e2:s ≤ i2 ∧ i2 < s + h'.length
  ·obtain ⟨i1,l1,rfl⟩:=seg e1
   obtain ⟨i2,l2,rfl⟩:=seg e2
   rw [MM.fill_d2 _ _ l1] at q1; rw [MM.fill_d2 _ _ l2] at q2
   have:=h2.din _ _ _ _ _ _ _ _ _ q1 q2
   exact ⟨by omega,this.2⟩
  ·obtain ⟨i1,l1,rfl⟩:=seg e1
   rw [MM.fill_d2 _ _ l1] at q1; rw [MM.fill_d _ _ e2] at q2
   have:=hfstd _ _ _ _ _ q2; have:=hlastd _ _ _ _ _ q1; omega
  ·obtain ⟨i2,l2,rfl⟩:=seg e2
   rw [MM.fill_d _ _ e1] at q1; rw [MM.fill_d2 _ _ l2] at q2
   have:=hfstd _ _ _ _ _ q1; have:=hlastd _ _ _ _ _ q2; omega
  ·rw [MM.fill_d _ _ e1] at q1; rw [MM.fill_d _ _ e2] at q2; exact h.din _ _ _ _ _ _ _ _ _ q1 q2
theorem zh.fill {v:AV} {u:Value} {s:Nat} {H2:List Obj} (hs:∀ i o,atN h' i = some o→atN H2 (s + i) = some (o.rn (s + ·))) (hv:zh P h' m' F' v u):zh P H2 (m.fill s h'.length m') F' (v.shT s) u:=by
 have hR:∀ i o,atN h' i = some o→atN H2 (s + i) = some (o.rn (s + ·)) ∧ (m.fill s h'.length m') (s + i) = m' i ∧ (m.fill s h'.length m').d (s + i) = m'.d i:=fun i o ho=>⟨hs i o ho,MM.fill_f2 _ _ (je ho),MM.fill_d2 _ _ (je ho)⟩
 cases v with
 | tup vs =>
  obtain ⟨arr,e,h1,h3⟩:=hv
  refine ⟨arr,e,by simpa using h1,fun i x hx=>?_⟩
  rw [List.getElem?_map] at hx
  obtain ⟨y,hy,rfl⟩:=Option.map_eq_some_iff.1 hx
  obtain ⟨z,hz,hyz⟩:=h3 i y hy
  refine ⟨z,hz,?_⟩
  rw [AV.sh_rn]
  exact hyz.rn fun i _ o ho=>hR i o ho
 | _ =>
  rw [zh.eq1 (by intro vs e; cases e)] at hv
  refine zh.of1 ?_
  simp only [AV.shT]
  rw [AV.sh_rn]
  exact hv.rn fun i _ o ho=>hR i o ho
theorem zh.cat {v:AV} {u:Value} (hv:zh P h' m' F' v u):zh P (H ++ h'.map (Obj.sh H.length)) (m.cat H.length m') F' (v.shT H.length) u:=by
 have hR:∀ i o,atN h' i = some o→atN (H ++ h'.map (Obj.sh H.length)) (H.length + i) = some (o.rn (H.length + ·)) ∧ (m.cat H.length m') (H.length + i) = m' i ∧ (m.cat H.length m').d (H.length + i) = m'.d i:=fun i o ho=>⟨zzT ho,MM.cat_f2 _ _ _ _,MM.cat_d2 _ _ _ _⟩
 cases v with
 | tup vs =>
  obtain ⟨arr,e,h1,h3⟩:=hv
  refine ⟨arr,e,by simpa using h1,fun i x hx=>?_⟩
  rw [List.getElem?_map] at hx
  obtain ⟨y,hy,rfl⟩:=Option.map_eq_some_iff.1 hx
  obtain ⟨z,hz,hyz⟩:=h3 i y hy
  refine ⟨z,hz,?_⟩
  rw [AV.sh_rn]
  exact hyz.rn fun i _ o ho=>hR i o ho
 | _ =>
  rw [zh.eq1 (by intro vs e; cases e)] at hv
  refine zh.of1 ?_
  simp only [AV.shT]
  rw [AV.sh_rn]
  exact hv.rn fun i _ o ho=>hR i o ho
end
end Go.Ev
end
section
namespace Go.Ev
open Go.RowKit
section
variable {P:Program} {nt:Up} {F0 F G:FH} {w0 w:World} {st st':St} {m:MM} {a:Act} {E:Env} {v:AV} {u:Value}
theorem zxS {R:Type} {q:Bool} {args:Array Operand} {ts:Array TypeId} {k:AV→St→Option R}:zfb q E ⟨.builtin .len,args,ts⟩ st k = match args.toList,ts.toList with | [x],[t]=>(match rd E st none x with | some v=>zc6 E t v st k | none=>none) | _,_=>none:=rfl
theorem zHX {q:Bool} {o:Oper} (hE:EnvOk P G E) (hG:G.le F0) (h:Rel P nt F0 w0 st m F a w) (hs:yk o.op = true) (he:qJ q E o.op o.type st pk = some (v,st')) :
 st' = st ∧ ∃ u,(execOp a.eval o).run P w = .ok (.value u) w ∧ zh P st.h m F v u:=by
 obtain ⟨dst,op,ty,pos,after,guard⟩:=o
 simp only at he hs
 cases op <;> (try (simp only [yk] at hs; cases hs; done)) <;> simp only [qJ] at he
 case extract t i =>
  split at he
  ·rename_i vs ht
   split at he
   ·rename_i av hav
    obtain ⟨rfl,rfl⟩:=jG he
    obtain ⟨arr,hp,hsz,hget⟩:=zv hE hG h ht
    rw [z7] at hav
    obtain ⟨x,hx,hr⟩:=hget i v hav
    refine ⟨rfl,x,?_,zh.of1 hr⟩
    simp only [execOp,hp]
    refine zK ?_
    unfold Instr.extract
    simp [hx]
   ·cases he
  ·cases he
 case move x =>
  cases x <;> (try (simp only [yk] at hs; cases hs; done))
  rename_i t
  simp only [zaB] at he
  split at he
  ·rename_i av hav
   cases he
   exact ⟨rfl,a.eval (.tmp t),rfl,zv hE hG h hav⟩
  ·cases he
 case assign x =>
  cases x <;> (try (simp only [yk] at hs; cases hs; done))
  rename_i t
  simp only [zaB] at he
  split at he
  ·rename_i av hav
   cases he
   exact ⟨rfl,a.eval (.tmp t),rfl,zv hE hG h hav⟩
  ·cases he
 case load t x =>
  split at he
  ·rename_i av hav
   obtain ⟨u,h1,rfl,h2⟩:=zqy hE h (zv hE hG h hav) he
   exact ⟨rfl,u,by simp only [execOp]; exact zK h1,h2⟩
  ·cases he
 case nilCheck x =>
  split at he
  ·rename_i τ y hx
   obtain ⟨y,rfl,he⟩:=Option.bind_eq_some_iff.1 he
   cases he
   have hr:=zv hE hG h hx
   obtain ⟨d,cc,hp,_⟩:=hr.ptr
   exact ⟨rfl,a.eval x,by simp only [execOp,hp]; rfl,hr⟩
  ·rename_i τ σ y hx
   obtain ⟨y,rfl,he⟩:=Option.bind_eq_some_iff.1 he
   cases he
   have hr:=zv hE hG h hx
   obtain ⟨f,first,caps,hp,_⟩:=zh.one rfl hr
   simp only [List.cons.injEq,and_true] at hp
   exact ⟨rfl,a.eval x,by simp only [execOp,hp]; rfl,hr⟩
  ·rename_i id p hx
   obtain ⟨hlive,he⟩:=zb he
   cases he
   have hr:=zv hE hG h hx
   obtain ⟨b,n,o,off,_,_,hp,_⟩:=(show zF P st.h m F (.bp id p) _ from hr).resolve_left (zjr hlive)
   exact ⟨rfl,a.eval x,by simp only [execOp,hp]; rfl,hr⟩
  ·rename_i id i p hx
   obtain ⟨hlive,he⟩:=zb he
   cases he
   have hr:=zv hE hG h hx
   obtain ⟨b,n,o,τ,len,off,σ,_,_,_,_,_,hp⟩:=(show zF P st.h m F (.rp id i p) _ from hr).resolve_left (zjr hlive)
   exact ⟨rfl,a.eval x,by simp only [execOp,hp]; rfl,hr⟩
  ·rename_i id i p j q hx
   split at he
   ·rename_i τ xs k ho
    cases he
    have hr:=zv hE hG h hx
    obtain ⟨o,ho',_,hr'⟩:=(show zF P st.h m F (.dp id i p j q) _ from hr)
    rw [ho] at ho'
    cases ho'
    obtain ⟨_,σ,len,off,ρ,b,n,_,_,_,_,hp⟩:=hr' _ _ _ rfl
    exact ⟨rfl,a.eval x,by simp only [execOp,hp]; rfl,hr⟩
   ·cases he
  ·cases he
 case binOp op t x y ty' =>
  split at he
  ·rename_i av au hav hau
   obtain ⟨u,h1,rfl,h2⟩:=zxB (X:=x) (Y:=y) (w:=w) hE zot (zv hE hG h hav) (zv hE hG h hau) he
   exact ⟨rfl,u,by simp only [execOp]; exact zK h1,h2⟩
  ·cases he
 case fieldAddr t x f =>
  split at he
  ·rename_i av hav
   obtain ⟨u,h1,rfl,h2⟩:=znp hE h (zv hE hG h hav) he
   exact ⟨rfl,u,by simp only [execOp]; exact zK h1,h2⟩
  ·cases he
 case indexAddr t x i =>
  split at he
  ·rename_i av au hav hau
   obtain ⟨u,h1,rfl,h2⟩:=znq hE h (zv hE hG h hav) (zv hE hG h hau) he
   exact ⟨rfl,u,by simp only [execOp]; exact zK h1,h2⟩
  ·cases he
 case lookup t x i ok =>
  split at he
  ·rename_i av au hav hau
   obtain ⟨u,h1,rfl,h2⟩:=zsO hE h (zv hE hG h hav) (zv hE hG h hau) he
   exact ⟨rfl,u,by simp only [execOp]; exact zK h1,h2⟩
  ·cases he
 case call c =>
  obtain ⟨callee,args,argTypes⟩:=c
  simp only [yk] at hs
  split at hs
  ·rw [zxS] at he
   split at he
   ·rename_i x t hx ht
    split at he
    ·rename_i av hav
     obtain ⟨u,h1,rfl,h2⟩:=zBh (ty:=ty) hE h (zv hE hG h hav) ht he
     have hargs:args.map a.eval = #[a.eval x]:=by apply Array.ext'; simp [hx]
     refine ⟨rfl,u,?_,h2⟩
     simp only [execOp,resolve,Sem.run_bind,Sem.run_pure,Result.andThen_ok,invoke,builtin,hargs]
     simp [h1]
    ·cases he
   ·cases he
  ·cases hs
theorem zju {α:Type} {h k:List α} {i:Nat} {o:α} (ho:atN h i = some o):atN (h ++ k) i = some o:=by
 rw [z7] at ho ⊢
 rw [List.getElem?_append_left (List.getElem?_eq_some_iff.1 ho).1]
 exact ho
theorem zDJ {h k:List Obj} {i:Nat} (hk:∀ o,atN h i = some o→atN k i = some o) (ho:j7 h i = true):j7 k i = true:=by
 unfold j7 at ho ⊢
 cases hi:atN h i with
 | none=>rw [hi] at ho; cases ho
 | some o=>rw [hi] at ho; rw [hk _ hi]; exact ho
def jY (k:List Obj) (st:St):St:=⟨st.fr,k⟩
def zjv (h k:List Obj) (v:AV):Prop:=∀ i,v.has1 i = true→∀ o,atN h i = some o→atN k i = some o
def Sup (h k:List Obj) (v:AV):Prop:=∀ i,v.has i = true→∀ o,atN h i = some o→atN k i = some o
theorem zjv.refl (h:List Obj) (v:AV):zjv h h v:=fun _ _ _ h=>h
theorem Sup.refl (h:List Obj) (v:AV):Sup h h v:=fun _ _ _ h=>h
variable {k:List Obj}
theorem zkl {x:(τ:Ty) × τ.I × St} (hk:zjv st.h k v) (h:qD true st v = some x):qD true (jY k st) v = some ⟨x.1,x.2.1,jY k x.2.2⟩ ∧ x.2.2 = st:=by
 cases v with
 | dat τ y=>simp only [qD,Option.some.injEq] at h ⊢; subst h; exact ⟨rfl,rfl⟩
 | clip τ y=>simp only [qD,Option.some.injEq] at h ⊢; subst h; exact ⟨rfl,rfl⟩
 | ow id =>
  simp only [qD] at h ⊢
  split at h
  ·rename_i τ xs ho
   cases h
   rw [show atN (jY k st).h id = some (.row τ xs true) from hk _ (Nat.beq_refl _) _ ho]
   exact ⟨rfl,rfl⟩
  ·cases h
  ·cases h
  ·cases h
 | bp id p =>
  cases p with
  | cons _ _=>cases h
  | nil =>
   simp only [qD] at h ⊢
   split at h
   ·rename_i τ xs ho
    cases h
    rw [show atN (jY k st).h id = some (.bx (.dat τ xs) true) from hk _ (Nat.beq_refl _) _ ho]
    exact ⟨rfl,rfl⟩
   ·cases h
   ·cases h
 | _=>cases h
theorem zvl {σ:Ty} {x:σ.I × St} (hk:zjv st.h k v) (h:yw true σ st v = some x):yw true σ (jY k st) v = some (x.1,jY k x.2) ∧ x.2 = st:=by
 unfold yw at h ⊢
 split at h
 ·rename_i τ y st1 hz
  obtain ⟨h1,h2⟩:=zkl (k:=k) hk hz
  simp only at h1 h2
  subst h2
  rw [h1]
  split at h
  ·rename_i z hc
   cases h
   simp only [hc,and_self]
  ·cases h
 ·cases h
theorem zDK:∀ {τ:Ty} {vs:List AV} {st:St} {x:τ.I × St},(∀ v ∈ vs,zjv st.h k v)→jl true τ vs st = some x→jl true τ vs (jY k st) = some (x.1,jY k x.2) ∧ x.2 = st:=by
 intro τ
 induction τ with
 | unit=>intro vs st x _ h; cases vs <;> first | (cases h; exact ⟨rfl,rfl⟩) | cases h
 | pair a b _ ihb =>
  intro vs st x hk h
  cases vs with
  | nil=>cases h
  | cons v vs =>
   simp only [jl] at h ⊢
   split at h
   ·rename_i y st1 hy
    split at h
    ·rename_i ys st2 hys
     cases h
     obtain ⟨h1,h2⟩:=zvl (k:=k) (hk v (by simp)) hy
     simp only at h1 h2
     subst h2
     obtain ⟨h3,h4⟩:=ihb (fun v hv=>hk v (by simp [hv])) hys
     simp only at h3 h4
     subst h4
     rw [h1]
     simp only [h3,and_self]
    ·cases h
   ·cases h
 | _=>intro vs st x _ h; cases vs <;> cases h
theorem zKN {x:(τ:Ty) × τ.I × St} (hk:Sup st.h k v) (h:frz true st v = some x):frz true (jY k st) v = some ⟨x.1,x.2.1,jY k x.2.2⟩ ∧ x.2.2 = st:=by
 cases v with
 | fld b vs =>
  simp only [frz] at h ⊢
  split at h
  ·rename_i y st1 hy
   cases h
   obtain ⟨h1,h2⟩:=zDK (k:=k) (fun v hv i hi=>hk i (by simp only [AV.has,List.any_eq_true]; exact ⟨v,hv,hi⟩)) hy
   simp only at h1 h2
   subst h2
   simp only [h1,and_self]
  ·cases h
 | dat τ x=>exact zkl (v:=.dat τ x) hk h
 | clip τ x=>exact zkl (v:=.clip τ x) hk h
 | bp id p=>exact zkl (v:=.bp id p) hk h
 | ow id=>exact zkl (v:=.ow id) hk h
 | _=>cases h
theorem zDL {v':AV} {s s':St} (h:kAV v' s pk = some (v,st')):kAV v' s' pk = some (v,s'):=by
 obtain ⟨rfl,rfl⟩:=jG h
 unfold kAV at h ⊢
 split
 ·rename_i b; cases b <;> rfl
 ·rfl
theorem zJD {R:Type} {k:AV→St→Option R} {s s2:St} {t:TypeId} {x:AV} (hat:∀ i,x.has1 i = true→atN s.h i = atN s2.h i):jU E t x s k = jU E t x s2 (fun v _=>k v s):=by
 unfold jU
 cases x with
 | bp id p =>
  have hh:atN s.h id = atN s2.h id:=hat id (Nat.beq_refl _)
  first | (simp only [hh]; done) | (simp only [hh]; rfl)
 | rp id i' p =>
  have hh:atN s.h id = atN s2.h id:=hat id (Nat.beq_refl _)
  first | (simp only [hh]; done) | (simp only [hh]; rfl)
 | dp id i' p j' q =>
  have hh:atN s.h id = atN s2.h id:=hat id (Nat.beq_refl _)
  first | (simp only [hh]; done) | (simp only [hh]; rfl)
 | dat τ y=>cases τ <;> rfl
 | _=>rfl
theorem zDM {t:TypeId} {x:AV} (he:jU E t x st pk = some (v,st')) {i0:Nat} (hx:x.has1 i0 = true):∃ o,atN st.h i0 = some o:=by
 cases ho:atN st.h i0 with
 | some o=>exact ⟨o,rfl⟩
 | none =>
  exfalso
  unfold jU at he
  cases x with
  | bp id p =>
   obtain rfl:id = i0:=Nat.eq_of_beq_eq_true hx
   first | (cases he; done) | (simp only [ho] at he; cases he)
  | rp id i' p =>
   obtain rfl:id = i0:=Nat.eq_of_beq_eq_true hx
   first | (cases he; done) | (simp only [ho] at he; cases he)
  | dp id i' p j' q =>
   obtain rfl:id = i0:=Nat.eq_of_beq_eq_true hx
   first | (cases he; done) | (simp only [ho] at he; cases he)
  | ds id i' p =>
   obtain rfl:id = i0:=Nat.eq_of_beq_eq_true hx
   first | (cases he; done) | (simp only [ho] at he; cases he)
  | ow id =>
   obtain rfl:id = i0:=Nat.eq_of_beq_eq_true hx
   first | (cases he; done) | (simp only [ho] at he; cases he)
  | om id =>
   obtain rfl:id = i0:=Nat.eq_of_beq_eq_true hx
   first | (cases he; done) | (simp only [ho] at he; cases he)
  | gs id n' =>
   obtain rfl:id = i0:=Nat.eq_of_beq_eq_true hx
   first | (cases he; done) | (simp only [ho] at he; cases he)
  | clo f l=>cases he
  | _=>cases hx
theorem zF9 {t:TypeId} {x:AV} (hk:zjv st.h k x) (he:jU E t x st pk = some (v,st')):jU E t x (jY k st) pk = some (v,jY k st):=by
 have hat:∀ i,x.has1 i = true→atN (jY k st).h i = atN st.h i:=fun i hi=>by
  obtain ⟨o,ho⟩:=zDM he hi
  rw [ho]; exact hk i hi o ho
 rw [zJD hat,zxv,he]
 rfl
theorem zzU {R:Type} {k:AV→St→Option R} {s s2:St} {t:TypeId} {x i:AV} (hat:∀ i,x.has1 i = true→atN s.h i = atN s2.h i):qA E t x i s k = qA E t x i s2 (fun v _=>k v s):=by
 unfold qA
 cases x with
 | bp id p =>
  have hh:atN s.h id = atN s2.h id:=hat id (Nat.beq_refl _)
  cases i with
  | dat τ n=>cases τ <;> first | rfl | (simp only [hh]; done) | (simp only [hh]; rfl)
  | _=>rfl
 | rp id i' p =>
  have hh:atN s.h id = atN s2.h id:=hat id (Nat.beq_refl _)
  cases i with
  | dat τ n=>cases τ <;> first | rfl | (simp only [hh]; done) | (simp only [hh]; rfl)
  | _=>rfl
 | dp id i' p j' q =>
  have hh:atN s.h id = atN s2.h id:=hat id (Nat.beq_refl _)
  cases i with
  | dat τ n=>cases τ <;> first | rfl | (simp only [hh]; done) | (simp only [hh]; rfl)
  | _=>rfl
 | ds id i' p =>
  have hh:atN s.h id = atN s2.h id:=hat id (Nat.beq_refl _)
  cases i with
  | dat τ n=>cases τ <;> first | rfl | (simp only [hh]; done) | (simp only [hh]; rfl)
  | _=>rfl
 | ow id =>
  have hh:atN s.h id = atN s2.h id:=hat id (Nat.beq_refl _)
  cases i with
  | dat τ n=>cases τ <;> first | rfl | (simp only [hh]; done) | (simp only [hh]; rfl)
  | _=>rfl
 | gs id n' =>
  have hh:atN s.h id = atN s2.h id:=hat id (Nat.beq_refl _)
  cases i with
  | dat τ n=>cases τ <;> first | rfl | (simp only [hh]; done) | (simp only [hh]; rfl)
  | _=>rfl
 | dat τ y =>
  cases i with
  | dat τ' n=>cases τ with
   | ptr a=>cases a <;> cases τ' <;> rfl
   | _=>cases τ' <;> rfl
  | _=>cases τ with
   | ptr a=>cases a <;> rfl
   | _=>rfl
 | clip τ y=>cases i with
  | dat τ' n=>cases τ' <;> rfl
  | _=>rfl
 | _=>rfl
theorem zuK {t:TypeId} {x i:AV} (he:qA E t x i st pk = some (v,st')) {i0:Nat} (hx:x.has1 i0 = true):∃ o,atN st.h i0 = some o:=by
 cases ho:atN st.h i0 with
 | some o=>exact ⟨o,rfl⟩
 | none =>
  exfalso
  unfold qA at he
  cases x with
  | bp id p =>
   obtain rfl:id = i0:=Nat.eq_of_beq_eq_true hx
   cases i with
   | dat τ n=>cases τ <;> first | (cases he; done) | (simp only [ho] at he; cases he)
   | _=>cases he
  | rp id i' p =>
   obtain rfl:id = i0:=Nat.eq_of_beq_eq_true hx
   cases i with
   | dat τ n=>cases τ <;> first | (cases he; done) | (simp only [ho] at he; cases he)
   | _=>cases he
  | dp id i' p j' q =>
   obtain rfl:id = i0:=Nat.eq_of_beq_eq_true hx
   cases i with
   | dat τ n=>cases τ <;> first | (cases he; done) | (simp only [ho] at he; cases he)
   | _=>cases he
  | ds id i' p =>
   obtain rfl:id = i0:=Nat.eq_of_beq_eq_true hx
   cases i with
   | dat τ n=>cases τ <;> first | (cases he; done) | (simp only [ho] at he; cases he)
   | _=>cases he
  | ow id =>
   obtain rfl:id = i0:=Nat.eq_of_beq_eq_true hx
   cases i with
   | dat τ n=>cases τ <;> first | (cases he; done) | (simp only [ho] at he; cases he)
   | _=>cases he
  | om id =>
   obtain rfl:id = i0:=Nat.eq_of_beq_eq_true hx
   cases i with
   | dat τ n=>cases τ <;> first | (cases he; done) | (simp only [ho] at he; cases he)
   | _=>cases he
  | gs id n' =>
   obtain rfl:id = i0:=Nat.eq_of_beq_eq_true hx
   cases i with
   | dat τ n=>cases τ <;> first | (cases he; done) | (simp only [ho] at he; cases he)
   | _=>cases he
  | clo f l =>
   cases i with
   | dat τ n=>cases τ <;> cases he
   | _=>cases he
  | _=>cases hx
theorem zwa {t:TypeId} {x i:AV} (hk:zjv st.h k x) (he:qA E t x i st pk = some (v,st')):qA E t x i (jY k st) pk = some (v,jY k st):=by
 have hat:∀ i,x.has1 i = true→atN (jY k st).h i = atN st.h i:=fun i hi=>by
  obtain ⟨o,ho⟩:=zuK he hi
  rw [ho]; exact hk i hi o ho
 rw [zzU hat,znl,he]
 rfl
theorem zzV {R:Type} {k:AV→St→Option R} {s s2:St} {t:TypeId} {x:AV} {f:Nat} (hat:∀ i,x.has1 i = true→atN s.h i = atN s2.h i):qB E t x f s k = qB E t x f s2 (fun v _=>k v s):=by
 unfold qB
 cases x with
 | bp id p =>
  have hh:atN s.h id = atN s2.h id:=hat id (Nat.beq_refl _)
  first | (simp only [hh]; done) | (simp only [hh]; rfl)
 | rp id i' p =>
  have hh:atN s.h id = atN s2.h id:=hat id (Nat.beq_refl _)
  first | (simp only [hh]; done) | (simp only [hh]; rfl)
 | dp id i' p j' q =>
  have hh:atN s.h id = atN s2.h id:=hat id (Nat.beq_refl _)
  first | (simp only [hh]; done) | (simp only [hh]; rfl)
 | dat τ y=>cases τ with
  | ptr a=>cases a <;> rfl
  | _=>rfl
 | _=>rfl
theorem zuL {t:TypeId} {x:AV} {f:Nat} (he:qB E t x f st pk = some (v,st')) {i0:Nat} (hx:x.has1 i0 = true):∃ o,atN st.h i0 = some o:=by
 cases ho:atN st.h i0 with
 | some o=>exact ⟨o,rfl⟩
 | none =>
  exfalso
  unfold qB at he
  cases x with
  | bp id p =>
   obtain rfl:id = i0:=Nat.eq_of_beq_eq_true hx
   first | (cases he; done) | (simp only [ho] at he; cases he)
  | rp id i' p =>
   obtain rfl:id = i0:=Nat.eq_of_beq_eq_true hx
   first | (cases he; done) | (simp only [ho] at he; cases he)
  | dp id i' p j' q =>
   obtain rfl:id = i0:=Nat.eq_of_beq_eq_true hx
   first | (cases he; done) | (simp only [ho] at he; cases he)
  | ds id i' p =>
   obtain rfl:id = i0:=Nat.eq_of_beq_eq_true hx
   first | (cases he; done) | (simp only [ho] at he; cases he)
  | ow id =>
   obtain rfl:id = i0:=Nat.eq_of_beq_eq_true hx
   first | (cases he; done) | (simp only [ho] at he; cases he)
  | om id =>
   obtain rfl:id = i0:=Nat.eq_of_beq_eq_true hx
   first | (cases he; done) | (simp only [ho] at he; cases he)
  | gs id n' =>
   obtain rfl:id = i0:=Nat.eq_of_beq_eq_true hx
   first | (cases he; done) | (simp only [ho] at he; cases he)
  | clo f l=>cases he
  | _=>cases hx
theorem zwb {t:TypeId} {x:AV} {f:Nat} (hk:zjv st.h k x) (he:qB E t x f st pk = some (v,st')):qB E t x f (jY k st) pk = some (v,jY k st):=by
 have hat:∀ i,x.has1 i = true→atN (jY k st).h i = atN st.h i:=fun i hi=>by
  obtain ⟨o,ho⟩:=zuL he hi
  rw [ho]; exact hk i hi o ho
 rw [zzV hat,znm,he]
 rfl
theorem zKO {R:Type} {k:AV→St→Option R} {s s2:St} {t:TypeId} {x:AV} (hat:∀ i,x.has1 i = true→atN s.h i = atN s2.h i):zc6 E t x s k = zc6 E t x s2 (fun v _=>k v s):=by
 unfold zc6
 cases x with
 | ds id i' p =>
  have hh:atN s.h id = atN s2.h id:=hat id (Nat.beq_refl _)
  first | (simp only [hh]; done) | (simp only [hh]; rfl)
 | ow id =>
  have hh:atN s.h id = atN s2.h id:=hat id (Nat.beq_refl _)
  first | (simp only [hh]; done) | (simp only [hh]; rfl)
 | om id =>
  have hh:atN s.h id = atN s2.h id:=hat id (Nat.beq_refl _)
  first | (simp only [hh]; done) | (simp only [hh]; rfl)
 | gs id n' =>
  have hh:atN s.h id = atN s2.h id:=hat id (Nat.beq_refl _)
  first | (simp only [hh]; done) | (simp only [hh]; rfl)
 | dat τ y=>cases τ <;> rfl
 | _=>rfl
theorem zGa {t:TypeId} {x:AV} (he:zc6 E t x st pk = some (v,st')) {i0:Nat} (hx:x.has1 i0 = true):∃ o,atN st.h i0 = some o:=by
 cases ho:atN st.h i0 with
 | some o=>exact ⟨o,rfl⟩
 | none =>
  exfalso
  unfold zc6 at he
  cases x with
  | bp id p =>
   obtain rfl:id = i0:=Nat.eq_of_beq_eq_true hx
   first | (cases he; done) | (simp only [ho] at he; cases he)
  | rp id i' p =>
   obtain rfl:id = i0:=Nat.eq_of_beq_eq_true hx
   first | (cases he; done) | (simp only [ho] at he; cases he)
  | dp id i' p j' q =>
   obtain rfl:id = i0:=Nat.eq_of_beq_eq_true hx
   first | (cases he; done) | (simp only [ho] at he; cases he)
  | ds id i' p =>
   obtain rfl:id = i0:=Nat.eq_of_beq_eq_true hx
   first | (cases he; done) | (simp only [ho] at he; cases he)
  | ow id =>
   obtain rfl:id = i0:=Nat.eq_of_beq_eq_true hx
   first | (cases he; done) | (simp only [ho] at he; cases he)
  | om id =>
   obtain rfl:id = i0:=Nat.eq_of_beq_eq_true hx
   first | (cases he; done) | (simp only [ho] at he; cases he)
  | gs id n' =>
   obtain rfl:id = i0:=Nat.eq_of_beq_eq_true hx
   first | (cases he; done) | (simp only [ho] at he; cases he)
  | clo f l=>cases he
  | _=>cases hx
theorem zHY {t:TypeId} {x:AV} (hk:zjv st.h k x) (he:zc6 E t x st pk = some (v,st')):zc6 E t x (jY k st) pk = some (v,jY k st):=by
 have hat:∀ i,x.has1 i = true→atN (jY k st).h i = atN st.h i:=fun i hi=>by
  obtain ⟨o,ho⟩:=zGa he hi
  rw [ho]; exact hk i hi o ho
 rw [zKO hat,zA6,he]
 rfl
theorem zBT {t:TypeId} {x i:AV} {ok:Bool} (hk:zjv st.h k x) (he:zaw E t x i ok st pk = some (v,st')):zaw E t x i ok (jY k st) pk = some (v,jY k st):=by
 unfold zaw at he ⊢
 split at he
 ·split at he
  ·rename_i ho
   split at he
   ·split at he
    ·rename_i hc
     obtain ⟨h1,h2⟩:=zb he
     simp only [show atN (jY k st).h _ = _ from hk _ (Nat.beq_refl _) _ ho,hc,h1,cond_true]
     cases ok with
     | false=>exact zDL h2
     | true=>cases h2; rfl
    ·cases he
   ·cases he
  ·cases he
 ·cases he
theorem zGb {nil:Bool} {op:BinOp} {t:TypeId} {x y:AV} {st2:St} (he:zb4 nil E op t x y st pk = some (v,st')):zb4 nil E op t x y st2 pk = some (v,st2):=by
 have hst:∀ {R:Type} {s s2:St} {k:AV→St→Option R},zb4 nil E op t x y s k = zb4 nil E op t x y s2 (fun v _=>k v s):=rfl
 rw [hst (s2:=st),zxu,he]
 rfl
theorem zsR {q:Bool} {op:Op} {ty:TypeId} (hs:yk op = true) (hk:∀ x θ v,x ∈ op.operands→rd E st θ x = some v→zjv st.h k v) (he:qJ q E op ty st pk = some (v,st')):qJ q E op ty (jY k st) pk = some (v,jY k st):=by
 have hrd:∀ θ x,rd E (jY k st) θ x = rd E st θ x:=fun θ x=>by cases x <;> rfl
 cases op <;> (try (simp only [yk] at hs; cases hs; done)) <;> simp only [qJ,hrd] at he ⊢
 case extract t i =>
  split at he
  ·split at he
   ·exact zDL he
   ·cases he
  ·cases he
 case move x =>
  cases x <;> (try (simp only [yk] at hs; cases hs; done))
  simp only [zaB,hrd] at he ⊢
  split at he
  ·cases he; rfl
  ·cases he
 case assign x =>
  cases x <;> (try (simp only [yk] at hs; cases hs; done))
  simp only [zaB,hrd] at he ⊢
  split at he
  ·cases he; rfl
  ·cases he
 case load t x =>
  split at he
  ·rename_i hx; exact zF9 (hk _ _ _ (by simp [Op.operands]) hx) he
  ·cases he
 case nilCheck x =>
  split at he
  ·obtain ⟨y,rfl,he⟩:=Option.bind_eq_some_iff.1 he
   cases he; rfl
  ·obtain ⟨y,rfl,he⟩:=Option.bind_eq_some_iff.1 he
   cases he; rfl
  ·rename_i hx
   obtain ⟨h1,h2⟩:=zb he
   cases h2
   simp only [show j7 (jY k st).h _ = true from zDJ (hk _ _ _ (by simp [Op.operands]) hx _ (Nat.beq_refl _)) h1,cond_true]
  ·rename_i hx
   obtain ⟨h1,h2⟩:=zb he
   cases h2
   simp only [show j7 (jY k st).h _ = true from zDJ (hk _ _ _ (by simp [Op.operands]) hx _ (Nat.beq_refl _)) h1,cond_true]
  ·rename_i hx
   split at he
   ·rename_i ho
    cases he
    simp only [show atN (jY k st).h _ = _ from hk _ _ _ (by simp [Op.operands]) hx _ (Nat.beq_refl _) _ ho]
   ·cases he
  ·cases he
 case binOp op t x y ty' =>
  split at he
  ·exact zGb he
  ·cases he
 case fieldAddr t x f =>
  split at he
  ·rename_i hx; exact zwb (hk _ _ _ (by simp [Op.operands]) hx) he
  ·cases he
 case indexAddr t x i =>
  split at he
  ·rename_i hx _; exact zwa (hk _ _ _ (by simp [Op.operands]) hx) he
  ·cases he
 case lookup t x i ok =>
  split at he
  ·rename_i hx _; exact zBT (hk _ _ _ (by simp [Op.operands]) hx) he
  ·cases he
 case call c =>
  obtain ⟨callee,args,argTypes⟩:=c
  simp only [yk] at hs
  split at hs
  ·rw [zxS] at he ⊢
   simp only [hrd] at he ⊢
   split at he
   ·split at he
    ·rename_i hx
     exact zHY (hk _ _ _ (by
      rename_i e1 _ _ _
      simp only [Op.operands,Call.operands]
      have:args = #[_]:=Array.toList_inj.1 e1
      simp [this]) hx) he
    ·cases he
   ·cases he
  ·cases hs
end
end Go.Ev
end
section
namespace Go.Ev
open Go.RowKit
section
variable {P:Program} {nt:Up} {F0 F G:FH} {w0 w:World} {st st':St} {m:MM} {a:Act} {E:Env} {v:AV} {u:Value} {R:Type}
def Inv (P:Program) (nt:Up) (F0:FH) (w0:World) (st:St) (a:Act) (w:World):Prop:=∃ m F,Rel P nt F0 w0 st m F a w
theorem zl1 {ops:Array Oper} {o:Oper} {b:Bool} (h:Rel P nt F0 w0 st m F a w) (hg:zbh ops.toList st.fr o = some b):Region.wanted o (yielded ops a.tmps) = b:=by
 unfold zbh at hg
 unfold Region.wanted
 cases hgd:o.guard with
 | none=>rw [hgd] at hg; simpa using hg
 | some gw =>
  obtain ⟨g,want⟩:=gw
  rw [hgd] at hg
  simp only at hg ⊢
  have hd:zni ops.toList g = (ops[g]?).bind (·.dst):=by unfold zni; rw [z7,Array.getElem?_toList]
  rw [hd] at hg
  unfold yielded
  cases ht:(ops[g]?).bind (·.dst) with
  | none=>rw [ht] at hg; cases hg
  | some d =>
   rw [ht] at hg
   simp only [Option.bind_some] at hg ⊢
   cases hl:look st.fr d with
   | none=>rw [hl] at hg; cases hg
   | some x =>
    rw [hl] at hg
    have hr:=h.fr d x hl
    split at hg
    ·rename_i y hy
     cases hy
     cases hg
     have:=zh.bool (st:=st) hr
     cases hT:a.tmps[d]? with
     | none=>simp [hT,undef] at this
     | some z=>simp [hT] at this; subst this; simp
    ·rename_i hy
     cases hy
     cases hg
     obtain ⟨arr,e,_⟩:=hr
     cases hT:a.tmps[d]? with
     | none=>simp
     | some z=>simp [hT] at e; subst e; simp
    ·cases hg
theorem zxT {o:Oper} (h:zqq E o = true):∀ d,o.dst = some d→d < E.nt:=by
 intro d hd
 unfold zqq at h
 rw [hd] at h
 simp only [Nat.blt_eq] at h
 exact h
theorem zJE {x y:Option R} {r:R} (h:zeN x y = some r):x = some r ∧ y = some r:=by
 unfold zeN at h
 split at h
 ·rename_i e; exact ⟨h,e ▸ h⟩
 ·cases h
theorem zJF (x:Option R):zeN x x = x:=by unfold zeN; rw [if_pos rfl]
theorem zJG {o:Oper} {k:AV→St→Option R} {r:R} (hE:EnvOk P G E) (hG:G.le F0) (h:Rel P nt F0 w0 st m F a w) (he:zxo E o.op o.type st k = some r) :
 (∃ p,qJ false E o.op o.type st pk = some p ∧ k p.1 p.2 = some r) ∨ ∃ b:Bool,(execOp a.eval o).run P w = .ok (.value (.bool b)) w ∧ k (.dat .bool b) st = some r:=by
 obtain ⟨dst,op,ty,pos,after,guard⟩:=o
 simp only at he ⊢
 unfold zxo at he
 cases hng:E.ng with
 | true =>
  rw [hng] at he
  left
  simp only [cond_true] at he
  rw [jw] at he
  exact Option.bind_eq_some_iff.1 he
 | false =>
 rw [hng] at he
 simp only [cond_false] at he
 split at he
 ·split at he
  ·rename_i t X Y ty' _ _ τ xs hY hX
   right
   obtain ⟨h1,he⟩:=zb he
   have hr:=zv hE hG h hX
   obtain ⟨e,hu,_⟩:=(hE.types t _ (Env.is_spec h1)).sl
   obtain ⟨ad,cap,hp,_,hm⟩:=hr.sl
   have hq:a.eval Y = .slice none 0 0:=zot hY
   have hb:∀ b:Bool,(ad.isNone = b)→(execOp a.eval ⟨dst,.binOp .eql t X Y ty',ty,pos,after,guard⟩).run P w = .ok (.value (.bool b)) w:=by
    intro b hb
    simp only [execOp]
    refine zK ?_
    rw [hp,hq]
    simp only [Sem.run_bind,jp .eql t X Y (p:=.slice ad (List.length xs) cap) rfl,Result.andThen_ok]
    have h:∀ k,(Op.equalIn (k + 1) t (.slice ad (List.length xs) cap) (.slice none 0 0)).run P w = .ok b w:=fun k=>by
     subst hb
     cases ad <;> simp [Op.equalIn,zj hu]
    have hrun:(Op.equal t (.slice ad (List.length xs) cap) (.slice none 0 0)).run P w = .ok b w:=h 9999
    simp [binOp,hrun]
   cases hxs:List.isEmpty xs with
   | true =>
    rw [hxs] at he
    obtain ⟨e1,e2⟩:=zJE he
    refine ⟨ad.isNone,hb _ rfl,?_⟩
    cases ad.isNone
    ·exact e2
    ·exact e1
   | false =>
    rw [hxs] at he
    obtain ⟨d,cc,rfl,_⟩:=hm (by rintro rfl; simp at hxs)
    exact ⟨false,hb _ rfl,he⟩
  ·left
   rw [jw] at he
   exact Option.bind_eq_some_iff.1 he
 ·left
  rw [jw] at he
  exact Option.bind_eq_some_iff.1 he
theorem zJH {ops:Array Oper} {Q:Exit→Act→World→Prop} {k:St→Option R} {r:R} (hE:EnvOk P G E) (hG:G.le F0) (hnt:E.nt = nt)
 (hQ:∀ st a w,Inv P nt F0 w0 st a w→k st = some r→Q .normal a w) :
 ∀ (rest pre:List Oper) (st:St) (a:Act) (w:World),ops.toList = pre ++ rest→Inv P nt F0 w0 st a w→zhU E ops.toList rest st k = some r→wpOps P ops Q (List.range' pre.length rest.length) a w:=by
 intro rest
 induction rest with
 | nil=>intro pre st a w _ hi he; exact hQ st a w hi he
 | cons o rest ih =>
  intro pre st a w hp ⟨m,F,h⟩ he
  have hget:ops[pre.length]? = some o:=by rw [← Array.getElem?_toList,hp]; simp
  simp only [zhU] at he
  obtain ⟨hd,he⟩:=zb he
  have hd':∀ d,o.dst = some d→d < nt:=fun d h=>hnt ▸ zxT hd d h
  cases hg:zbh ops.toList st.fr o with
  | none=>rw [hg] at he; cases he
  | some b =>
   rw [hg] at he
   have hw:=zl1 h hg
   simp only [List.length_cons,List.range'_succ]
   unfold wpOps
   simp only [hget,hw]
   have hnext:=ih (pre ++ [o])
   simp only [List.length_append,List.length_cons,List.length_nil,List.append_assoc,List.singleton_append] at hnext
   cases b with
   | false =>
    simp only [Bool.false_eq_true,if_false]
    exact hnext _ _ _ hp ⟨m,F,h.put hd' vp⟩ he
   | true =>
    simp only [if_true]
    left
    simp only [cond_true] at he
    rcases zJG hE hG h he with ⟨⟨v,st'⟩,h1,h2⟩ | ⟨b,h1,h2⟩
    ·refine zqI hE hG h h1 _ _ ?_
     rintro u w' ⟨m',F',_,h3,h4⟩
     exact hnext _ _ _ hp ⟨m',F',h3.put hd' h4⟩ h2
    ·refine z8.val (R:=fun u' w'=>u' = .bool b ∧ w' = w) h1 ⟨rfl,rfl⟩ _ _ ?_
     rintro u' w' ⟨rfl,rfl⟩
     exact hnext _ _ _ hp ⟨m,F,h.put (v:=.dat .bool b) hd' (show zV P F .bool b (.bool b) from ⟨rfl,rfl⟩)⟩ h2
end
end Go.Ev
end
section
namespace Go.Ev
open Go.RowKit
section
variable {R:Type} {E:Env}
def zxU (E:Env) (all:List Oper) (s s1:St) (o:Oper) (v:AV) (d:Did):Prop :=
  zqq E o = true ∧ s1.fr = (s.put o.dst v).fr ∧
  ((zbh all s.fr o = some false ∧ v = .tup [] ∧ s1.h = s.h ∧ d.rd = false ∧ d.wr = false ∧ d.ch = false) ∨
   (zbh all s.fr o = some true ∧
    ((∃ fr' v0 st',zeX s (zde o) = (fr',true,d.rd) ∧ qJ false E o.op o.type ⟨fr',[]⟩ pk = some (v0,st') ∧ v = v0.shT s.h.length ∧ s1.h = s.h ++ st'.h.map (Obj.sh s.h.length) ∧ d.wr = !znk st'.h ∧ d.ch = false ∧ d.lk = zay s o) ∨
     (∃ st',yk o.op = true ∧ qJ false E o.op o.type s pk = some (v,st') ∧ s1.h = st'.h ∧ d.rd = true ∧ d.wr = false ∧ d.ch = false ∧ d.lk = zay s o) ∨
     (∃ st',qJ false E o.op o.type s pk = some (v,st') ∧ s1.h = st'.h ∧ d.rd = true ∧ d.wr = true ∧ d.ch = true ∧ d.cg = zzI E s o.op) ∨
     (∃ a vs z,zxq E o.op s = some (a,vs,z) ∧ v = .fld a vs ∧ s1.h = s.h ++ z ∧ d.rd = true ∧ d.wr = !znk z ∧ d.ch = false ∧ d.lk = zay s o) ∨
     (∃ st' H vs,zhx E o.op s = some (H,vs) ∧ vs.all AV.one = true ∧ (vs.all fun v=>v.ids.all fun i=>jE i (zay s o)) = true ∧ zlW s.h (zgS s.h 2 (zay s o)) = true ∧ qJ false E o.op o.type s pk = some (v,st') ∧ s1.h = st'.h ∧ d.rd = true ∧ d.wr = false ∧ d.ch = false ∧ d.lk = zgS s.h 2 (zay s o)))))
def Apt (e d:Did):Prop:=(e.ch = true→d.wr = false ∧ (d.rd = true→zqr e.cg d.lk = true)) ∧ (d.ch = true→e.wr = false ∧ (e.rd = true→zqr d.cg e.lk = true))
def Ok (bs:List Nat) (e d:Did):Prop:=Nat.testBit ((atN bs d.i).getD 0) e.i = true ∨ Apt e d
theorem zdZ {bj:Nat} {d:Did}:∀ {l:List Did},zlu bj d l = true→∀ e ∈ l,Nat.testBit bj e.i = true ∨ Apt e d
  | [],_,e,he=>by simp at he
  | x :: l,h,e,he=>by
    simp only [zlu] at h
    cases hb:Nat.testBit bj x.i with
    | true =>
      rw [hb] at h
      rcases List.mem_cons.1 he with rfl | he
      · exact .inl hb
      · exact zdZ h e he
    | false =>
      rw [hb] at h
      simp only [cond_false] at h
      cases h1:(x.ch && (d.wr || (d.rd && !zqr x.cg d.lk))) with
      | true=>rw [h1] at h; cases h
      | false =>
        rw [h1] at h
        simp only [cond_false] at h
        cases h2:(d.ch && (x.wr || (x.rd && !zqr d.cg x.lk))) with
        | true=>rw [h2] at h; cases h
        | false =>
          rw [h2] at h
          rcases List.mem_cons.1 he with rfl | he
          · refine .inr ⟨fun hx=>?_,fun hx=>?_⟩
            · rw [hx] at h1
              simp only [Bool.true_and,Bool.or_eq_false_iff,Bool.and_eq_false_iff,Bool.not_eq_false'] at h1
              exact ⟨h1.1,fun hr=>by rw [hr] at h1; simpa using h1.2⟩
            · rw [hx] at h2
              simp only [Bool.true_and,Bool.or_eq_false_iff,Bool.and_eq_false_iff,Bool.not_eq_false'] at h2
              exact ⟨h2.1,fun hr=>by rw [hr] at h2; simpa using h2.2⟩
          · exact zdZ h e he
theorem Apt.idle {e d:Did} (h1:d.rd = false) (h2:d.wr = false) (h3:d.ch = false):Apt e d:=⟨fun _=>⟨h2,fun h=>(by rw [h1] at h; cases h)⟩,fun h=>(by rw [h3] at h; cases h)⟩
theorem Apt.idle' {e d:Did} (h1:d.rd = false) (h2:d.wr = false) (h3:d.ch = false):Apt d e:=⟨fun h=>(by rw [h3] at h; cases h),fun _=>⟨h2,fun h=>(by rw [h1] at h; cases h)⟩⟩
theorem zBn {all:List Oper} {bs:List Nat} {k:St→Option R} {r:R}:∀ (rest:List Oper) (j:Nat) (seen:List Did) (st:St),evD E all bs rest j seen st k = some r →
    ∃ (S:Nat→St) (V:Nat→AV) (D:Nat→Did),S j = st ∧ k (S (j + rest.length)) = some r ∧ (∀ i,(D i).i = i) ∧
      (∀ i o,rest[i]? = some o→zxU E all (S (j + i)) (S (j + i + 1)) o (V (j + i)) (D (j + i))) ∧
      (∀ i,i < rest.length→∀ e ∈ seen,Ok bs e (D (j + i))) ∧
      (∀ i i',i < i'→i' < rest.length→Ok bs (D (j + i)) (D (j + i')))
  | [],j,seen,st,h=>⟨fun _=>st,fun _=>.dead,fun i=>⟨i,false,false,false,[],none⟩,rfl,h,fun _=>rfl,by simp,by simp,by simp⟩
  | o :: rest,j,seen,st,h=>by
    have key:∀ (s1:St) (v:AV) (d:Did) (seen':List Did),zxU E all st s1 o v d→d.i = j→(∀ e ∈ seen,Ok bs e d)→(seen' = d :: seen ∨ (seen' = seen ∧ d.rd = false ∧ d.wr = false ∧ d.ch = false))→evD E all bs rest (j + 1) seen' s1 k = some r →
        ∃ (S:Nat→St) (V:Nat→AV) (D:Nat→Did),S j = st ∧ k (S (j + (o :: rest).length)) = some r ∧ (∀ i,(D i).i = i) ∧
          (∀ i o',(o :: rest)[i]? = some o'→zxU E all (S (j + i)) (S (j + i + 1)) o' (V (j + i)) (D (j + i))) ∧
          (∀ i,i < (o :: rest).length→∀ e ∈ seen,Ok bs e (D (j + i))) ∧
          (∀ i i',i < i'→i' < (o :: rest).length→Ok bs (D (j + i)) (D (j + i'))):=by
      intro s1 v d seen' hs hd ho hse he
      obtain ⟨S,V,D,h1,h2,h3,h4,h5,h6⟩:=zBn rest (j + 1) seen' s1 he
      have hne:∀ i,j + 1 + i ≠ j:=fun i=>by omega
      have hS:∀ i,(if j + (i + 1) = j then st else S (j + (i + 1))) = S (j + 1 + i):=fun i=>by rw [if_neg (by omega),show j + (i + 1) = j + 1 + i by omega]
      have hV:∀ i,(if j + (i + 1) = j then v else V (j + (i + 1))) = V (j + 1 + i):=fun i=>by rw [if_neg (by omega),show j + (i + 1) = j + 1 + i by omega]
      have hD:∀ i,(if j + (i + 1) = j then d else D (j + (i + 1))) = D (j + 1 + i):=fun i=>by rw [if_neg (by omega),show j + (i + 1) = j + 1 + i by omega]
      refine ⟨fun i=>if i = j then st else S i,fun i=>if i = j then v else V i,fun i=>if i = j then d else D i,by simp,?_,?_,?_,?_,?_⟩
      · simp only [List.length_cons,hS]; exact h2
      · intro i
        by_cases e:i = j
        · subst e; simp [hd]
        · simp [e,h3]
      · intro i o' hi
        cases i with
        | zero =>
          simp only [List.getElem?_cons_zero,Option.some.injEq] at hi
          subst hi
          simp only [Nat.add_zero,if_true]
          rw [if_neg (by omega),h1]
          exact hs
        | succ i =>
          rw [List.getElem?_cons_succ] at hi
          have:=h4 i o' hi
          simp only [hS,hV,hD]
          rw [if_neg (by omega),show j + (i + 1) + 1 = j + 1 + i + 1 by omega]
          exact this
      · intro i hi e hes
        cases i with
        | zero=>simp only [Nat.add_zero,if_true]; exact ho e hes
        | succ i =>
          simp only [hD]
          refine h5 i (by simpa using hi) e ?_
          rcases hse with rfl | ⟨rfl,_⟩
          · exact List.mem_cons_of_mem _ hes
          · exact hes
      · intro i i' hii hi'
        cases i' with
        | zero=>omega
        | succ i' =>
          simp only [hD]
          cases i with
          | zero =>
            simp only [Nat.add_zero,if_true]
            rcases hse with rfl | ⟨_,g1,g2,g3⟩
            · exact h5 i' (by simpa using hi') d (by simp)
            · exact .inr (Apt.idle' g1 g2 g3)
          | succ i =>
            simp only [hD]
            exact h6 i i' (by omega) (by simpa using hi')
    simp only [evD] at h
    obtain ⟨hdst,h⟩:=zb h
    cases hg:zbh all st.fr o with
    | none=>rw [hg] at h; cases h
    | some b =>
      rw [hg] at h
      simp only at h
      cases b with
      | false =>
        simp only [cond_false] at h
        refine key _ (.tup []) ⟨j,false,false,false,[],none⟩ seen ⟨hdst,rfl,.inl ⟨hg,rfl,?_,rfl,rfl,rfl⟩⟩ rfl (fun e _=>.inr (Apt.idle rfl rfl rfl)) (.inr ⟨rfl,rfl,rfl,rfl⟩) h
        cases o.dst <;> rfl
      | true =>
        simp only [cond_true] at h
        cases hpu:(zeX st (zde o)).2.1 with
        | true =>
          rw [hpu] at h
          simp only [cond_true] at h
          rw [jw] at h
          obtain ⟨⟨v0,st'⟩,h1,h2⟩:=Option.bind_eq_some_iff.1 h
          obtain ⟨h3,h4⟩:=zb h2
          have hord:=zdZ h3
          refine key _ (v0.shT st.h.length) ⟨j,(zeX st (zde o)).2.2,!znk st'.h,false,zay st o,none⟩ _ ⟨hdst,?_,.inr ⟨hg,.inl ⟨(zeX st (zde o)).1,v0,st',by rw [← hpu],h1,rfl,?_,rfl,rfl,rfl⟩⟩⟩ rfl hord (.inl rfl) h4
          · cases o.dst <;> rfl
          · cases o.dst <;> rfl
        | false =>
          rw [hpu] at h
          simp only [cond_false] at h
          cases hb:zxq E o.op st with
          | some q =>
            obtain ⟨a,vs,z⟩:=q
            rw [hb] at h
            simp only at h
            obtain ⟨h3,h⟩:=zb h
            have hord:=zdZ h3
            refine key _ (.fld a vs) ⟨j,true,!znk z,false,zay st o,none⟩ _ ⟨hdst,?_,.inr ⟨hg,.inr (.inr (.inr (.inl ⟨a,vs,z,hb,rfl,?_,rfl,rfl,rfl,rfl⟩)))⟩⟩ rfl hord (.inl rfl) h
            · cases o.dst <;> rfl
            · cases o.dst <;> rfl
          | none =>
          rw [hb] at h
          simp only at h
          cases hsh:zhx E o.op st with
          | some q =>
            obtain ⟨Hd,vs⟩:=q
            rw [hsh] at h
            simp only at h
            obtain ⟨hc,h⟩:=zb h
            obtain ⟨h3,h⟩:=zb h
            simp only [Bool.and_eq_true] at hc
            have hord:=zdZ h3
            rw [jw] at h
            obtain ⟨⟨v0,st'⟩,h1,h2⟩:=Option.bind_eq_some_iff.1 h
            have hf:=zqK h1
            refine key _ v0 ⟨j,true,false,false,zgS st.h 2 (zay st o),none⟩ _ ⟨hdst,?_,.inr ⟨hg,.inr (.inr (.inr (.inr ⟨st',Hd,vs,hsh,hc.2.1,hc.2.2,hc.1,h1,?_,rfl,rfl,rfl,rfl⟩)))⟩⟩ rfl hord (.inl rfl) h2
            · cases o.dst <;> simp [St.put,hf]
            · cases o.dst <;> rfl
          | none =>
          rw [hsh] at h
          simp only at h
          cases hs:yk o.op with
          | true =>
            rw [hs] at h
            simp only [cond_true] at h
            obtain ⟨h3,h⟩:=zb h
            have hord:=zdZ h3
            rw [jw] at h
            obtain ⟨⟨v0,st'⟩,h1,h2⟩:=Option.bind_eq_some_iff.1 h
            have hf:=zqK h1
            refine key _ v0 ⟨j,true,false,false,zay st o,none⟩ _ ⟨hdst,?_,.inr ⟨hg,.inr (.inl ⟨st',hs,h1,?_,rfl,rfl,rfl,rfl⟩)⟩⟩ rfl hord (.inl rfl) h2
            · cases o.dst <;> simp [St.put,hf]
            · cases o.dst <;> rfl
          | false =>
            rw [hs] at h
            simp only [cond_false] at h
            obtain ⟨h3,h⟩:=zb h
            have hord:=zdZ h3
            rw [jw] at h
            obtain ⟨⟨v0,st'⟩,h1,h2⟩:=Option.bind_eq_some_iff.1 h
            have hf:=zqK h1
            refine key _ v0 ⟨j,true,true,true,[],zzI E st o.op⟩ _ ⟨hdst,?_,.inr ⟨hg,.inr (.inr (.inl ⟨st',h1,?_,rfl,rfl,rfl,rfl⟩))⟩⟩ rfl hord (.inl rfl) h2
            · cases o.dst <;> simp [St.put,hf]
            · cases o.dst <;> rfl
theorem zJI {x:Nat} {u:Obj}:∀ {b:Ty} {vs:List AV} {h:List Obj} {r:b.I × List Obj},zzG b vs h = some r→atN h x = some u→x ∉ vs.flatMap AV.ids1→atN r.2 x = some u:=by
  intro b
  induction b with
  | unit=>intro vs h r hz hx _; cases vs with
    | nil=>cases hz; exact hx
    | cons _ _=>cases hz
  | pair a b _ ihb =>
    intro vs h r hz hx hn
    cases vs with
    | nil=>cases hz
    | cons v vs =>
      simp only [zzG] at hz
      split at hz
      · rename_i y h1 hy
        split at hz
        · rename_i ys h2 hys
          cases hz
          simp only [List.flatMap_cons,List.mem_append,not_or] at hn
          refine ihb hys ?_ hn.2
          unfold zoq at hy
          split at hy
          · obtain ⟨_,hy⟩:=qs hy
            split at hy
            · cases hy; exact hx
            · cases hy
          · rename_i id
            split at hy
            · split at hy
              · cases hy
                have:id ≠ x:=fun e=>hn.1 (by simp [AV.ids1,e])
                rw [qp this]; exact hx
              · cases hy
            · cases hy
          · cases hy
        · cases hz
      · cases hz
  | _=>intro vs h r hz; cases vs <;> cases hz
theorem zJJ {x:Nat} {u:Obj} {σ:Ty} {v:AV} {h:List Obj} {r:σ.I × List Obj} (hz:zvY σ v h = some r) (hx:atN h x = some u) (hn:x ∉ v.ids):atN r.2 x = some u:=by
  unfold zvY at hz
  split at hz
  · rename_i a b vs
    obtain ⟨_,hz⟩:=zb hz
    exact zJI (b:=a) (r:=r) hz hx hn
  · rename_i τ id
    unfold zoq at hz
    simp only at hz
    split at hz
    · split at hz
      · cases hz
        have:id ≠ x:=fun e=>hn (by simp [AV.ids,AV.ids1,e])
        rw [qp this]; exact hx
      · cases hz
    · cases hz
  · cases hz
theorem zHZ {s st':St} {t:TypeId} {a u v:AV} {l:List Nat} (hc:zKy E s a u = some l) (he:qY E t a u s pk = some (v,st')) {x:Nat} {w:Obj} (hx:atN s.h x = some w) (hn:x ∉ l):atN st'.h x = some w:=by
  have y9:∀ {id:Nat} {o:Obj},x ∉ [id]→atN (zf s.h id o) x = some w:=fun h=>by
    rw [qp (fun e=>h (by simp [e]))]; exact hx
  have dat:∀ {id:Nat} {p:List Nat} {τ:Ty} {y:τ.I},x ∉ [id]→zgR E t id p (.dat τ y) s pk = some (v,st')→atN st'.h x = some w:=fun hn he=>by
    simp only [zgR,frz,qD] at he
    split at he
    · split at he
      · obtain ⟨_,he⟩:=zb he
        cases he; exact y9 hn
      · cases he
    · cases he
  have fld:∀ {id:Nat} {b c:Ty} {vs us:List AV},x ∉ [id]→zc5 E t id b vs (.fld c us) [] s pk = some (v,st')→atN st'.h x = some w:=fun hn he=>by
    simp only [zc5] at he
    obtain ⟨_,he⟩:=zb he
    cases he; exact y9 hn
  have fdat:∀ {id:Nat} {p:List Nat} {b τ:Ty} {vs:List AV} {y:τ.I},x ∉ [id]→zc5 E t id b vs (.dat τ y) p s pk = some (v,st')→atN st'.h x = some w:=fun {id p b τ vs y} hn he=>by
    cases p with
    | nil =>
      simp only [zc5] at he
      split at he
      · rename_i heq; cases heq
      · obtain ⟨_,he⟩:=zb he
        cases he; exact y9 hn
      · cases he
    | cons i p =>
      simp only [zc5,frz,qD] at he
      split at he
      · split at he
        · split at he
          · obtain ⟨_,he⟩:=zb he
            cases he; exact y9 hn
          · cases he
        · split at he
          · obtain ⟨_,he⟩:=zb he
            cases he; exact y9 hn
          · cases he
        · cases he
      · cases he
  unfold zKy at hc
  split at hc
  · rename_i id p τ y
    cases hc
    cases ho:atN s.h id with
    | none=>simp only [qY,ho] at he; cases he
    | some o =>
      cases o with
      | bx bv fz =>
        cases bv with
        | dat σ z =>
          simp only [qY,ho] at he
          cases hE:E.deep with
          | false=>rw [hE] at he; exact dat hn he
          | true =>
            rw [hE] at he
            simp only [cond_true] at he
            exact dat hn he
        | fld b vs =>
          cases fz with
          | false=>simp only [qY,ho] at he; exact fdat hn he
          | true=>simp only [qY,ho] at he; cases he
        | _ =>
          cases fz with
          | true=>simp only [qY,ho] at he; cases he
          | false =>
            simp only [qY,ho] at he
            split at he
            · obtain ⟨_,he⟩:=zb he
              cases he
            · cases he
      | _=>simp only [qY,ho] at he; cases he
  · rename_i id c us
    split at hc
    · rename_i b vs ho
      cases hc
      simp only [qY,ho] at he
      exact fld hn he
    · rename_i b z ho
      cases hE:E.deep with
      | false=>rw [hE] at hc; cases hc
      | true =>
        rw [hE] at hc
        cases hc
        simp only [qY,ho,hE,cond_true] at he
        obtain ⟨_,he⟩:=zb he
        exact fld hn he
    · cases hc
  · cases hc
theorem zLJ {s st':St} {op:Op} {ty:TypeId} {v:AV} {l:List Nat} (hc:zzI E s op = some l) (he:qJ false E op ty s pk = some (v,st')) {x:Nat} {u:Obj} (hx:atN s.h x = some u) (hn:x ∉ l):atN st'.h x = some u:=by
  unfold zzI at hc
  split at hc
  · rename_i t a y
    split at hc
    · rename_i v1 u1 h1 h2
      simp only [qJ,h1,h2] at he
      exact zHZ hc he hx hn
    · cases hc
  · rename_i t n ps
    split at hc
    · rename_i τ hτ
      split at hc
      · rename_i r w hr hps
        cases hc
        simp only [qJ,hτ,hr] at he
        obtain ⟨_,he⟩:=zb he
        cases he
        simp only
        refine zju ?_
        rw [hps] at hr
        unfold zxn at hr
        split at hr
        · rename_i heq
          cases heq
          exact zJJ hr hx hn
        · cases hr
      · rename_i hr
        split at hc
        · rename_i q hq
          cases hc
          simp only [qJ,hτ,hr,hq] at he
          obtain ⟨_,he⟩:=qs he
          obtain ⟨_,he⟩:=zb he
          cases he
          exact zju hx
        · cases hc
      · cases hc
    · cases hc
  · cases hc
theorem zJK {acc:List Nat}:∀ {es:List Edge} {i:Nat},Nat.testBit (zHw acc es) i = true→∃ e ∈ es,Region.binds .any e = true ∧ (e.on = i ∨ ∃ b,atN acc e.on = some b ∧ Nat.testBit b i = true):=by
  have key:∀ (es:List Edge) (s i:Nat),Nat.testBit (es.foldl (fun s e=>cond (Region.binds .any e) ((s ||| 2 ^ e.on) ||| (atN acc e.on).getD 0) s) s) i = true→Nat.testBit s i = true ∨ ∃ e ∈ es,Region.binds .any e = true ∧ (e.on = i ∨ ∃ b,atN acc e.on = some b ∧ Nat.testBit b i = true):=by
    intro es
    induction es with
    | nil=>intro s i h; exact .inl h
    | cons e es ih =>
      intro s i h
      rw [List.foldl_cons] at h
      rcases ih _ _ h with h1 | ⟨e',he',h1⟩
      · cases hb:Region.binds .any e with
        | false=>rw [hb] at h1; exact .inl h1
        | true =>
          rw [hb] at h1
          simp only [cond_true,Nat.testBit_or,Bool.or_eq_true] at h1
          rcases h1 with (h1 | h1) | h1
          · exact .inl h1
          · rw [Nat.testBit_two_pow] at h1
            exact .inr ⟨e,by simp,hb,.inl (by simpa using h1)⟩
          · cases ha:atN acc e.on with
            | none=>rw [ha] at h1; simp at h1
            | some b=>rw [ha] at h1; exact .inr ⟨e,by simp,hb,.inr ⟨b,ha,h1⟩⟩
      · exact .inr ⟨e',by simp [he'],h1⟩
  intro es i h
  rcases key es 0 i h with h1 | h1
  · simp at h1
  · exact h1
theorem zH0:∀ (l:List Oper) (acc:List Nat) (j:Nat) (o:Oper),l[j]? = some o→∃ acc',atN (zjY l acc) (acc.length + j) = some (zHw acc' o.after.toList) ∧ ∀ x b,atN acc' x = some b→atN (zjY l acc) x = some b:=by
  have pre:∀ (l:List Oper) (acc:List Nat) (x b:Nat),atN acc x = some b→atN (zjY l acc) x = some b:=by
    intro l
    induction l with
    | nil=>intro acc x b h; exact h
    | cons o l ih=>intro acc x b h; exact ih _ _ _ (zju h)
  intro l
  induction l with
  | nil=>intro acc j o h; simp at h
  | cons u l ih =>
    intro acc j o h
    cases j with
    | zero =>
      simp only [List.getElem?_cons_zero,Option.some.injEq] at h
      subst h
      refine ⟨acc,?_,fun x b hx=>pre l _ x b (zju hx)⟩
      refine pre l _ _ _ ?_
      rw [z7]; simp
    | succ j =>
      rw [List.getElem?_cons_succ] at h
      obtain ⟨acc',h1,h2⟩:=ih (acc ++ [zHw acc u.after.toList]) j o h
      refine ⟨acc',?_,h2⟩
      simp only [List.length_append,List.length_cons,List.length_nil] at h1
      rw [show acc.length + (j + 1) = acc.length + (0 + 1) + j by omega]
      exact h1
theorem zbj {t:Nat}:∀ {l:List Nat},jE t l = true ↔ t ∈ l
  | []=>by simp [jE]
  | x :: l=>by
    simp only [jE,List.mem_cons]
    by_cases e:x = t
    · subst e; simp [beq_self]
    · rw [zbi e,cond_false,zbj]
      exact ⟨.inr,fun h=>h.resolve_left fun h'=>e h'.symm⟩
theorem zfg {bs:List Nat} {bj j:Nat} {o:Oper}:∀ {l:List Oper} {i0:Nat},zlP bs bj j o l i0 = true→∀ i u d,l[i]? = some u→u.dst = some d→(i0 + i = j ∨ o.dst ≠ some d) ∧ (d ∈ zde o→(Nat.testBit bj (i0 + i) = true ∧ i0 + i < j) ∨ (j < i0 + i ∧ Nat.testBit ((atN bs (i0 + i)).getD 0) j = true))
  | [],_,_,i,u,d,hi,_=>by simp at hi
  | x :: l,i0,h,i,u,d,hi,hd=>by
    simp only [zlP,Bool.and_eq_true] at h
    cases i with
    | zero =>
      simp only [List.getElem?_cons_zero,Option.some.injEq] at hi
      subst hi
      rw [hd] at h
      simp only [Bool.and_eq_true,Bool.or_eq_true,Bool.not_eq_true'] at h
      obtain ⟨⟨h1,h2⟩,_⟩:=h
      refine ⟨?_,fun hm=>?_⟩
      · rcases h1 with h1 | h1
        · exact .inl (Nat.eq_of_beq_eq_true h1)
        · right
          intro he
          rw [he] at h1
          simp [beq_self] at h1
      · rcases h2 with h2 | h2
        · rw [zbj.2 hm] at h2; cases h2
        · rcases h2 with h2 | h2
          · exact .inl ⟨h2.1,by simpa using h2.2⟩
          · exact .inr ⟨by simpa using h2.1,by simpa using h2.2⟩
    | succ i =>
      rw [List.getElem?_cons_succ] at hi
      have:=zfg h.2 i u d hi hd
      rw [show i0 + (i + 1) = i0 + 1 + i by omega]
      exact this
theorem zgv {bs:List Nat} {all:List Oper} (h:zxp bs all = true) {j:Nat} {o:Oper} (hj:all[j]? = some o) :
    zlP bs ((atN bs j).getD 0) j o all 0 = true ∧ (∀ g b,o.guard = some (g,b)→Nat.testBit ((atN bs j).getD 0) g = true ∧ g < j) ∧ ∀ e ∈ o.after.toList,Region.binds .any e = true→e.on < j:=by
  have key:∀ (l:List Oper) (j0 j:Nat) (o:Oper),znj bs all l j0 = true→l[j]? = some o→zlP bs ((atN bs (j0 + j)).getD 0) (j0 + j) o all 0 = true ∧ (∀ g b,o.guard = some (g,b)→Nat.testBit ((atN bs (j0 + j)).getD 0) g = true ∧ g < j0 + j) ∧ ∀ e ∈ o.after.toList,Region.binds .any e = true→e.on < j0 + j:=by
    intro l
    induction l with
    | nil=>intro j0 j o _ h; simp at h
    | cons x l ih =>
      intro j0 j o h hj
      simp only [znj,Bool.and_eq_true] at h
      cases j with
      | zero =>
        simp only [List.getElem?_cons_zero,Option.some.injEq] at hj
        subst hj
        obtain ⟨⟨⟨h1,h2⟩,h3⟩,_⟩:=h
        refine ⟨h1,fun g b hg=>?_,fun e he hb=>?_⟩
        · rw [hg] at h2
          simp only [Bool.and_eq_true,Nat.blt_eq] at h2
          exact h2
        · have:=List.all_eq_true.1 h3 e he
          simp only [hb,Bool.not_true,Bool.false_or,Nat.blt_eq] at this
          exact this
      | succ j =>
        rw [List.getElem?_cons_succ] at hj
        have:=ih (j0 + 1) j o h.2 hj
        rw [show j0 + (j + 1) = j0 + 1 + j by omega]
        exact this
  have:=key all 0 j o h hj
  simpa using this
end
end Go.Ev
end
section
namespace Go.Ev
open Go.RowKit
section
variable {P:Program} {nt:Up} {F0 F G:FH} {w0 w:World} {st st':St} {m:MM} {a:Act} {E:Env} {v:AV} {u:Value} {R:Type}
theorem zxV {τ:Ty} {x:τ.I} (hz:qD true st v = some ⟨τ,x,st'⟩) (h:Rel P nt F0 w0 st m F a w) (hv:zF P st.h m F v u):zV P F τ x u:=by
  cases v with
  | dat τ' y =>
    simp only [qD,Option.some.injEq] at hz
    cases hz
    exact hv
  | clip τ' ys =>
    simp only [qD,Option.some.injEq] at hz
    cases hz
    obtain ⟨ad,rfl,h1⟩:=hv
    exact ⟨⟨ad,_,rfl,Nat.le_refl _,h1⟩,rfl⟩
  | ow id =>
    simp only [qD] at hz
    split at hz
    · rename_i σ xs ho
      cases hz
      have hu:=zF.owAt ho rfl hv
      cases hmi:m id with
      | none =>
        rw [hmi] at hu
        obtain ⟨hl,ad,rfl⟩:=hu
        obtain rfl:=List.length_eq_zero_iff.1 hl
        exact .sl_nil
      | some bn =>
        obtain ⟨b,n⟩:=bn
        rw [hmi] at hu
        obtain ⟨cap,hn,hcap,rfl⟩:=hu
        obtain ⟨el,fr,cs,c,d,h1,h2,h3,h4,h5⟩:=h.row ho hmi
        exact .sl_of_row h5 h3 h4 hcap
    · cases hz
    · cases hz
    · cases hz
  | bp id p =>
    cases p with
    | cons _ _=>simp [qD] at hz
    | nil =>
      simp only [qD] at hz
      split at hz
      · rename_i σ y ho
        cases hz
        obtain ⟨b,n,off,hmi,rfl,ρ,h3⟩:=(show zh P st.h m F (.bp id []) u from hv).bpAt ho
        simp only [qa,Option.some.injEq,Prod.mk.injEq] at h3
        obtain ⟨rfl,rfl⟩:=h3
        obtain ⟨b',n',el,fr,cs,h4,h5,h6,h7⟩:=h.obs id _ ho
        rw [hmi] at h4
        cases h4
        exact ⟨⟨_,_,rfl,⟨rfl,cs,h7,fun j v hj=>by rw [Nat.zero_add,← Array.getElem?_toList]; exact hj⟩,h6⟩,rfl⟩
      · cases hz
      · cases hz
  | _=>simp [qD] at hz
theorem zLK {σ:Ty} {x:σ.I} {c:List Value} (hz:yw true σ st v = some (x,st')) (h:Rel P nt F0 w0 st m F a w) (hv:vR P st.h m F σ v c):Rep P F σ x c ∧ st' = st:=by
  have hsame:=(zvl (zjv.refl _ _) hz).2
  simp only at hsame
  unfold yw at hz
  split at hz
  · rename_i τ y st1 hz1
    split at hz
    · rename_i z hc
      cases hz
      obtain ⟨rfl,rfl⟩:=zP hc
      refine ⟨?_,hsame⟩
      cases v with
      | dat τ' y' =>
        simp only [qD,Option.some.injEq] at hz1
        cases hz1
        exact hv.2
      | ow id =>
        obtain ⟨ρ,u,rfl,rfl,h1,_,ad,l,cc,rfl⟩:=hv
        have:=(zxV hz1 h h1).1
        simpa [Value.cells] using this
      | ds id i p=>simp [qD] at hz1
      | clo f l=>simp [qD] at hz1
      | _=>exact hv.elim
    · cases hz
  · cases hz
theorem zKP:∀ {b:Ty} {vs:List AV} {x:b.I} {cs:List Value} {st st':St},jl true b vs st = some (x,st')→Rel P nt F0 w0 st m F a w→zX P st.h m F b vs cs→Rep P F b x cs:=by
  intro b
  induction b with
  | unit =>
    intro vs x cs st st' hz h hv
    cases vs with
    | nil=>exact hv
    | cons _ _=>exact hv.elim
  | pair a b _ ihb =>
    intro vs x cs st st' hz h hv
    cases vs with
    | nil=>exact hv.elim
    | cons v vs =>
      obtain ⟨c,d,e,h1,h2⟩:=hv
      simp only [jl] at hz
      split at hz
      · rename_i y st1 hy
        split at hz
        · rename_i ys st2 hys
          cases hz
          obtain ⟨g1,rfl⟩:=zLK hy h h1
          exact ⟨c,d,e,g1,ihb hys h h2⟩
        · cases hz
      · cases hz
  | _=>intro vs x cs st st' hz h hv; cases vs <;> exact hv.elim
theorem zM5 {τ:Ty} {x:τ.I} (hz:frz true st v = some ⟨τ,x,st'⟩) (h:Rel P nt F0 w0 st m F a w) (hv:zh P st.h m F v u):zV P F τ x u:=by
  cases v with
  | fld b vs =>
    simp only [frz] at hz
    split at hz
    · rename_i y st1 hy
      cases hz
      obtain ⟨cs,rfl,h1⟩:=(show zE P st.h m F (.fld b vs) u from hv)
      exact ⟨zKP (b:=b) hy h h1,rfl⟩
    · cases hz
  | dat τ x=>exact zxV (v:=.dat τ x) hz h hv
  | clip τ x=>exact zxV (v:=.clip τ x) hz h hv
  | bp id p=>exact zxV (v:=.bp id p) hz h hv
  | ow id=>exact zxV (v:=.ow id) hz h hv
  | _=>cases hz
theorem zH1 {h k:List Obj} {fr:List (Nat × AV)} (hr:Rel P nt F0 w0 ⟨fr,k⟩ m F a w) (hs:Sup h k v) (hv:zh P k m F v u):zh P k m F (zfc h v).1 u:=by
  unfold zfc
  cases hp:v.pure with
  | true=>exact hv
  | false =>
    simp only [cond_false]
    split
    · rename_i τ x s hz
      have h1:=(zKN (st:=⟨[],h⟩) (k:=k) hs hz).1
      exact zM5 (st:=⟨[],k⟩) h1 (hr.frames (fr:=[]) (fun t v ht=>by simp [look] at ht)) hv
    · exact hv
theorem zGc {h:List Obj} (hp:(zfc h v).2 = false):(zfc h v).1 = v:=by
  unfold zfc at hp ⊢
  cases hq:v.pure with
  | true=>rfl
  | false =>
    rw [hq] at hp
    simp only [cond_false] at hp
    split at hp <;> cases hp
theorem zqL {s:St}:∀ {l:List Nat} {fr':List (Nat × AV)} {pu rs:Bool},zeX s l = (fr',pu,rs) →
    ∀ t v',look fr' t = some v'→t ∈ l ∧ ∃ v,look s.fr t = some v ∧ v' = (zfc s.h v).1 ∧ (rs = false→v' = v) ∧ (pu = true→v'.pure = true)
  | [],_,_,_,h,t,v',ht=>by cases h; simp [look] at ht
  | x :: l,fr',pu,rs,h,t,v',ht=>by
    simp only [zeX] at h
    cases hx:look s.fr x with
    | none =>
      rw [hx] at h
      obtain ⟨h1,h2⟩:=zqL h t v' ht
      exact ⟨List.mem_cons_of_mem _ h1,h2⟩
    | some v =>
      rw [hx] at h
      simp only [Prod.mk.injEq] at h
      obtain ⟨rfl,rfl,rfl⟩:=h
      by_cases e:x = t
      · subst e
        simp only [look,beq_self,cond_true,Option.some.injEq] at ht
        subst ht
        refine ⟨by simp,v,hx,rfl,fun hr=>?_,fun hp=>?_⟩
        · simp only [Bool.or_eq_false_iff] at hr
          exact zGc hr.1
        · simp only [Bool.and_eq_true] at hp
          exact hp.1
      · simp only [look,zbi e,cond_false] at ht
        obtain ⟨h1,v2,h2,h3,h4,h5⟩:=zqL (Prod.ext rfl (Prod.ext rfl rfl):zeX s l = ((zeX s l).1,(zeX s l).2.1,(zeX s l).2.2)) t v' ht
        refine ⟨List.mem_cons_of_mem _ h1,v2,h2,h3,fun hr=>h4 ?_,fun hp=>h5 ?_⟩
        · simp only [Bool.or_eq_false_iff] at hr
          exact hr.2
        · simp only [Bool.and_eq_true] at hp
          exact hp.2
theorem zh.nowhere {h2:List Obj} {m2:MM} {n:Nat} (hv:zh P [] m F v u):zh P h2 m2 F (v.shT n) u:=by
  have key:∀ {x:AV} {y:Value},zE P [] m F x y→zE P h2 m2 F (x.sh n) y:=by
    intro x y hx
    have one:∀ {x:AV} {y:Value},zF P [] m F x y→zF P h2 m2 F (x.sh1 n) y:=by
      intro x y hx
      cases x with
      | dat τ z=>exact hx
      | clip τ z=>exact hx
      | dead=>trivial
      | tup vs=>exact hx.elim
      | fld b vs=>exact hx.elim
      | bp id p=>rcases hx with hg | ⟨b,n,o,off,h1,ho,_⟩ <;> simp_all [atN]
      | rp id i p=>rcases hx with hg | ⟨b,n,o,τ,len,off,σ,h1,ho,_⟩ <;> simp_all [atN]
      | ow id=>rcases hx with hg | ⟨o,τ,len,ho,_⟩ <;> simp_all [atN]
      | om id=>rcases hx with hg | ⟨b,n,κ,σ,es,h1,ho,_⟩ <;> simp_all [atN]
      | ds id i p=>obtain ⟨o,ho,_⟩:=hx; simp [atN] at ho
      | dp id i p j q=>obtain ⟨o,ho,_⟩:=hx; simp [atN] at ho
      | gs id k=>rcases hx with hg | ⟨b,n,a,u,fz,h1,ho,_⟩ <;> simp_all [atN]
      | clo f l =>
        obtain ⟨caps,e1,e2,h1⟩:=hx
        refine ⟨caps,e1,by rw [List.length_map]; exact e2,fun i id hi=>?_⟩
        rw [List.getElem?_map] at hi
        obtain ⟨x,hx,rfl⟩:=Option.map_eq_some_iff.1 hi
        obtain ⟨u,_,hb⟩:=h1 i x hx
        obtain ⟨o,ho⟩:=hb.there
        simp [atN] at ho
    have zqo:∀ {b:Ty} {vs:List AV} {cs:List Value},zX P [] m F b vs cs→zX P h2 m2 F b (vs.map (AV.sh1 n)) cs:=by
      intro b
      induction b with
      | unit=>intro vs cs hv; cases vs with
        | nil=>exact hv
        | cons _ _=>exact hv.elim
      | pair a b _ ihb =>
        intro vs cs hv
        cases vs with
        | nil=>exact hv.elim
        | cons v vs =>
          obtain ⟨c,d,e,h1,h2⟩:=hv
          refine ⟨c,d,e,?_,ihb h2⟩
          cases v with
          | dat τ x=>exact h1
          | ow id =>
            obtain ⟨σ,u,_,_,h3,_⟩:=h1
            rcases h3 with hg | ⟨o,τ,len,ho,_⟩
            · simp [atN] at hg
            · simp [atN] at ho
          | ds id i p =>
            obtain ⟨σ,u,_,_,⟨o,ho,_⟩,_⟩:=h1
            simp [atN] at ho
          | clo f l =>
            obtain ⟨x,y,u,e1,e2,h3⟩:=h1
            exact ⟨x,y,u,e1,e2,one (x:=.clo f l) h3⟩
          | _=>exact h1.elim
      | _=>intro vs cs hv; cases vs <;> exact hv.elim
    cases x with
    | fld b vs=>obtain ⟨cs,e,h1⟩:=hx; exact ⟨cs,e,zqo h1⟩
    | tup vs=>exact hx.elim
    | dat τ z=>exact hx
    | clip τ z=>exact hx
    | dead=>trivial
    | bp id p=>exact one (x:=.bp id p) hx
    | rp id i p=>exact one (x:=.rp id i p) hx
    | ow id=>exact one (x:=.ow id) hx
    | om id=>exact one (x:=.om id) hx
    | ds id i p=>exact one (x:=.ds id i p) hx
    | dp id i p j q=>exact one (x:=.dp id i p j q) hx
    | clo f l=>exact one (x:=.clo f l) hx
    | gs id k=>exact one (x:=.gs id k) hx
  cases v with
  | tup vs =>
    obtain ⟨arr,e,h1,h3⟩:=hv
    refine ⟨arr,e,by simpa using h1,fun i x hx=>?_⟩
    rw [List.getElem?_map] at hx
    obtain ⟨y,hy,rfl⟩:=Option.map_eq_some_iff.1 hx
    obtain ⟨z,hz,hyz⟩:=h3 i y hy
    exact ⟨z,hz,key hyz⟩
  | _ =>
    rw [zh.eq1 (by intro vs e; cases e)] at hv
    exact zh.of1 (key hv)
def zj1 (f:Nat→Bool):Nat→Nat
  | 0=>0
  | n + 1=>zj1 f n + cond (f n) 0 1
theorem zBo {f:Nat→Bool}:∀ {n:Nat},zj1 f n = 0→∀ i,i < n→f i = true
  | n + 1,h,i,hi=>by
    simp only [zj1] at h
    by_cases e:i = n
    · subst e
      cases hf:f i with
      | true=>rfl
      | false=>rw [hf] at h; simp at h
    · exact zBo (n:=n) (by omega) i (by omega)
theorem zBp {f g:Nat→Bool} {j:Nat}:∀ {n:Nat},f j = false→g j = true→(∀ i,i ≠ j→g i = f i)→zj1 f n = zj1 g n + (if j < n then 1 else 0)
  | 0,_,_,_=>by simp [zj1]
  | n + 1,h1,h2,h3=>by
    have ih:=zBp (n:=n) h1 h2 h3
    simp only [zj1]
    by_cases e:n = j
    · subst e
      simp only [h1,h2,cond_true,cond_false]
      simp at ih
      simp [ih]
    · rw [h3 n e,ih]
      by_cases h4:j < n
      · have h5:j < n + 1:=by omega
        simp only [if_pos h4,if_pos h5]
        generalize cond (f n) 0 1 = z
        omega
      · have h5:¬ j < n + 1:=by omega
        simp only [if_neg h4,if_neg h5]
        generalize cond (f n) 0 1 = z
        omega
theorem zBq {f:Nat→Bool}:∀ {n:Nat},(∀ i,i < n→f i = false)→zj1 f n = n
  | 0,_=>rfl
  | n + 1,h=>by
    have ih:=zBq (n:=n) (fun i hi=>h i (by omega))
    simp only [zj1,ih,h n (by omega),cond_false]
theorem zxW {q:Bool} {op:Op} {ty:TypeId} (hs:yk op = true) (he:qJ q E op ty st pk = some (v,st')):st' = st:=by
  have:=zsR (k:=st.h) hs (fun x θ v _ _=>zjv.refl _ _) he
  rw [show jY st.h st = st from rfl,he] at this
  cases this
  rfl
theorem zH2 {c:Bool} {α:Type _} {x:Option α} {y:α} (h:cond c x none = some y):c = true ∧ x = some y:=by
  cases c with
  | true=>exact ⟨rfl,h⟩
  | false=>cases h
theorem zsS {h:List Obj} {i:Nat}:∀ {n:Nat} {L:List Nat},i ∈ L→i ∈ zgS h n L
  | 0,_,hi=>hi
  | n + 1,_,hi=>zsS (n:=n) (List.mem_append.2 (.inl hi))
theorem zsT {q:Bool} {op:Op} {ty:TypeId} {s:St} {H:Hd} {vs:List AV} {L:List Nat} {h2:List Obj} (hs:zhx E op s = some (H,vs)) (ho:vs.all AV.one = true) (hi:(vs.all fun v=>v.ids.all fun i=>jE i L) = true) (hc:zlW s.h L = true)
    (he:qJ q E op ty s pk = some (v,st')) (hag:∀ i,jE i L = true→atN h2 i = atN s.h i):st' = s ∧ qJ q E op ty ⟨s.fr,h2⟩ pk = some (v,⟨s.fr,h2⟩):=by
  unfold zhx at hs
  split at hs
  · rename_i c
    split at hs
    · rename_i f hcal
      split at hs
      · rename_i H' hf
        obtain ⟨hb,hs⟩:=zH2 hs
        cases hs
        simp only [Bool.and_eq_true] at hb
        have hrd:(fun x=>rd E ⟨s.fr,h2⟩ none x) = rd E s none:=by funext x; cases x <;> rfl
        simp only [qJ,zfb,hcal,hf] at he ⊢
        obtain ⟨hq,he⟩:=qs he
        subst hq
        simp only [cond_false]
        unfold zfK at he ⊢
        have e1:c.args.toList.map (rd E ⟨s.fr,h2⟩ none) = c.args.toList.map (rd E s none):=by rw [← hrd]
        rw [e1,hb.2]
        rw [hb.2] at he
        simp only [cond_true] at he ⊢
        rw [H.nat] at he ⊢
        obtain ⟨⟨v1,h1⟩,g1,g2⟩:=Option.bind_eq_some_iff.1 he
        obtain ⟨rfl,k2⟩:=H.keep hb.1 _ _ h2 _ _ L g1 ho hi hc hag
        refine ⟨(jG g2).2,?_⟩
        rw [k2]
        exact zDL g2
      · cases hs
    · cases hs
  · cases hs
theorem zBr {h:List Obj} {n:Nat} {L:List Nat} {vs:List AV} (hi:(vs.all fun v=>v.ids.all fun i=>jE i L) = true):(vs.all fun v=>v.ids.all fun i=>jE i (zgS h n L)) = true:=by
  simp only [List.all_eq_true] at hi ⊢
  exact fun v hv i hii=>zbj.2 (zsS (zbj.1 (hi v hv i hii)))
structure Hol (n:Nat) (S:Nat→St) (D:Nat→Did) (done:Nat→Bool) (c e:Nat) (H:List Obj):Prop where
  ce:c ≤ e
  en:e ≤ n
  chg:∀ i,i < n→(D i).ch = true→(done i = true ↔ i < c)
  quiet:∀ i,c ≤ i→i < e→(D i).ch = false
  fst:c = 0 ∨ (0 < c ∧ (D (c - 1)).ch = true)
  lst:e = n ∨ (D e).ch = true
  len:H.length = (S e).h.length
  hol:∀ i,c ≤ i→i < e→done i = false→∀ x,(S i).h.length ≤ x→x < (S (i + 1)).h.length→atN H x = some .hole
  own:∀ x o,atN (S e).h x = some o→(∀ i,c ≤ i→i < e→(S i).h.length ≤ x→x < (S (i + 1)).h.length→done i = true)→atN H x = some o
structure Mid (P:Program) (nt:Up) (F0:FH) (w0:World) (all:List Oper) (bs:List Nat) (S:Nat→St) (V:Nat→AV) (D:Nat→Did) (done:Nat→Bool) (a:Act) (w:World):Prop where
  down:∀ j,j < all.length→done j = true→∀ i,Nat.testBit ((atN bs j).getD 0) i = true→done i = true
  rel:∃ c e H,Hol all.length S D done c e H ∧ ∃ fr m F,Rel P nt F0 w0 ⟨fr,H⟩ m F a w ∧
    (∀ (i:Nat) (o:Oper) (d:Nat),all[i]? = some o→done i = true→o.dst = some d→look fr d = some (V i)) ∧
    (∀ t,(∀ (i:Nat) (o:Oper),all[i]? = some o→done i = true→o.dst ≠ some t)→look fr t = look (S 0).fr t)
structure Reg (E:Env) (all:List Oper) (bs:List Nat) (S:Nat→St) (V:Nat→AV) (D:Nat→Did):Prop where
  data:zxp bs all = true
  bits:bs = zjY all []
  id:∀ i,(D i).i = i
  step:∀ i o,all[i]? = some o→zxU E all (S i) (S (i + 1)) o (V i) (D i)
  ok:∀ i i',i < i'→i' < all.length→Ok bs (D i) (D i')
section
variable {all:List Oper} {bs:List Nat} {S:Nat→St} {V:Nat→AV} {D:Nat→Did} {done:Nat→Bool}
theorem Reg.chwr (g:Reg E all bs S V D) {i:Nat} (hi:i < all.length) (hc:(D i).ch = true):(D i).wr = true:=by
  obtain ⟨_,_,h⟩:=g.step i all[i] (List.getElem?_eq_getElem hi)
  rcases h with ⟨_,_,_,_,_,h⟩ | ⟨_,⟨_,_,_,_,_,_,_,_,h,_⟩ | ⟨_,_,_,_,_,_,h,_⟩ | ⟨_,_,_,_,h,_⟩ | ⟨_,_,_,_,_,_,_,_,h,_⟩ | ⟨_,_,_,_,_,_,_,_,_,_,_,h,_⟩⟩
  · rw [h] at hc; cases hc
  · rw [h] at hc; cases hc
  · rw [h] at hc; cases hc
  · exact h
  · rw [h] at hc; cases hc
  · rw [h] at hc; cases hc
theorem Reg.quiet (g:Reg E all bs S V D) {i:Nat} (hi:i < all.length) (hq:(D i).wr = false):(S (i + 1)).h = (S i).h:=by
  obtain ⟨_,_,h⟩:=g.step i all[i] (List.getElem?_eq_getElem hi)
  rcases h with ⟨_,_,h,_⟩ | ⟨_,⟨_,_,st',_,_,_,h1,h2,_⟩ | ⟨st',h1,h2,h3,_⟩ | ⟨_,_,_,_,h,_⟩ | ⟨_,_,z,_,_,h1,_,h2,_⟩ | ⟨st',H,vs,k1,k2,k3,k4,k5,k6,_⟩⟩
  · exact h
  · rw [h2] at hq
    cases hs:st'.h with
    | nil=>rw [h1,hs]; simp
    | cons x l=>rw [hs] at hq; cases hq
  · rw [h3,zxW h1 h2]
  · rw [h] at hq; cases hq
  · rw [h2] at hq
    cases z with
    | nil=>rw [h1]; simp
    | cons x l=>cases hq
  · rw [k6,(zsT k1 k2 (zBr k3) k4 k5 fun _ _=>rfl).1]
theorem Reg.grow (g:Reg E all bs S V D) {i:Nat} (hi:i < all.length) (hq:(D i).ch = false):∃ k,(S (i + 1)).h = (S i).h ++ k:=by
  cases hw:(D i).wr with
  | false=>exact ⟨[],by rw [g.quiet hi hw]; simp⟩
  | true =>
    obtain ⟨_,_,h⟩:=g.step i all[i] (List.getElem?_eq_getElem hi)
    rcases h with ⟨_,_,_,_,h,_⟩ | ⟨_,⟨_,_,st',_,_,_,h1,h2,_⟩ | ⟨st',_,_,_,_,h,_⟩ | ⟨_,_,_,_,_,h,_⟩ | ⟨_,_,z,_,_,h1,_⟩ | ⟨_,_,_,_,_,_,_,_,_,_,h,_⟩⟩
    · rw [h] at hw; cases hw
    · exact ⟨_,h1⟩
    · rw [h] at hw; cases hw
    · rw [h] at hq; cases hq
    · exact ⟨_,h1⟩
    · rw [h] at hw; cases hw
theorem Reg.grows (g:Reg E all bs S V D) {j:Nat}:∀ {c:Nat},j ≤ c→c ≤ all.length→(∀ i,j ≤ i→i < c→(D i).ch = false)→∃ k,(S c).h = (S j).h ++ k:=by
  intro c
  induction c with
  | zero=>intro h _ _; exact ⟨[],by rw [Nat.le_zero.1 h]; simp⟩
  | succ c ih =>
    intro h hl hq
    by_cases e:j = c + 1
    · exact ⟨[],by rw [e]; simp⟩
    · obtain ⟨k,hk⟩:=ih (by omega) (by omega) fun i h1 h2=>hq i h1 (by omega)
      obtain ⟨k',hk'⟩:=g.grow (i:=c) (by omega) (hq c (by omega) (by omega))
      exact ⟨k ++ k',by rw [hk',hk,List.append_assoc]⟩
structure Next (all:List Oper) (bs:List Nat) (done:Nat→Bool) (j:Nat):Prop where
  lt:j < all.length
  un:done j = false
  bef:∀ i,Nat.testBit ((atN bs j).getD 0) i = true→done i = true
theorem Reg.pass (g:Reg E all bs S V D) (hd:∀ j,j < all.length→done j = true→∀ i,Nat.testBit ((atN bs j).getD 0) i = true→done i = true) {j:Nat} (hn:Next all bs done j) (hf:(D j).wr = true) {c e:Nat} {H:List Obj} (hh:Hol all.length S D done c e H):c ≤ j ∧ j ≤ e:=by
  constructor
  · rcases Nat.lt_or_ge j c with h | h
    · exfalso
      rcases hh.fst with h0 | ⟨h0,h1⟩
      · omega
      · have hlt:c - 1 < all.length:=by have:=hh.ce; have:=hh.en; omega
        have hdn:done (c - 1) = true:=(hh.chg _ hlt h1).2 (by omega)
        by_cases e1:j = c - 1
        · subst e1; rw [hn.un] at hdn; cases hdn
        · rcases g.ok j (c - 1) (by omega) hlt with h2 | h2
          · rw [g.id,g.id] at h2
            have:=hd _ hlt hdn j h2
            rw [hn.un] at this; cases this
          · have h3:=(h2.2 h1).1
            rw [h3] at hf; cases hf
    · exact h
  · rcases Nat.lt_or_ge e j with h | h
    · exfalso
      have hlt:=hn.lt
      rcases hh.lst with h0 | h0
      · have:=hh.en; omega
      · rcases g.ok e j h hlt with h2 | h2
        · rw [g.id,g.id] at h2
          have h3:=(hh.chg e (by omega) h0).1 (hn.bef _ h2)
          have:=hh.ce
          omega
        · have h3:=(h2.1 h0).1
          rw [h3] at hf; cases hf
    · exact h
theorem Reg.growLen (g:Reg E all bs S V D) {c e:Nat} {H:List Obj} (hh:Hol all.length S D done c e H) {i j:Nat} (hc:c ≤ i) (hij:i ≤ j) (hj:j ≤ e):∃ k,(S j).h = (S i).h ++ k:=by
  induction j with
  | zero => obtain rfl:i = 0:=by omega
            exact ⟨[],by simp⟩
  | succ j ih =>
    by_cases e1:i = j + 1
    · subst e1; exact ⟨[],by simp⟩
    · obtain ⟨k,hk⟩:=ih (by omega) (by omega)
      obtain ⟨k',hk'⟩:=g.grow (i:=j) (by have:=hh.en; omega) (hh.quiet j (by omega) (by omega))
      exact ⟨k ++ k',by rw [hk',hk,List.append_assoc]⟩
theorem zhX {α:Type} {a b k:List α} (h:a = b ++ k):b.length ≤ a.length:=by rw [h]; simp
theorem Reg.sees (g:Reg E all bs S V D) {c e j:Nat} {H:List Obj} (hh:Hol all.length S D done c e H) (hcj:c ≤ j) (hje:j ≤ e) {x:Nat} {o:Obj} (ho:atN (S j).h x = some o) (hx:atN H x ≠ some .hole):atN H x = some o:=by
  obtain ⟨k,hk⟩:=g.growLen hh hcj hje (Nat.le_refl e)
  refine hh.own x o (by rw [hk]; exact zju ho) fun i h1 h2 h3 h4=>?_
  cases hd:done i with
  | true=>rfl
  | false=>exact absurd (hh.hol i h1 h2 hd x h3 h4) hx
theorem Reg.full (g:Reg E all bs S V D) {c e:Nat} {H:List Obj} (hh:Hol all.length S D done c e H) (hall:∀ i,c ≤ i→i < e→(D i).wr = true→done i = true):H = (S e).h:=by
  apply List.ext_getElem?
  intro x
  cases hx:(S e).h[x]? with
  | none =>
    have:(S e).h.length ≤ x:=by simpa using hx
    have hl:=hh.len
    rw [List.getElem?_eq_none_iff]; omega
  | some o =>
    rw [← z7]
    rw [← z7] at hx
    refine hh.own x o hx fun i h1 h2 h3 h4=>?_
    cases hw:(D i).wr with
    | true=>exact hall i h1 h2 hw
    | false =>
      have:=g.quiet (i:=i) (by have:=hh.en; omega) hw
      rw [this] at h4
      omega
theorem Reg.before (g:Reg E all bs S V D) {j:Nat} (hn:Next all bs done j) (hc:(D j).ch = true) {i:Nat} (hi:i < j) (hw:(D i).wr = true):done i = true:=by
  rcases g.ok i j hi hn.lt with h | h
  · rw [g.id,g.id] at h; exact hn.bef i h
  · have:=(h.2 hc).1
    rw [this] at hw; cases hw
theorem zxX {o:Option (List Nat)} {k:List Nat} (h:zqr o k = true) {x:Nat} (hx:x ∈ k):∃ l,o = some l ∧ x ∉ l:=by
  cases o with
  | none=>cases h
  | some l =>
    refine ⟨l,rfl,fun hl=>?_⟩
    have:=List.all_eq_true.1 h x hx
    rw [zbj.2 hl] at this
    cases this
theorem Reg.keeps (g:Reg E all bs S V D) {i:Nat} (hi:i < all.length) {x:Nat} {o:Obj} (hx:atN (S i).h x = some o) (hc:(D i).ch = true→∃ l,(D i).cg = some l ∧ x ∉ l):atN (S (i + 1)).h x = some o:=by
  cases hch:(D i).ch with
  | false =>
    obtain ⟨k,hk⟩:=g.grow hi hch
    rw [hk]; exact zju hx
  | true =>
    obtain ⟨l,hl,hn⟩:=hc hch
    obtain ⟨_,_,h⟩:=g.step i all[i] (List.getElem?_eq_getElem hi)
    rcases h with ⟨_,_,_,_,_,h⟩ | ⟨_,⟨_,_,_,_,_,_,_,_,h,_⟩ | ⟨_,_,_,_,_,_,h,_⟩ | ⟨st',hev,hh,_,_,_,hcg⟩ | ⟨_,_,_,_,_,_,_,_,h,_⟩ | ⟨_,_,_,_,_,_,_,_,_,_,_,h,_⟩⟩
    · rw [h] at hch; cases hch
    · rw [h] at hch; cases hch
    · rw [h] at hch; cases hch
    · rw [hl] at hcg
      rw [hh]
      exact zLJ hcg.symm hev hx hn
    · rw [h] at hch; cases hch
    · rw [h] at hch; cases hch
theorem Reg.looks (g:Reg E all bs S V D) (hd:∀ j,j < all.length→done j = true→∀ i,Nat.testBit ((atN bs j).getD 0) i = true→done i = true) {j:Nat} (hn:Next all bs done j) (hr:(D j).rd = true) {c e:Nat} {H:List Obj} (hh:Hol all.length S D done c e H) {x:Nat} {o o':Obj}
    (hx:x ∈ (D j).lk) (ho:atN (S j).h x = some o) (hH:atN H x = some o') (hne:o' ≠ .hole):atN H x = some o:=by
  have hne':atN H x ≠ some .hole:=by rw [hH]; intro e; cases e; exact hne rfl
  have hlt:=hn.lt
  rcases Nat.lt_or_ge j c with h1 | h1
  ·
    have key:∀ i,j ≤ i→i ≤ c→atN (S i).h x = some o:=by
      intro i
      induction i with
      | zero => intro h2 _; obtain rfl:j = 0:=by omega
                exact ho
      | succ i ih =>
        intro h2 h3
        by_cases e1:j = i + 1
        · rw [← e1]; exact ho
        · refine g.keeps (by have:=hh.ce; have:=hh.en; omega) (ih (by omega) (by omega)) fun hch=>?_
          have hil:i < all.length:=by have:=hh.ce; have:=hh.en; omega
          have hdi:done i = true:=(hh.chg i hil hch).2 (by omega)
          have hne2:j ≠ i:=fun e2=>by subst e2; rw [hn.un] at hdi; cases hdi
          rcases g.ok j i (by omega) hil with h4 | h4
          · rw [g.id,g.id] at h4
            have:=hd i hil hdi j h4
            rw [hn.un] at this; cases this
          · exact zxX ((h4.2 hch).2 hr) hx
    exact g.sees hh (Nat.le_refl c) hh.ce (key c (by omega) (Nat.le_refl c)) hne'
  · rcases Nat.lt_or_ge e j with h2 | h2
    ·
      have hxe:x < (S e).h.length:=by rw [← hh.len]; exact je hH
      obtain ⟨u,hu⟩:∃ u,atN (S e).h x = some u:=⟨(S e).h[x],by rw [z7,List.getElem?_eq_getElem hxe]⟩
      have key:∀ i,e ≤ i→i ≤ j→atN (S i).h x = some u:=by
        intro i
        induction i with
        | zero => intro h3 _; obtain rfl:e = 0:=by omega
                  exact hu
        | succ i ih =>
          intro h3 h4
          by_cases e1:e = i + 1
          · rw [← e1]; exact hu
          · refine g.keeps (by omega) (ih (by omega) (by omega)) fun hch=>?_
            have hil:i < all.length:=by omega
            rcases g.ok i j (by omega) hlt with h5 | h5
            · rw [g.id,g.id] at h5
              have h6:=(hh.chg i hil hch).1 (hn.bef i h5)
              have:=hh.ce
              omega
            · exact zxX ((h5.1 hch).2 hr) hx
      have h3:=key j (by omega) (Nat.le_refl j)
      rw [ho] at h3
      cases h3
      exact g.sees hh hh.ce (Nat.le_refl e) hu hne'
    · exact g.sees hh h1 h2 ho hne'
theorem zLL (D:Nat→Did) (n:Nat):∀ k c,c + k = n→∃ e,c ≤ e ∧ e ≤ n ∧ (∀ i,c ≤ i→i < e→(D i).ch = false) ∧ (e = n ∨ (D e).ch = true):=by
  intro k
  induction k with
  | zero=>intro c h; exact ⟨c,Nat.le_refl c,by omega,fun i h1 h2=>by omega,.inl (by omega)⟩
  | succ k ih =>
    intro c h
    cases hc:(D c).ch with
    | true=>exact ⟨c,Nat.le_refl c,by omega,fun i h1 h2=>by omega,.inr hc⟩
    | false =>
      obtain ⟨e,h1,h2,h3,h4⟩:=ih (c + 1) (by omega)
      refine ⟨e,by omega,h2,fun i h5 h6=>?_,h4⟩
      by_cases e1:i = c
      · subst e1; exact hc
      · exact h3 i (by omega) h6
theorem Reg.open (g:Reg E all bs S V D) {c:Nat} (hcn:c ≤ all.length) (hfst:c = 0 ∨ (0 < c ∧ (D (c - 1)).ch = true)) (hchg:∀ i,i < all.length→(D i).ch = true→(done i = true ↔ i < c)) (hund:∀ i,c ≤ i→i < all.length→(D i).wr = true→done i = false) :
    ∃ e n,Hol all.length S D done c e ((S c).h ++ List.replicate n .hole):=by
  obtain ⟨e,h1,h2,h3,h4⟩:=zLL D all.length (all.length - c) c (by omega)
  have grow:∀ j,c ≤ j→j ≤ e→∃ k,(S j).h = (S c).h ++ k:=fun j hj hje=>g.grows hj (by omega) fun i h5 h6=>h3 i h5 (by omega)
  obtain ⟨k,hk⟩:=grow e h1 (Nat.le_refl e)
  have hlenc:∀ i,c ≤ i→i < e→(S c).h.length ≤ (S i).h.length:=fun i h5 h6=>zhX (grow i h5 (by omega)).choose_spec
  have hlene:∀ i,c ≤ i→i < e→(S (i + 1)).h.length ≤ (S e).h.length:=fun i h5 h6=>by
    obtain ⟨k',hk'⟩:=g.grows (j:=i + 1) (c:=e) (by omega) (by omega) fun i' h7 h8=>h3 i' (by omega) h8
    exact zhX hk'
  refine ⟨e,k.length,h1,h2,hchg,h3,hfst,h4,by rw [hk]; simp,fun i h5 h6 h7 x h8 h9=>?_,fun x o ho hall=>?_⟩
  · have:=hlenc i h5 h6
    have:=hlene i h5 h6
    rw [hk] at this
    simp only [List.length_append] at this
    rw [z7,List.getElem?_append_right (by omega),List.getElem?_replicate,if_pos (by omega)]
  · by_cases hx:x < (S c).h.length
    · rw [vS hx]
      rw [hk,vS hx] at ho
      exact ho
    · exfalso
      have hxe:=je ho
      have key:∀ j,c ≤ j→j ≤ e→x < (S j).h.length→∃ i,c ≤ i ∧ i < e ∧ (S i).h.length ≤ x ∧ x < (S (i + 1)).h.length:=by
        intro j
        induction j with
        | zero => intro h5 _ h6; obtain rfl:c = 0:=by omega
                  exact absurd h6 hx
        | succ j ih =>
          intro h5 h6 h7
          by_cases e1:c = j + 1
          · rw [← e1] at h7; exact absurd h7 hx
          · by_cases h8:x < (S j).h.length
            · exact ih (by omega) (by omega) h8
            · exact ⟨j,by omega,by omega,by omega,h7⟩
      obtain ⟨i,h5,h6,h7,h8⟩:=key e h1 (Nat.le_refl e) hxe
      have hdi:=hall i h5 h6 h7 h8
      cases hw:(D i).wr with
      | true=>rw [hund i h5 (by omega) hw] at hdi; cases hdi
      | false =>
        have:=g.quiet (i:=i) (by omega) hw
        rw [this] at h8
        omega
theorem Reg.slots (g:Reg E all bs S V D):∀ {j:Nat},j ≤ all.length →
    (∀ (i:Nat) (o:Oper) (d:Nat),all[i]? = some o→i < j→o.dst = some d→look (S j).fr d = some (V i)) ∧
    (∀ t,(∀ (i:Nat) (o:Oper),all[i]? = some o→i < j→o.dst ≠ some t)→look (S j).fr t = look (S 0).fr t):=by
  intro j
  induction j with
  | zero=>intro _; exact ⟨fun i o d _ h=>by omega,fun t _=>rfl⟩
  | succ j ih =>
    intro hj
    obtain ⟨h1,h2⟩:=ih (by omega)
    have hget:=List.getElem?_eq_getElem (show j < all.length by omega)
    obtain ⟨_,hf,_⟩:=g.step j _ hget
    have hfr:∀ t,look (S (j + 1)).fr t = if all[j].dst = some t then some (V j) else look (S j).fr t:=by
      intro t
      rw [hf]
      cases hd:all[j].dst with
      | none=>simp [St.put]
      | some d=>simp [St.put,zjp]
    have hdist:=(zgv g.data hget).1
    constructor
    · intro i o d hi hij hd
      rw [hfr]
      by_cases e:i = j
      · subst e
        rw [hget] at hi
        cases hi
        rw [if_pos hd]
      · rw [if_neg ?_]
        · exact h1 i o d hi (by omega) hd
        · have:=(zfg hdist i o d hi hd).1
          rw [Nat.zero_add] at this
          exact this.resolve_left e
    · intro t ht
      rw [hfr,if_neg (ht j _ hget (by omega))]
      exact h2 t fun i o hi hij=>ht i o hi (by omega)
end
end
end Go.Ev
end
section
namespace Go.Ev
open Go.RowKit
section
variable {P:Program} {nt:Up} {F0 G:FH} {w0:World} {E:Env} {R:Type} {bs:List Nat} {S:Nat→St} {V:Nat→AV} {D:Nat→Did} {done:Nat→Bool} {ops:Array Oper} {Q:Exit→Act→World→Prop}
def add (done:Nat→Bool) (j:Nat):Nat→Bool:=fun i=>if i = j then true else done i
theorem zjw {i j:Nat}:add done j i = true ↔ done i = true ∨ i = j:=by
 unfold add
 by_cases e:i = j
 ·simp [e]
 ·simp [e]
theorem zMt (fr:List (Nat × AV)) (h:List Obj) (dst:Option Tmp) (v:AV):(⟨fr,h⟩:St).put dst v = ⟨((⟨fr,h⟩:St).put dst v).fr,h⟩:=by cases dst <;> rfl
theorem Reg.filled (g:Reg E ops.toList bs S V D) (hd:∀ j,j < ops.toList.length→done j = true→∀ i,Nat.testBit ((atN bs j).getD 0) i = true→done i = true) {j c e:Nat} {H z:List Obj} (hn:Next ops.toList bs done j) (hh:Hol ops.toList.length S D done c e H)
 (hf:(D j).wr = true) (hch:(D j).ch = false) (hz:(S (j + 1)).h = (S j).h ++ z) :
 ∃ H2:List Obj,H2.length = H.length ∧ (∀ i o,atN z i = some o→atN H ((S j).h.length + i) = some .hole ∧ atN H2 ((S j).h.length + i) = some o) ∧
  (∀ i,¬((S j).h.length ≤ i ∧ i < (S j).h.length + z.length)→atN H2 i = atN H i) ∧ Hol ops.toList.length S D (add done j) c e H2:=by
 obtain ⟨hcj,hje⟩:=g.pass hd hn hf hh
 have hlt:=hn.lt
 have hjlt:j < e:=by
  rcases Nat.lt_or_ge j e with h | h
  ·exact h
  ·obtain rfl:j = e:=by omega
   rcases hh.lst with h0 | h0
   ·omega
   ·rw [hch] at h0; cases h0
 have adn:∀ {i},i ≠ j→add done j i = done i:=fun {i} hi=>by unfold add; rw [if_neg hi]
 have hlen1:(S (j + 1)).h.length = (S j).h.length + z.length:=by rw [hz]; simp
 obtain ⟨k,hk⟩:=g.growLen hh (i:=j + 1) (j:=e) (by omega) (by omega) (Nat.le_refl e)
 have hLe:(S j).h.length + z.length ≤ H.length:=by rw [hh.len,← hlen1]; exact zhX hk
 have hholes:∀ i,i < z.length→atN H ((S j).h.length + i) = some .hole:=fun i hi=>hh.hol j hcj hjlt hn.un _ (by omega) (by omega)
 let H2:List Obj:=H.take (S j).h.length ++ z ++ H.drop ((S j).h.length + z.length)
 have hH2len:H2.length = H.length:=by simp [H2]; omega
 have hH2in:∀ i o',atN z i = some o'→atN H2 ((S j).h.length + i) = some o':=by
  intro i o' ho'
  have hil:=je ho'
  simp only [H2]
  rw [z7,List.append_assoc,List.getElem?_append_right (by simp; omega),List.length_take,Nat.min_eq_left (by omega),Nat.add_sub_cancel_left,List.getElem?_append_left hil,← z7,ho']
 have hH2out:∀ i,¬((S j).h.length ≤ i ∧ i < (S j).h.length + z.length)→atN H2 i = atN H i:=by
  intro i hi
  simp only [H2]
  rw [z7,z7,List.append_assoc]
  by_cases h5:i < (S j).h.length
  ·rw [List.getElem?_append_left (by simp; omega),List.getElem?_take,if_pos h5]
  ·rw [List.getElem?_append_right (by simp; omega),List.length_take,Nat.min_eq_left (by omega),List.getElem?_append_right (by omega),List.getElem?_drop]
   congr 1
   omega
 refine ⟨H2,hH2len,fun i o' ho'=>⟨hholes i (je ho'),hH2in i o' ho'⟩,hH2out,?_⟩
 have disj:∀ i,c ≤ i→i < e→i ≠ j→∀ x,(S i).h.length ≤ x→x < (S (i + 1)).h.length→¬((S j).h.length ≤ x ∧ x < (S j).h.length + z.length):=by
  intro i h5 h6 hne x h7 h8 h9
  rcases Nat.lt_or_gt_of_ne hne with h10 | h10
  ·obtain ⟨k',hk'⟩:=g.growLen hh (i:=i + 1) (j:=j) (by omega) (by omega) (by omega)
   have:=zhX hk'
   omega
  ·obtain ⟨k',hk'⟩:=g.growLen hh (i:=j + 1) (j:=i) (by omega) (by omega) (by omega)
   have:=zhX hk'
   omega
 refine ⟨hh.ce,hh.en,fun i hi hci=>?_,hh.quiet,hh.fst,hh.lst,by rw [hH2len]; exact hh.len,fun i h5 h6 h7 x h8 h9=>?_,fun x o' ho' hall=>?_⟩
 ·have hne:i ≠ j:=by rintro rfl; rw [hch] at hci; cases hci
  rw [adn hne]; exact hh.chg i hi hci
 ·have hne:i ≠ j:=by
   rintro rfl
   rw [zjw.2 (.inr rfl)] at h7; cases h7
  rw [adn hne] at h7
  rw [hH2out x (disj i h5 h6 hne x h8 h9)]
  exact hh.hol i h5 h6 h7 x h8 h9
 ·by_cases hx:(S j).h.length ≤ x ∧ x < (S j).h.length + z.length
  ·obtain ⟨i,rfl⟩:∃ i,x = (S j).h.length + i:=⟨x - (S j).h.length,by omega⟩
   have hil:i < z.length:=by omega
   have hoi:atN z i = some z[i]:=by rw [z7,List.getElem?_eq_getElem hil]
   rw [hH2in i _ hoi,← ho',hk,hz,List.append_assoc,z7,List.getElem?_append_right (by omega),Nat.add_sub_cancel_left,List.getElem?_append_left hil,← z7,hoi]
  ·rw [hH2out x hx]
   refine hh.own x o' ho' fun i h5 h6 h7 h8=>?_
   have h9:=hall i h5 h6 h7 h8
   by_cases hne:i = j
   ·subst hne
    exact absurd ⟨h7,by omega⟩ hx
   ·rw [adn hne] at h9; exact h9
theorem zsU {h h2:List Obj} {fr:List (Nat × AV)} {a:Ty}:∀ {ps:List (Nat × Option AV)} {vs vs':List AV},zzH h a vs ps = some vs'→(∀ i j,(i,some (AV.ow j)) ∈ ps→∀ o,atN h j = some o→atN h2 j = some o)→zax false a vs ps ⟨fr,h2⟩ = some (vs',⟨fr,h2⟩)
 | [],vs,vs',hb,_=>by cases hb; rfl
 | (i,none) :: ps,vs,vs',hb,_=>by cases hb
 | (i,some v) :: ps,vs,vs',hb,hs=>by
  cases v with
  | ow j =>
   simp only [zzH] at hb
   obtain ⟨h1,h2'⟩:=zb hb
   have hr:zng h2 a i j = true:=by
    unfold zng at h1 ⊢
    cases hT:zbg h j with
    | none=>rw [hT] at h1; cases h1
    | some σ =>
     rw [hT] at h1
     obtain ⟨o,ho,hl⟩:=zur.1 hT
     rw [zur.2 ⟨o,hs i j (by simp) o ho,hl⟩]
     exact h1
   simp only [zax,hr,cond_true]
   exact zsU h2' fun i' j' hm=>hs i' j' (by simp [hm])
  | dat σ y =>
   simp only [zzH] at hb
   obtain ⟨h1,h2'⟩:=zb hb
   simp only [zax,frz,qD,h1,cond_true]
   exact zsU h2' fun i' j' hm=>hs i' j' (by simp [hm])
  | _=>cases hb
theorem zwc {st:St} {o:Oper} {t x:Nat} {v:AV} (ht:t ∈ zde o) (hv:look st.fr t = some v) (hx:x ∈ v.ids):x ∈ zay st o:=by
 unfold zay
 exact List.mem_flatMap.2 ⟨t,ht,by rw [hv]; exact hx⟩
theorem zKQ {v:AV} {i:Nat} (h:v.has1 i = true):i ∈ v.ids1:=by
 cases v <;> first | (cases h; done) | (obtain ⟨k,hk⟩:=zo8 h; exact List.mem_of_getElem? hk) | (have:=Nat.eq_of_beq_eq_true h; subst this; simp [AV.ids1])
theorem zus {v:AV} {i:Nat} (ht:∀ vs,v ≠ .tup vs) (h:v.has i = true):i ∈ v.ids:=by
 cases v with
 | fld a vs =>
  simp only [AV.has,List.any_eq_true] at h
  obtain ⟨x,hx,hxi⟩:=h
  exact List.mem_flatMap.2 ⟨x,hx,zKQ hxi⟩
 | tup vs=>exact absurd rfl (ht vs)
 | clo f l=>obtain ⟨k,hk⟩:=zo8 (f:=f) h; exact List.mem_of_getElem? hk
 | _=>first | (cases h; done) | (have:=Nat.eq_of_beq_eq_true h; subst this; simp [AV.ids,AV.ids1])
theorem zut {v:AV} {i:Nat} (h:i ∈ v.ids):v.has i = true:=by
 have one:∀ u:AV,i ∈ u.ids1→u.has1 i = true:=by
  intro u hu
  cases u <;> first
   | (cases hu; done)
   | (simp only [AV.ids1,List.mem_singleton] at hu; subst hu; exact Nat.beq_refl _)
   | (simp only [AV.ids1] at hu; exact List.any_eq_true.2 ⟨i,hu,Nat.beq_refl i⟩)
 cases v with
 | fld a vs =>
  obtain ⟨u,hu,hi⟩:=List.mem_flatMap.1 h
  exact List.any_eq_true.2 ⟨u,hu,one u hi⟩
 | tup vs=>rfl
 | dat τ x=>cases h
 | clip τ x=>cases h
 | dead=>cases h
 | bp id p=>exact one (.bp id p) h
 | rp id j p=>exact one (.rp id j p) h
 | ow id=>exact one (.ow id) h
 | om id=>exact one (.om id) h
 | ds id j p=>exact one (.ds id j p) h
 | dp id j p l q=>exact one (.dp id j p l q) h
 | clo f l=>exact one (.clo f l) h
 | gs id k=>exact one (.gs id k) h
theorem z6.real {P:Program} {h:List Obj} {m:MM} {F:FH} {w:World} {i x:Nat} {v:AV} {fz:Bool} (ho:z6 P h m F w i (.bx v fz)) (hx:x ∈ v.ids):∃ o,atN h x = some o ∧ o ≠ .hole:=by
 obtain ⟨b,n,el,fr,cs,h1,h2',h3,h4⟩:=ho
 cases v with
 | fld a vs=>exact zE.real (u:=.agg ⟨cs.toList⟩) (show zE P h m F (.fld a vs) (.agg ⟨cs.toList⟩) from ⟨_,rfl,h3⟩) (zut hx)
 | ow id=>obtain ⟨u,e,hu⟩:=h3; exact hu.real (zut hx)
 | om id=>obtain ⟨u,e,hu⟩:=h3; exact hu.real (zut hx)
 | dat τ y=>cases hx
 | clip τ y=>cases hx
 | dead=>cases hx
 | _=>exact h3.elim
theorem zxY {h H:List Obj} {L:List Nat} (hobs:∀ i v f,atN H i = some (.bx v f)→∀ x ∈ v.ids,∃ o,atN H x = some o ∧ o ≠ .hole) (hsame:∀ i o,i ∈ L→atN H i = some o→o ≠ .hole→atN H i = atN h i) :
 ∀ {n:Nat} {L0:List Nat},(∀ i,i ∈ zgS h n L0→i ∈ L)→(∀ i,i ∈ L0→∃ o,atN H i = some o ∧ o ≠ .hole)→∀ i,i ∈ zgS h n L0→∃ o,atN H i = some o ∧ o ≠ .hole
 | 0,_,_,h0,i,hi=>h0 i hi
 | n + 1,L0,hL,h0,i,hi=>by
  refine zxY hobs hsame (n:=n) (L0:=L0 ++ L0.flatMap (zDb h)) hL (fun j hj=>?_) i hi
  rcases List.mem_append.1 hj with hj | hj
  ·exact h0 j hj
  ·obtain ⟨y,hy,hjy⟩:=List.mem_flatMap.1 hj
   obtain ⟨o,ho,hne⟩:=h0 y hy
   have hs:=hsame y o (hL y (zsS (n:=n + 1) hy)) ho hne
   unfold zDb at hjy
   rw [← hs,ho] at hjy
   cases o with
   | bx v f=>exact hobs y v f ho j hjy
   | _=>cases hjy
theorem zDN {v:AV} {i:Nat} (h:v.has1 i = true):v.has i = true:=by
 cases v <;> first | exact h | cases h
theorem zvm {θ:Option Ty} {c:Value} {v:AV} {i:Nat} (h:zhw θ c = some v):v.has1 i = false:=by
 unfold zhw at h
 (repeat' split at h) <;> first | (cases h; rfl) | cases h
theorem Reg.go (hE:EnvOk P G E) (hG:G.le F0) (hnt:E.nt = nt) (g:Reg E ops.toList bs S V D) {a:Act} {w:World} (hm:Mid P nt F0 w0 ops.toList bs S V D done a w) {j:Nat} (hn:Next ops.toList bs done j)
 {K:Act→World→Prop} (hK:∀ a' w',Mid P nt F0 w0 ops.toList bs S V D (add done j) a' w'→K a' w'):wpOp P ops Q j K a w:=by
 obtain ⟨hd,c,e,H,hh,fr,m,F,hrel,hV,hO⟩:=hm
 have hlt:=hn.lt
 have hget:ops.toList[j]? = some ops.toList[j]:=List.getElem?_eq_getElem hlt
 generalize ho:ops.toList[j] = o at hget
 have hgo:ops[j]? = some o:=by rw [← Array.getElem?_toList]; exact hget
 obtain ⟨hs1,hs2⟩:=g.slots (j:=j) (by omega)
 obtain ⟨hdata,hguard,_⟩:=zgv g.data hget
 have hag:∀ t,t ∈ zde o→look fr t = look (S j).fr t:=by
  intro t ht
  by_cases hex:∃ (i:Nat) (o':Oper),ops.toList[i]? = some o' ∧ o'.dst = some t
  ·obtain ⟨i,o',hi,hdt⟩:=hex
   have:=(zfg hdata i o' t hi hdt).2 ht
   rw [Nat.zero_add] at this
   rcases this with this | ⟨hji,hbit⟩
   ·rw [hV i o' t hi (hn.bef i this.1) hdt,hs1 i o' t hi this.2 hdt]
   ·have only:∀ (i':Nat) (u:Oper),ops.toList[i']? = some u→u.dst = some t→i' = i:=fun i' u hu hdu=>by
     have:=(zfg (zgv g.data hi).1 i' u t hu hdu).1
     rw [Nat.zero_add] at this
     exact this.resolve_right fun h=>h hdt
    have hun:done i = false:=by
     cases hdi:done i with
     | false=>rfl
     | true =>
      have hil:i < ops.toList.length:=(List.getElem?_eq_some_iff.1 hi).1
      have:=hd i hil hdi j hbit
      rw [hn.un] at this; cases this
    have e1:look fr t = look (S 0).fr t:=hO t fun i' u hu hdi hdu=>by
     rw [only i' u hu hdu,hun] at hdi; cases hdi
    have e2:look (S j).fr t = look (S 0).fr t:=hs2 t fun i' u hu hlt' hdu=>by
     have:=only i' u hu hdu
     omega
    rw [e1,e2]
  ·have hno:∀ (i:Nat) (o':Oper),ops.toList[i]? = some o'→o'.dst ≠ some t:=fun i o' hi hdt=>hex ⟨i,o',hi,hdt⟩
   rw [hO t fun i o' hi _=>hno i o' hi,hs2 t fun i o' hi _=>hno i o' hi]
 have hag':∀ t,Operand.tmp t ∈ o.op.operands→look fr t = look (S j).fr t:=fun t ht=>hag t (zqJ.2 ht)
 have hgv:zbh ops.toList fr o = zbh ops.toList (S j).fr o:=by
  unfold zbh
  cases hgd:o.guard with
  | none=>rfl
  | some gw =>
   obtain ⟨gi,want⟩:=gw
   simp only
   obtain ⟨hb,hlt'⟩:=hguard gi want hgd
   have:(zni ops.toList gi).bind (look fr) = (zni ops.toList gi).bind (look (S j).fr):=by
    cases hdo:zni ops.toList gi with
    | none=>rfl
    | some d =>
     simp only [Option.bind_some]
     unfold zni at hdo
     rw [z7] at hdo
     obtain ⟨o',ho',hdt⟩:=Option.bind_eq_some_iff.1 hdo
     rw [hV gi o' d ho' (hn.bef gi hb) hdt,hs1 gi o' d ho' hlt' hdt]
   rw [this]
 obtain ⟨hdst,_,hstep⟩:=g.step j o hget
 have hd':∀ d,o.dst = some d→d < nt:=fun d h=>hnt ▸ zxT hdst d h
 have fin:∀ (c' e':Nat) (H':List Obj) (a':Act) (w':World) (m':MM) (F':FH),Hol ops.toList.length S D (add done j) c' e' H' →
  Rel P nt F0 w0 ((⟨fr,H'⟩:St).put o.dst (V j)) m' F' a' w'→Mid P nt F0 w0 ops.toList bs S V D (add done j) a' w':=by
  intro c' e' H' a' w' m' F' hh' hr
  refine ⟨fun j' hj' hdj i hb=>?_,c',e',H',hh',_,m',F',(by rw [zMt] at hr; exact hr),?_,?_⟩
  ·rw [zjw] at hdj ⊢
   rcases hdj with hdj | rfl
   ·exact .inl (hd j' hj' hdj i hb)
   ·exact .inl (hn.bef i hb)
  ·intro i o' d hi hdi hdt
   have hl:∀ t,look ((⟨fr,H'⟩:St).put o.dst (V j)).fr t = if o.dst = some t then some (V j) else look fr t:=by
    intro t
    cases hd:o.dst with
    | none=>simp [St.put]
    | some d=>simp [St.put,zjp]
   rw [hl]
   by_cases e:o.dst = some d
   ·rw [if_pos e]
    have:=(zfg hdata i o' d hi hdt).1
    rw [Nat.zero_add] at this
    rcases this with rfl | this
    ·rfl
    ·exact absurd e this
   ·rw [if_neg e]
    rw [zjw] at hdi
    rcases hdi with hdi | rfl
    ·exact hV i o' d hi hdi hdt
    ·rw [hget] at hi; cases hi; exact absurd hdt e
  ·intro t ht
   have:=ht j o hget ((zjw).2 (.inr rfl))
   rw [← hO t fun i o' hi hdi=>ht i o' hi ((zjw).2 (.inl hdi))]
   cases hd:o.dst with
   | none=>rfl
   | some d =>
    simp only [St.put,zjp]
    rw [if_neg]
    rintro rfl
    exact this hd
 have adn:∀ {i},i ≠ j→add done j i = done i:=fun {i} hi=>by unfold add; rw [if_neg hi]
 have stay:(D j).wr = false→Hol ops.toList.length S D (add done j) c e H:=by
  intro hf
  have hch:(D j).ch = false:=by
   cases hc:(D j).ch with
   | false=>rfl
   | true=>rw [g.chwr hlt hc] at hf; cases hf
  refine ⟨hh.ce,hh.en,fun i hi hci=>?_,hh.quiet,hh.fst,hh.lst,hh.len,fun i h1 h2 h3 x h4 h5=>?_,fun x o' ho' hall=>hh.own x o' ho' fun i h1 h2 h3 h4=>?_⟩
  ·have hne:i ≠ j:=by rintro rfl; rw [hch] at hci; cases hci
   rw [adn hne]; exact hh.chg i hi hci
  ·have hne:i ≠ j:=by
    rintro rfl
    rw [zjw.2 (.inr rfl)] at h3; cases h3
   rw [adn hne] at h3
   exact hh.hol i h1 h2 h3 x h4 h5
  ·have h5:=hall i h1 h2 h3 h4
   by_cases hne:i = j
   ·subst hne
    have:=g.quiet hlt hf
    rw [this] at h4
    omega
   ·rw [adn hne] at h5; exact h5
 unfold wpOp
 simp only [hgo]
 rcases hstep with ⟨hg,hVj,hh,h1,h2,h3⟩ | ⟨hg,hstep⟩
 ·have hwant:=zl1 hrel (o:=o) (ops:=ops) (b:=false) (by rw [← hg]; exact hgv)
  rw [hwant]
  simp only [Bool.false_eq_true,if_false]
  refine hK _ _ (fin c e H _ _ m F (stay h2) ?_)
  exact Rel.put hrel hd' (by rw [hVj]; exact vp)
 ·have hwant := zl1 hrel (o:=o) (ops:=ops) (b:=true) (by rw [← hg]; exact hgv)
  rw [hwant]
  simp only [if_true]
  left
  rcases hstep with ⟨fr',v0,st',hres,hev,hVj,hh1,h2,h3,hlk⟩ | ⟨st',hst,hev,hh1,h1,h2,h3,hlk⟩ | ⟨st',hev,hh1,h1,h2,h3,_⟩ | ⟨b,vs',z,hbld,hVj,hh1,h1,h2,h3,hlk⟩ | ⟨st',Hd,vs,hsh,hone,hids,hcl,hev,hh1,h1,h2,h3,hlk⟩
  ·have hsp:=zqL hres
   have hf:∀ t v,look fr' t = some v→v.pure = true ∧ zh P H m F v (a.tmps.getD t undef):=by
    intro t v ht
    obtain ⟨h4,v1,h5,h6,h7,h8⟩:=hsp t v ht
    refine ⟨h8 rfl,?_⟩
    have hr1:=hrel.fr t v1 (by simp only; rw [hag t h4]; exact h5)
    simp only at hr1
    cases hrd:(D j).rd with
    | false=>rw [h7 hrd]; exact hr1
    | true =>
     rw [h6]
     cases v1 with
     | tup vs =>
      have e:(zfc (S j).h (.tup vs)).1 = .tup vs:=by
       unfold zfc
       cases (AV.tup vs).pure <;> rfl
      rw [e]; exact hr1
     | _ =>
      refine zH1 hrel (fun i hi o' ho'=>?_) hr1
      rw [zh.eq1 (by intro vs e; cases e)] at hr1
      obtain ⟨u,hu,hne⟩:=hr1.real hi
      exact g.looks hd hn hrd hh (by rw [hlk]; exact zwc h4 h5 (zus (by intro vs e; cases e) hi)) ho' hu hne
   have hstart:=hrel.start hf
   refine zqI hE (hG.trans hrel.gro.1) hstart hev _ _ ?_
   rintro u w' ⟨m',F',hle,hrel',hv⟩
   cases hwr:(D j).wr with
   | true =>
    obtain ⟨H2,hH2len,hsz,hH2out,hhol⟩:=g.filled hd hn hh hwr h3 hh1
    have hs:∀ i o',atN st'.h i = some o'→atN H ((S j).h.length + i) = some .hole ∧ atN H2 ((S j).h.length + i) = some (o'.rn ((S j).h.length + ·)):=fun i o' ho'=>by
     have:=hsz i (o'.sh (S j).h.length) (by rw [z7,List.getElem?_map,← z7,ho']; rfl)
     exact ⟨this.1,by rw [this.2,Obj.sh_rn]⟩
    rw [List.length_map] at hH2out
    have hfill:=hrel.fill hrel' hH2len hs hH2out
    exact hK _ _ (fin c e H2 _ _ _ F' hhol (Rel.put hfill hd' (by rw [hVj]; exact hv.fill fun i o' ho'=>(hs i o' ho').2)))
   | false =>
    have hcat:=hrel.cat hrel' hle
    rw [hwr] at h2
    have hnil:st'.h = []:=by
     cases hs:st'.h with
     | nil=>rfl
     | cons x l=>rw [hs] at h2; cases h2
    rw [hnil] at hcat hv
    simp only [List.map_nil,List.append_nil] at hcat
    refine hK _ _ (fin c e H _ _ (m.cat H.length m') F' (stay hwr) ?_)
    refine Rel.put hcat hd' ?_
    rw [hVj]
    exact hv.nowhere
  ·have h4:=zv8 hev hag'
   have h5:=zsR (k:=H) hst (fun x θ v hx hrdv i hi o' ho'=>by
    have hrdv':rd E ⟨fr,H⟩ θ x = some v:=by rw [← hrdv]; cases x <;> rfl
    have hr1:=zv hE hG hrel hrdv'
    have hrdS:rd E (S j) θ x = some v:=by
     rw [← hrdv']
     cases x with
     | tmp t=>exact (hag' t hx).symm
     | _=>rfl
    cases v with
    | tup vs=>cases hi
    | _ =>
     first | (cases hi; done) | (
      rw [zh.eq1 (by intro vs e; cases e)] at hr1
      have hi':=zDN hi
      obtain ⟨u,hu,hne⟩:=hr1.real hi'
      refine g.looks hd hn h1 hh ?_ ho' hu hne
      rw [hlk]
      cases x with
      | tmp t=>exact zwc (zqJ.2 hx) hrdS (zus (by intro vs e; cases e) hi')
      | const c=>exact absurd hi (by rw [zvm hrdS]; simp)
      | global gl=>exact absurd hi (by obtain ⟨_,_,_,e,_⟩:=hE.glob gl _ hrdS; cases e <;> simp [AV.has1])
      | func f=>(simp only [rd,Option.map_eq_some_iff] at hrdS; obtain ⟨_,_,e⟩:=hrdS; cases e))) h4
   have h6:jY H (sw fr (S j)) = ⟨fr,H⟩:=rfl
   rw [h6] at h5
   obtain ⟨_,u,h7,h8⟩:=zHX hE hG hrel hst h5
   refine z8.val (R:=fun u' w'=>u' = u ∧ w' = w) h7 ⟨rfl,rfl⟩ _ _ ?_
   rintro u' w' ⟨rfl,rfl⟩
   exact hK _ _ (fin c e H _ _ m F (stay h2) (Rel.put hrel hd' h8))
  ·obtain ⟨hcj,hje⟩:=g.pass hd hn h2 hh
   have hje':j = e:=by
    rcases Nat.lt_or_ge j e with h | h
    ·have:=hh.quiet j hcj h
     rw [h3] at this; cases this
    ·omega
   subst hje'
   have hfull:=g.full hh fun i h5 h6 h7=>g.before hn h3 h6 h7
   have h4:=zv8 hev hag'
   have h6:sw fr (S j) = ⟨fr,H⟩:=by unfold sw; rw [hfull]
   rw [h6] at h4
   refine zqI hE hG hrel h4 _ _ ?_
   rintro u w' ⟨m',F',hle,hrel',hv⟩
   have hchg':∀ i,i < ops.toList.length→(D i).ch = true→(add done j i = true ↔ i < j + 1):=by
    intro i hi hci
    by_cases hne:i = j
    ·subst hne
     exact ⟨fun _=>by omega,fun _=>zjw.2 (.inr rfl)⟩
    ·rw [adn hne,hh.chg i hi hci]
     constructor
     ·intro h; have:=hh.ce; omega
     ·intro h
      rcases Nat.lt_or_ge i c with h5 | h5
      ·exact h5
      ·have:=hh.quiet i h5 (by omega)
       rw [hci] at this; cases this
   have hund:∀ i,j + 1 ≤ i→i < ops.toList.length→(D i).wr = true→add done j i = false:=by
    intro i h5 h6 h7
    rw [adn (by omega)]
    cases hdi:done i with
    | false=>rfl
    | true =>
     rcases g.ok j i (by omega) h6 with h8 | h8
     ·rw [g.id,g.id] at h8
      have:=hd i h6 hdi j h8
      rw [hn.un] at this; cases this
     ·have:=(h8.1 h3).1
      rw [this] at h7; cases h7
   obtain ⟨e',n,hh'⟩:=g.open (done:=add done j) (c:=j + 1) (by omega) (.inr ⟨by omega,h3⟩) hchg' hund
   refine hK _ _ (fin (j + 1) e' _ _ _ m' F' hh' ?_)
   have hrel2:Rel P nt F0 w0 ⟨fr,(S (j + 1)).h⟩ m' F' a w':=by rw [hh1]; exact hrel'
   refine Rel.put (hrel2.holes n) hd' ?_
   refine zh.keep (h:=(sw fr st').h) (m:=m') (fun i o' ho' _=>⟨?_,rfl,rfl⟩) hv
   simp only
   rw [hh1]
   exact zju ho'
  ·
   obtain ⟨H2,hH2len,hsz,hH2out,hhol⟩:∃ H2:List Obj,H2.length = H.length ∧ (∀ i o,atN z i = some o→atN H ((S j).h.length + i) = some .hole ∧ atN H2 ((S j).h.length + i) = some o) ∧
    (∀ i,¬((S j).h.length ≤ i ∧ i < (S j).h.length + z.length)→atN H2 i = atN H i) ∧ Hol ops.toList.length S D (add done j) c e H2:=by
    cases hwr:(D j).wr with
    | true=>exact g.filled hd hn hh hwr h3 hh1
    | false =>
     rw [hwr] at h2
     have hnil:z = []:=by
      cases z with
      | nil=>rfl
      | cons x l=>cases h2
     subst hnil
     exact ⟨H,rfl,fun i o ho=>by simp [atN] at ho,fun i _=>rfl,stay hwr⟩
   obtain ⟨dst,op,ty,pos,after,guard⟩:=o
   simp only at hbld hd' hag'
   cases op with
   | build t ps =>
    simp only [zxq] at hbld
    split at hbld
    ·rename_i τ hτ
     split at hbld
     ·rename_i a0 hsel
      split at hbld
      ·rename_i vs1 hb
       simp only [Option.some.injEq,Prod.mk.injEq] at hbld
       obtain ⟨rfl,rfl,rfl⟩:=hbld
       have hτb:τ = .st a0:=by
        unfold zHv at hsel
        split at hsel
        ·obtain ⟨_,hsel⟩:=zb hsel
         cases hsel; rfl
        ·cases hsel
       subst hτb
       have hty:=hE.types t _ hτ
       obtain ⟨i,z,g1,g2,g3,g4⟩:=zv5 (hty.head (by intro a b e; cases e))
       obtain ⟨fs,f1,f2,_⟩:=hty.st
       obtain ⟨places,hpl1,hpl2⟩:=zlx (w:=w) f2
       have hstart:=hrel.start (fr':=[]) (fun t v ht=>by simp [look] at ht)
       obtain ⟨cz,k1,k2,k3,k4⟩:=zqF (st:=⟨[],[]⟩) hty.chn (zKL [] a0) (show zcB a0 z.cells.toList = some [] from g3) hstart
       rw [List.append_nil] at k1
       have hagg:∃ zc,z = .agg zc:=by
        have:isAggV z = true:=g4
        cases z <;> first | exact ⟨_,rfl⟩ | cases this
       obtain ⟨zc,rfl⟩:=hagg
       have hs:∀ i o',atN (jZ [] a0).2 i = some o'→atN H ((S j).h.length + i) = some .hole ∧ atN H2 ((S j).h.length + i) = some (o'.rn ((S j).h.length + ·)):=fun i o' ho'=>by
        have:=hsz i (o'.sh (S j).h.length) (by rw [z7,List.getElem?_map,← z7,ho']; rfl)
        exact ⟨this.1,by rw [this.2,Obj.sh_rn]⟩
       rw [List.length_map] at hH2out
       have hfill:=hrel.fill k2 hH2len hs hH2out
       have hfs:zX P H2 (m.fill (S j).h.length (jZ [] a0).2.length .emp) F a0 ((jZ [] a0).1.map (AV.sh1 (S j).h.length)) cz:=by
        have:=zX.rn (ρ:=((S j).h.length + ·)) (h2:=H2) (m2:=m.fill (S j).h.length (jZ [] a0).2.length .emp) (fun v _ i _ o ho=>⟨(hs i o ho).2,MM.fill_f2 _ _ (je ho),MM.fill_d2 _ _ (je ho)⟩) k4
        rwa [List.map_congr_left fun x _=>(AV.sh1_rn (S j).h.length x).symm] at this
       have hrdS:∀ θ x,x ∈ (Op.build t ps).operands→rd E (S j) θ x = rd E ⟨fr,H2⟩ θ x:=fun θ x hx=>by
        cases x with
        | tmp t=>exact (hag' t hx).symm
        | _=>rfl
       have hmapS:(ps.toList.map fun p=>(p.1,rd E (S j) (zdX a0 p.1) p.2)) = ps.toList.map fun p=>(p.1,rd E ⟨fr,H2⟩ (zdX a0 p.1) p.2):=by
        refine List.map_congr_left fun p hp=>?_
        rw [hrdS _ _ (by simp only [Op.operands]; exact List.mem_toArray.2 (List.mem_map.2 ⟨p,hp,rfl⟩))]
       rw [hmapS] at hb
       have hrdv:∀ (p:Nat × Operand) v,rd E ⟨fr,H2⟩ (zdX a0 p.1) p.2 = some v→zh P H2 (m.fill (S j).h.length (jZ [] a0).2.length .emp) F v (a.eval p.2):=fun p v hv=>zv hE hG hfill hv
       have hbf:=zsU (fr:=fr) (h2:=H2) hb (fun i jj hm o ho=>by
        obtain ⟨p,hp,he⟩:=List.mem_map.1 hm
        simp only [Prod.mk.injEq] at he
        have hrdH:rd E ⟨fr,H⟩ (zdX a0 p.1) p.2 = some (.ow jj):=by rw [← he.2]; cases p.2 <;> rfl
        have hv1:=zv hE hG hrel hrdH
        obtain ⟨u,hu,hne⟩:=(show zE P H m F (.ow jj) _ from hv1).real (i:=jj) (Nat.beq_refl _)
        have hH:=g.looks hd hn h1 hh (by
         rw [hlk]
         obtain ⟨pi,px⟩:=p
         cases px with
         | tmp tt =>
          have ht:Operand.tmp tt ∈ (Op.build t ps).operands:=List.mem_toArray.2 (List.mem_map.2 ⟨_,hp,rfl⟩)
          exact zwc (zqJ.2 ht) (by rw [← hag' tt ht]; exact hrdH) (by simp [AV.ids,AV.ids1])
         | const c=>exact absurd (Nat.beq_refl jj) (by have:=zvm (i:=jj) hrdH; simp [AV.has1] at this)
         | global gl=>obtain ⟨_,_,_,e,_⟩:=hE.glob gl _ hrdH; cases e
         | func f=>simp only [rd,Option.map_eq_some_iff] at hrdH; obtain ⟨_,_,e⟩:=hrdH; cases e) ho hu hne
        by_cases hx:(S j).h.length ≤ jj ∧ jj < (S j).h.length + (jZ [] a0).2.length
        ·have:=je ho
         omega
        ·rw [hH2out jj hx]; exact hH)
       have hsome:=zkk hbf
       have hps:=zl0 hE hG hfill (θ:=fun i=>zdX a0 i) (ps:=ps.toList) fun p hp=>hsome (p.1,rd E ⟨fr,H2⟩ (zdX a0 p.1) p.2) (List.mem_map.2 ⟨p,hp,rfl⟩)
       obtain ⟨m',F',cells',r1,r2,r3,r4⟩:=zsL (place:=(places[·]?)) hpl2 (cells:=zc) hbf hfill hps (by rw [show zc.toList = cz from k1]; exact hfs)
       have hmap:(ps.map fun x=>(x.1,a.eval x.2)).toList = ps.toList.map fun p=>(p.1,a.eval p.2):=by simp
       refine z8.val (R:=fun u' w'=>u' = .agg cells' ∧ w' = w) (u:=.agg cells') (w':=w) ?_ ⟨rfl,rfl⟩ _ _ ?_
       ·simp only [execOp]
        refine zK ?_
        unfold Instr.build
        simp only [Sem.run_bind,qC g1 g2,Result.andThen_ok,zj f1,hpl1,hmap,Value.cells,r3,Sem.run_pure]
       ·rintro u' w' ⟨rfl,rfl⟩
        refine hK _ _ (fin c e H2 _ _ m' F' hhol (Rel.put r2 hd' ?_))
        rw [hVj]
        exact ⟨cells',rfl,r4⟩
      ·cases hbld
     ·cases hbld
    ·cases hbld
   | _=>cases hbld
  ·
   have hsw:zhx E o.op (sw fr (S j)) = some (Hd,vs):=by
    rw [← hsh]
    unfold zhx
    split
    ·rename_i cl hop
     have hm:cl.args.toList.map (rd E (sw fr (S j)) none) = cl.args.toList.map (rd E (S j) none):=List.map_congr_left fun x hx=>by
      refine zC3 fun t ht=>hag' t ?_
      rw [hop]
      subst ht
      simp only [Op.operands,Call.operands]
      cases cl.callee <;> simp [Array.mem_def.2 hx]
     rw [hm]
    ·rfl
   have h4:=zv8 hev hag'
   have hsame:∀ i o',i ∈ zgS (S j).h 2 (zay (S j) o)→atN H i = some o'→o' ≠ .hole→atN H i = atN (S j).h i:=by
    intro i o' hi ho' hne
    have:=List.all_eq_true.1 hcl i hi
    cases hat:atN (S j).h i with
    | none=>rw [hat] at this; cases this
    | some o2=>exact g.looks hd hn h1 hh (by rw [hlk]; exact hi) hat ho' hne
   have hreal:=zxY (h:=(S j).h) (H:=H) (n:=2) (L0:=zay (S j) o) (fun i v f hi x hx=>(hrel.obs i _ hi).real hx) hsame (fun i hi=>hi) (fun i hi=>by
    unfold zay at hi
    obtain ⟨t,ht,hi⟩:=List.mem_flatMap.1 hi
    cases hl:look (S j).fr t with
    | none=>rw [hl] at hi; cases hi
    | some v =>
     rw [hl] at hi
     have hr1:=hrel.fr t v (by simp only; rw [hag t ht]; exact hl)
     cases v with
     | tup ws=>cases hi
     | _ =>
      rw [zh.eq1 (by intro vs e; cases e)] at hr1
      exact hr1.real (zut hi))
   obtain ⟨e1,e2⟩:=zsT (s:=sw fr (S j)) (h2:=H) hsw hone (zBr (h:=(S j).h) (n:=2) hids) hcl h4 (fun i hi=>by
    obtain ⟨o',ho',hne⟩:=hreal i (zbj.1 hi)
    exact hsame i o' (zbj.1 hi) ho' hne)
   refine zqI hE hG hrel e2 _ _ ?_
   rintro u w' ⟨m',F',hle,hrel',hv⟩
   exact hK _ _ (fin c e H _ _ m' F' (stay h2) (Rel.put hrel' hd' hv))
theorem Reg.bef (g:Reg E ops.toList bs S V D) (hd:∀ j,j < ops.toList.length→done j = true→∀ i,Nat.testBit ((atN bs j).getD 0) i = true→done i = true) {j:Nat} {o:Oper} (hj:ops.toList[j]? = some o)
 (ha:∀ e ∈ o.after.toList,Region.binds .any e = true→done e.on = true):∀ i,Nat.testBit ((atN bs j).getD 0) i = true→done i = true:=by
 intro i hi
 obtain ⟨acc,h1,h2⟩:=zH0 ops.toList [] j o hj
 rw [List.length_nil,Nat.zero_add,← g.bits] at h1
 rw [h1] at hi
 obtain ⟨e,he,hb,h3⟩:=zJK hi
 have hde:=ha e he hb
 rcases h3 with rfl | ⟨b,h3,h4⟩
 ·exact hde
 ·have h5:=h2 _ _ h3
  rw [← g.bits] at h5
  refine hd e.on ?_ hde i (by rw [h5]; exact h4)
  have:=(zgv g.data hj).2.2 e he hb
  have:=(List.getElem?_eq_some_iff.1 hj).1
  omega
theorem Reg.any (hE:EnvOk P G E) (hG:G.le F0) (hnt:E.nt = nt) (g:Reg E ops.toList bs S V D)
 (hQ:∀ a w,Inv P nt F0 w0 (S ops.toList.length) a w→Q .normal a w) :
 ∀ (fuel:Nat) (listed:Array Bool) (a:Act) (w:World),listed.size = ops.size→zj1 (fun i=>listed.getD i false) ops.size ≤ fuel→Mid P nt F0 w0 ops.toList bs S V D (fun i=>listed.getD i false) a w→wpAny P .any ops Q fuel listed a w:=by
 have hlen:ops.toList.length = ops.size:=rfl
 have hfinal:∀ (listed:Array Bool) (a:Act) (w:World),(∀ i,i < ops.size→listed.getD i false = true)→Mid P nt F0 w0 ops.toList bs S V D (fun i=>listed.getD i false) a w→Q .normal a w:=by
  intro listed a w hall ⟨hd,c,e,H,hh,fr,m,F,hrel,hV,hO⟩
  apply hQ
  have he:e = ops.toList.length:=by
   rcases hh.lst with h0 | h0
   ·exact h0
   ·rcases Nat.lt_or_ge e ops.toList.length with h1 | h1
    ·have:=(hh.chg e h1 h0).1 (hall e h1)
     have:=hh.ce
     omega
    ·have:=hh.en; omega
  have hfull:=g.full hh fun i h1 h2 h3=>hall i (by rw [he] at h2; exact h2)
  have hh:(S ops.toList.length).h = H:=by rw [hfull,he]
  obtain ⟨hs1,hs2⟩:=g.slots (j:=ops.toList.length) (Nat.le_refl _)
  refine ⟨m,F,?_⟩
  have:=hrel.frames (fr:=(S ops.toList.length).fr) ?_
  ·simp only at this
   rw [← hh] at this
   exact this
  ·intro t v ht
   by_cases hex:∃ (i:Nat) (o':Oper),ops.toList[i]? = some o' ∧ o'.dst = some t
   ·obtain ⟨i,o',hi,hdt⟩:=hex
    have hil:=(List.getElem?_eq_some_iff.1 hi).1
    rw [hs1 i o' t hi hil hdt] at ht
    simp only
    rw [hV i o' t hi (hall i hil) hdt]; exact ht
   ·have hno:∀ (i:Nat) (o':Oper),ops.toList[i]? = some o'→o'.dst ≠ some t:=fun i o' hi hdt=>hex ⟨i,o',hi,hdt⟩
    rw [hs2 t fun i o' hi _=>hno i o' hi] at ht
    simp only
    rw [hO t fun i o' hi _=>hno i o' hi]; exact ht
 have hready:∀ (listed:Array Bool) ,listed.size = ops.size→(∀ j,j < ops.toList.length→(listed.getD j false) = true→∀ i,Nat.testBit ((atN bs j).getD 0) i = true→listed.getD i false = true)→∀ j,j < ops.size→listed.getD j false = false→Region.ready .any ops listed ≠ []:=by
  intro listed hsz hd j
  induction j using Nat.strongRecOn with
  | _ j ih =>
   intro hj hu hr
   have hget:ops.toList[j]? = some ops.toList[j]:=List.getElem?_eq_getElem (show j < ops.toList.length from hj)
   have hback:=(zgv g.data hget).2.2
   by_cases hall:∀ e ∈ ops.toList[j].after.toList,Region.binds .any e = true→listed.getD e.on false = true
   ·have hmem:j ∈ Region.ready .any ops listed:=by
     rw [mem_ready]
     refine ⟨?_,ops.toList[j],by rw [← Array.getElem?_toList]; exact hget,fun e he hb=>hall e (by simpa using he) hb⟩
     have:j < listed.size:=by omega
     simpa [Array.getD,this] using hu
    rw [hr] at hmem
    cases hmem
   ·obtain ⟨e,hne⟩:=Classical.not_forall.1 hall
    simp only [Classical.not_imp] at hne
    obtain ⟨he,hb,hf⟩:=hne
    have hlt:=hback e he hb
    exact ih e.on hlt (by omega) (by simpa using hf) hr
 intro fuel
 induction fuel with
 | zero =>
  intro listed a w hsz hleft hm
  have hall:=zBo (n:=ops.size) (Nat.le_zero.1 hleft)
  refine ⟨?_,hfinal listed a w hall hm⟩
  cases hr:Region.ready .any ops listed with
  | nil=>rfl
  | cons x l =>
   have hx:x ∈ Region.ready .any ops listed:=by rw [hr]; simp
   obtain ⟨h1,o,h2,_⟩:=mem_ready.1 hx
   have hlt:=(Array.getElem?_eq_some_iff.1 h2).1
   have:=hall x hlt
   have hl:x < listed.size:=by omega
   simp [Array.getD,hl] at this h1
   rw [h1] at this; cases this
 | succ fuel ih =>
  intro listed a w hsz hleft hm
  constructor
  ·intro hr
   refine hfinal listed a w (fun i hi=>?_) hm
   cases hdi:listed.getD i false with
   | true=>rfl
   | false=>exact absurd hr (hready listed hsz hm.down i hi hdi)
  ·intro j hj
   obtain ⟨h1,o,h2,h3⟩:=mem_ready.1 hj
   have hlt:=(Array.getElem?_eq_some_iff.1 h2).1
   have hl:j < listed.size:=by omega
   have hu:listed.getD j false = false:=by simpa [Array.getD,hl] using h1
   have hadd:add (fun i=>listed.getD i false) j = fun i=>(listed.setIfInBounds j true).getD i false:=by
    funext i
    unfold add
    by_cases e:i = j
    ·subst e; simp [hl]
    ·rw [if_neg e,getD_set_ne false (Ne.symm e)]
   refine g.go hE hG hnt hm ⟨hlt,hu,g.bef hm.down (by rw [Array.getElem?_toList]; exact h2) fun e he hb=>h3 e (by simpa using he) hb⟩ fun a' w' hm'=>?_
   rw [hadd] at hm'
   refine ih _ _ _ (by simpa using hsz) ?_ hm'
   have:=zBp (f:=fun i=>listed.getD i false) (g:=fun i=>(listed.setIfInBounds j true).getD i false) (n:=ops.size) (j:=j) hu (by simp [hl]) (fun i hi=>getD_set_ne false (Ne.symm hi))
   rw [if_pos hlt] at this
   omega
theorem zLM {k:St→Option R} {r:R} {st:St} {a:Act} {w:World} {id:Nat} (hm:P.follows .mixedOrders = true) (hE:EnvOk P G E) (hG:G.le F0) (hnt:E.nt = nt) (hdata:zxp (zjY ops.toList []) ops.toList = true)
 (hQ:∀ st a w,Inv P nt F0 w0 st a w→k st = some r→Q .normal a w) (hi:Inv P nt F0 w0 st a w) (he:evD E ops.toList (zjY ops.toList []) ops.toList 0 [] st k = some r):(Code.region id ops true).wp P Q a w:=by
 refine wp_region_any hm ?_
 obtain ⟨S,V,D,h1,h2,h3,h4,h5,h6⟩:=zBn ops.toList 0 [] st he
 have g:Reg E ops.toList (zjY ops.toList []) S V D:=⟨hdata,rfl,h3,fun i o hi=>by have:=h4 i o hi; simpa using this,fun i i' hii hl=>by have:=h6 i i' hii hl; simpa using this⟩
 obtain ⟨m,F,hrel⟩:=hi
 rw [Nat.zero_add] at h2
 refine g.any hE hG hnt (fun a w hi=>hQ _ a w hi h2) ops.size _ a _ (by simp) ?_ ?_
 ·rw [zBq]
  ·exact Nat.le_refl _
  ·intro i hi; simp [hi]
 ·obtain ⟨e,n,hh⟩:=g.open (done:=fun i=>(Array.replicate ops.size false).getD i false) (c:=0) (Nat.zero_le _) (.inl rfl) (fun i hi _=>by
   have:i < ops.size:=hi
   simp [this]) (fun i _ hi _=>by
   have:i < ops.size:=hi
   simp [this])
  refine ⟨fun j hj hdj=>?_,0,e,_,hh,(S 0).fr,m,F,?_,fun i o d hi hdi=>?_,fun t _=>rfl⟩
  ·have:j < ops.size:=hj
   simp [this] at hdj
  ·rw [h1]; exact hrel.drew.holes n
  ·have:i < ops.size:=(List.getElem?_eq_some_iff.1 hi).1
   simp [this] at hdi
end
end Go.Ev
end
section
namespace Go.Ev
abbrev pe (e:Ex) (st:St):Option (Ex × St):=some (e,st)
section
variable {R:Type} {E:Env}
theorem zsV (hng:E.ng = true) {op:Op} {ty:TypeId} {st:St} {k:AV→St→Option R}:zxo E op ty st k = (qJ false E op ty st pk).bind fun p=>k p.1 p.2:=by
 unfold zxo
 rw [hng,cond_true,jw]
theorem zkm (hng:E.ng = true) {all:List Oper}:∀ (l:List Oper) (st:St) (k:St→Option R),zhU E all l st k = (zhU E all l st some).bind k
 | [],_,_=>rfl
 | o :: l,st,k=>by
  simp only [zhU]
  cases zqq E o with
  | false=>rfl
  | true =>
   simp only [cond_true]
   cases zbh all st.fr o with
   | none=>rfl
   | some b =>
    cases b with
    | false=>exact zkm hng l _ k
    | true =>
     simp only [cond_true,zsV hng,Option.bind_assoc]
     congr 1
     funext p
     exact zkm hng l _ k
theorem zhB {all:List Oper} {bs:List Nat}:∀ (l:List Oper) (j:Nat) (seen:List Did) (st:St) (k:St→Option R),evD E all bs l j seen st k = (evD E all bs l j seen st some).bind k
 | [],_,_,_,_=>rfl
 | o :: l,j,seen,st,k=>by
  simp only [evD]
  cases zqq E o with
  | false=>rfl
  | true =>
   simp only [cond_true]
   cases zbh all st.fr o with
   | none=>rfl
   | some b =>
    cases b with
    | false=>exact zhB l _ _ _ k
    | true =>
     simp only [cond_true]
     obtain ⟨fr',pu,rs⟩:=zeX st (zde o)
     simp only
     cases pu with
     | true =>
      simp only [cond_true]
      rw [jw (R:=R),jw (R:=St),Option.bind_assoc]
      congr 1
      funext p
      rw [zI,← zhB l]
      rfl
     | false =>
      simp only [cond_false]
      cases zxq E o.op st with
      | some r =>
       obtain ⟨a,vs,z⟩:=r
       simp only
       rw [zI,← zhB l]
       rfl
      | none =>
       simp only
       cases zhx E o.op st with
       | some q =>
        simp only
        rw [zI,zI,jw (R:=R),jw (R:=St),Option.bind_assoc]
        congr 3
        funext p
        exact zhB l _ _ _ k
       | none =>
        simp only
        cases yk o.op with
        | true =>
         simp only [cond_true]
         rw [zI,jw (R:=R),jw (R:=St),Option.bind_assoc]
         congr 2
         funext p
         exact zhB l _ _ _ k
        | false =>
         simp only [cond_false]
         rw [zI,jw (R:=R),jw (R:=St),Option.bind_assoc]
         congr 2
         funext p
         exact zhB l _ _ _ k
theorem zBs {j7:Nat} {B:(S:Type)→(Ex→St→Option S)→St→Option S} (hB:∀ (S:Type) (k:Ex→St→Option S) (st:St),B S k st = (B (Ex × St) pe st).bind fun p=>k p.1 p.2) (k:Ex→St→Option R) :
 ∀ (n:Nat) (st:St),zlv E j7 (B R) k n st = (zlv E j7 (B (Ex × St)) pe n st).bind fun p=>k p.1 p.2
 | 0,_=>rfl
 | n + 1,st=>by
  simp only [zlv]
  refine (hB R _ st).trans ?_
  refine Eq.trans ?_ (congrArg (fun o=>Option.bind o fun p=>k p.1 p.2) (hB (Ex × St) _ st)).symm
  simp only [Option.bind_assoc]
  congr 1
  funext p
  obtain ⟨e,st'⟩:=p
  cases e with
  | normal=>exact zBs hB k n _
  | _=>rfl
theorem zo9 (hng:E.ng = true) (hjn:E.jn = []) {K fin:Nat}:∀ (c:Code) (S:Type) (lx:Nat→Nat) (ln:Nat) (k:Ex→St→Option S) (st:St),evC E K fin c lx ln k st = (evC E K fin c lx ln pe st).bind fun p=>k p.1 p.2:=by
 have hjr:∀ {S:Type} {id ln:Nat} {k:St→Option S},jr E K id ln k = k:=by
  intro S id ln k
  unfold jr
  rw [hjn]; rfl
 intro c
 induction c with
 | skip=>intro S lx ln k st; rfl
 | label l=>intro S lx ln k st; rfl
 | exit id=>intro S lx ln k st; rfl
 | ret=>intro S lx ln k st; rfl
 | region id ops d =>
  intro S lx ln k st
  simp only [evC,hjr]
  cases d with
  | true =>
   simp only [cond_true]
   rw [zI,zhB (R:=S),zhB (R:=Ex × St),Option.bind_assoc]
   rfl
  | false =>
   simp only [cond_false]
   rw [zkm (R:=S) hng,zkm (R:=Ex × St) hng,Option.bind_assoc]
   rfl
 | seq x y ihx ihy =>
  intro S lx ln k st
  simp only [evC]
  refine (ihx S _ _ _ st).trans ?_
  refine Eq.trans ?_ (congrArg (fun o=>Option.bind o fun p=>k p.1 p.2) (ihx (Ex × St) _ _ _ st)).symm
  simp only [Option.bind_assoc]
  congr 1
  funext p
  obtain ⟨e,st'⟩:=p
  cases e with
  | normal=>exact ihy _ _ _ _ _
  | _=>rfl
 | cond c x y ihx ihy =>
  intro S lx ln k st
  simp only [evC]
  split
  ·rw [zI,← ihx,← ihy]
  ·rfl
 | block id b ih =>
  intro S lx ln k st
  simp only [evC]
  refine (ih S _ _ _ st).trans ?_
  refine Eq.trans ?_ (congrArg (fun o=>Option.bind o fun p=>k p.1 p.2) (ih (Ex × St) _ _ _ st)).symm
  simp only [Option.bind_assoc]
  congr 1
  funext p
  obtain ⟨e,st'⟩:=p
  cases e with
  | exit i=>simp only; cases Nat.beq i id <;> rfl
  | _=>rfl
 | loop b ih =>
  intro S lx ln k st
  simp only [evC]
  exact zBs (B:=fun S=>evC E K fin b lx (lv fin (.loop b) lx ln)) (fun S k st=>ih S _ _ k st) k K _
 | scope b ih=>intro S lx ln k st; simp only [evC]; exact ih _ _ _ _ _
 | _=>intro S lx ln k st; simp only [evC]; rfl
noncomputable def zDO (E:Env) (f:Func) (R:Type) (k:AV→List Obj→Option R) (e:Ex) (st:St):Option R :=
 match e with
 | .exit _=>none
 | _=>cond ((f.results.toList.map (zc7 E st)).all Option.isSome && ((f.results.toList.map (zc7 E st)).filterMap id).all AV.one) (k (unT ((f.results.toList.map (zc7 E st)).filterMap id)) st.h) none
def slots:List AV→Nat→List (Nat × AV)
 | [],_=>[]
 | v :: vs,i=>(i,v) :: slots vs (i + 1)
abbrev inE (E:Env) (f:Func):Env:={ E with nt:=f.ntmps,ng:=true,jn:=[] }
noncomputable def zqM (E:Env) (f:Func) (R:Type) (args:List AV) (h:List Obj) (k:AV→List Obj→Option R):Option R :=
 match f.body with
 | some c=>evC (inE E f) 9 (zfL f.results.toList) c (fun _=>0) (zfL f.results.toList) (zDO (inE E f) f R k) ⟨slots args 0,h⟩
 | none=>none
theorem zKR (f:Func) (args:List AV) (h:List Obj) (k:AV→List Obj→Option R):zqM E f R args h k = (zqM E f (AV × List Obj) args h fun v h=>some (v,h)).bind fun p=>k p.1 p.2:=by
 unfold zqM
 cases f.body with
 | none=>rfl
 | some c =>
  simp only
  rw [zo9 rfl rfl c R,zo9 rfl rfl c (AV × List Obj),Option.bind_assoc]
  congr 1
  funext p
  obtain ⟨e,st⟩:=p
  cases e with
  | exit _=>rfl
  | _=>simp only [zDO,zI,Option.bind_some,Option.bind_none]
def zHe:Value→Bool
 | .int _ _ | .bool _ | .string _ | .pointer none=>true
 | _=>false
def zC4:Operand→Bool
 | .tmp _=>true
 | .const c=>zHe c
 | _=>false
def zsW (o:Oper):Bool:=(match o.op with
 | .move _ | .assign _ | .nilCheck _ | .fieldAddr .. | .load .. | .indexAddr .. | .binOp ..=>true
 | _=>false) && (o.guard.isNone && o.op.operands.toList.all zC4)
def zhY:Code→Bool
 | .region _ ops d=>!d && ops.toList.all zsW
 | .seq a b=>zhY a && zhY b
 | .cond _ a b=>zhY a && zhY b
 | .skip | .ret=>true
 | _=>false
def zDP (f:Func):Bool:=(match f.body with | some c=>zhY c | none=>false) && f.results.toList.all fun r=>match r with | .tmp _=>true | .cell _ _=>false
def FrL (L:List Nat) (fr:List (Nat × AV)):Prop:=∀ t v,look fr t = some v→v.one = true ∧ ∀ i,v.has i = true→jE i L = true
def AvL (L:List Nat) (v:AV):Prop:=v.one = true ∧ ∀ i,v.has i = true→jE i L = true
theorem AvL.dat {L:List Nat} {τ:Ty} {x:τ.I}:AvL L (.dat τ x):=⟨rfl,fun i h=>by cases h⟩
theorem AvL.of1 {L:List Nat} {v:AV} (h:v.one = true) (hs:∀ a vs,v ≠ .fld a vs) (h1:∀ i,v.has1 i = true→jE i L = true):AvL L v :=
 ⟨h,fun i hi=>h1 i (by rwa [AV.has_eq hs (by rintro vs rfl; cases h)] at hi)⟩
theorem zuu {L:List Nat} {u v:AV} {st st':St} (h:kAV u st pk = some (v,st')) (hu:AvL L u):AvL L v:=by
 obtain ⟨rfl,_⟩:=jG h; exact hu
theorem zLN {h:List Obj} {L:List Nat} (hc:zlW h L = true) {i:Nat} {v:AV} {f:Bool} (hi:jE i L = true) (ho:atN h i = some (.bx v f)):v.one = true ∧ ∀ j,j ∈ v.ids→jE j L = true:=by
 have:=List.all_eq_true.1 hc i (zbj.1 hi)
 rw [ho] at this
 simp only [Bool.and_eq_true] at this
 exact ⟨this.1,fun j hj=>List.all_eq_true.1 this.2 j hj⟩
theorem AvL.bx {h:List Obj} {L:List Nat} (hc:zlW h L = true) {i:Nat} {v:AV} {f:Bool} (hi:jE i L = true) (ho:atN h i = some (.bx v f)):AvL L v:=by
 obtain ⟨h1,h2⟩:=zLN hc hi ho
 exact ⟨h1,fun j hj=>h2 j (zus (by rintro vs rfl; cases h1) hj)⟩
theorem AvL.fld1 {L:List Nat} {a:Ty} {vs:List AV} {i:Nat} {u:AV} (h:AvL L (.fld a vs)) (hu:atN vs i = some u) (j:Nat) (hj:u.has1 j = true):jE j L = true:=by
 refine h.2 j (List.any_eq_true.2 ⟨u,?_,hj⟩)
 rw [z7] at hu
 exact List.mem_of_getElem? hu
theorem zLO {id i:Nat} {j:Nat}:∀ {a:Ty} {y:a.I} {f:Nat},(dsF id i a y f).any (AV.has1 j) = true→id = j:=by
 intro a
 induction a with
 | pair t b _ ih =>
  intro y f h
  cases t with
  | sl σ =>
   simp only [dsF,List.any_cons,Bool.or_eq_true] at h
   rcases h with h | h
   ·exact Nat.eq_of_beq_eq_true h
   ·exact ih h
  | _ =>
   simp only [dsF,List.any_cons,AV.has1,Bool.false_or] at h
   exact ih h
 | _=>intro y f h; simp [dsF] at h
theorem zKS {L:List Nat} {t:TypeId} {x v:AV} {st st':St} (hc:zlW st.h L = true) (hx:AvL L x) (he:jU E t x st pk = some (v,st')):AvL L v:=by
 unfold jU at he
 split at he
 ·obtain ⟨_,_,he⟩:=Option.bind_eq_some_iff.1 he
  obtain ⟨_,he⟩:=zb he
  exact zuu he .dat
 ·rename_i id p
  have hid:jE id L = true:=hx.2 id (Nat.beq_refl _)
  split at he
  ·split at he
   ·obtain ⟨_,he⟩:=zb he
    exact zuu he .dat
   ·cases he
  ·rename_i b vs f ho
   have hb:=AvL.bx hc hid ho
   split at he
   ·obtain ⟨_,he⟩:=zb he
    cases he; exact hb
   ·split at he
    ·split at he
     ·obtain ⟨_,he⟩:=zb he
      exact zuu he .dat
     ·cases he
    ·rename_i jd hv
     split at he
     ·obtain ⟨_,he⟩:=zb he
      cases he
      exact .of1 rfl (by intro a vs e; cases e) (hb.fld1 hv)
     ·cases he
    ·rename_i jd ld qd hv
     split at he
     ·obtain ⟨_,he⟩:=zb he
      cases he
      exact .of1 rfl (by intro a vs e; cases e) (hb.fld1 hv)
     ·cases he
    ·rename_i fc lc hv
     split at he
     ·have key:∀ i,(AV.clo fc lc).has1 i = true→jE i L = true:=hb.fld1 hv
      unfold zjX at he
      split at he
      ·cases he; exact .of1 rfl (by intro a vs e; cases e) key
      ·split at he
       ·cases he
        refine ⟨rfl,fun i hi=>key i ?_⟩
        simpa [AV.has] using hi
       ·cases he
      ·cases he
     ·cases he
    ·cases he
  ·rename_i u f _ _ ho
   split at he
   ·obtain ⟨_,he⟩:=zb he
    cases he
    exact AvL.bx hc hid ho
   ·cases he
  ·cases he
 ·rename_i id i p
  have hid:jE id L = true:=hx.2 id (Nat.beq_refl _)
  split at he
  ·split at he
   ·obtain ⟨_,he⟩:=zb he
    exact zuu he .dat
   ·cases he
  ·split at he
   ·rename_i σ y _
    obtain ⟨_,he⟩:=zb he
    cases hdl:σ.dl with
    | false=>rw [hdl] at he; exact zuu he .dat
    | true =>
     rw [hdl] at he
     simp only [cond_true] at he
     revert he
     generalize decide (_ ≤ i) = c1
     intro he
     cases c1 with
     | true =>
      simp only [cond_true] at he
      obtain ⟨_,he⟩:=qs he
      cases he; exact .dat
     | false =>
      simp only [cond_false] at he
      split at he
      ·cases he
       exact .of1 rfl (by intro a vs e; cases e) fun j hj=>by rw [← Nat.eq_of_beq_eq_true hj]; exact hid
      ·cases he
       refine ⟨rfl,fun j hj=>?_⟩
       rw [← zLO hj]; exact hid
      ·cases he
   ·cases he
  ·cases he
 ·split at he
  ·split at he
   ·split at he
    ·obtain ⟨_,he⟩:=zb he
     exact zuu he .dat
    ·cases he
   ·cases he
  ·cases he
 ·cases he
theorem AvL.same {L:List Nat} {x v:AV} (hx:AvL L x) (hv:(∃ τ y,v = .dat τ y) ∨ (v.one = true ∧ (∀ a vs,v ≠ .fld a vs) ∧ ∀ i,v.has1 i = true→x.has i = true)):AvL L v:=by
 rcases hv with ⟨τ,y,rfl⟩ | ⟨h1,h2,h3⟩
 ·exact .dat
 ·exact .of1 h1 h2 fun i hi=>hx.2 i (h3 i hi)
theorem zBU {L:List Nat} {t:TypeId} {f:Nat} {x v:AV} {st st':St} (hx:AvL L x) (he:qB E t x f st pk = some (v,st')):AvL L v:=by
 refine hx.same ?_
 unfold qB at he
 (repeat' split at he) <;> first
  | (cases he; done)
  | (obtain ⟨_,he⟩:=zb he; (repeat' split at he) <;> first | (cases he; done) | (cases he; exact .inr ⟨rfl,(by intro a vs e; cases e),fun i h=>h⟩))
  | (obtain ⟨_,_,he⟩:=Option.bind_eq_some_iff.1 he; obtain ⟨_,he⟩:=zb he; (repeat' split at he) <;> first | (cases he; done) | (cases he; exact .inl ⟨_,_,rfl⟩))
theorem zBV {L:List Nat} {t:TypeId} {x i v:AV} {st st':St} (hx:AvL L x) (he:qA E t x i st pk = some (v,st')):AvL L v:=by
 refine hx.same ?_
 unfold qA at he
 (repeat' split at he) <;> first
  | (cases he; done)
  | (obtain ⟨_,he⟩:=zb he; obtain ⟨_,_,_,he⟩:=jH he; cases he; first | exact .inl ⟨_,_,rfl⟩ | exact .inr ⟨rfl,(by intro a vs e; cases e),fun i h=>h⟩)
  | (obtain ⟨_,_,_,he⟩:=jH he; cases he; exact .inr ⟨rfl,(by intro a vs e; cases e),fun i h=>h⟩)
  | (obtain ⟨_,_,he⟩:=Option.bind_eq_some_iff.1 he; obtain ⟨_,he⟩:=zb he; obtain ⟨_,_,_,he⟩:=jH he; cases he; exact .inl ⟨_,_,rfl⟩)
theorem zH3 {nil:Bool} {op:BinOp} {t:TypeId} {x y v:AV} {st st':St} (h:zb4 nil E op t x y st pk = some (v,st')):∃ τ z,v = .dat τ z:=by
 have hB:∀ {b:Bool} {s:St},kB b s pk = some (v,st')→∃ τ z,v = .dat τ z:=fun h=>⟨_,_,(yt h).1⟩
 unfold zb4 at h
 cases nil with
 | true =>
  simp only [cond_true] at h
  unfold zC0 at h
  split at h
  ·obtain ⟨_,h⟩:=zb h
   obtain ⟨_,h⟩:=qs h
   split at h <;> first | exact hB h | cases h
  ·cases h
 | false =>
  simp only [cond_false] at h
  unfold zqn at h
  (repeat' split at h) <;> first
   | (cases h; done)
   | exact hB h
   | (obtain ⟨_,h⟩:=qs h; cases h; exact ⟨_,_,rfl⟩)
   | (obtain ⟨_,h⟩:=zb h; (repeat' split at h) <;> first | (cases h; done) | exact hB h | (cases h; exact ⟨_,_,rfl⟩) | (obtain ⟨_,h⟩:=qs h; cases h; exact ⟨_,_,rfl⟩))
theorem zsX {L:List Nat} {st:St} {θ:Option Ty} {x:Operand} {v:AV} (hfr:FrL L st.fr) (hx:zC4 x = true) (h:rd E st θ x = some v):AvL L v:=by
 cases x with
 | tmp t=>exact hfr t v h
 | const c =>
  simp only [rd] at h
  unfold zhw at h
  cases c with
  | pointer p=>cases p with
   | none=>(repeat' split at h) <;> first | contradiction | (cases h; exact .dat) | cases h
   | some _=>cases hx
  | int k n=>cases h; exact .dat
  | bool b=>cases h; exact .dat
  | string s=>cases h; exact .dat
  | _=>cases hx
 | _=>cases hx
theorem zJL {θ:Option Ty} {c:Value} {v:AV} (hc:zHe c = true) (h:zhw θ c = some v):∃ τ x,v = .dat τ x:=by
 unfold zhw at h
 cases c with
 | pointer p=>cases p with
  | none=>(repeat' split at h) <;> first | contradiction | (cases h; exact ⟨_,_,rfl⟩) | cases h
  | some _=>cases hc
 | int k n=>cases h; exact ⟨_,_,rfl⟩
 | bool b=>cases h; exact ⟨_,_,rfl⟩
 | string s=>cases h; exact ⟨_,_,rfl⟩
 | _=>cases hc
theorem zxZ {L:List Nat} {x:Operand} {ty:TypeId} {st st':St} {v:AV} {h2:List Obj} (hx:zC4 x = true) (hfr:FrL L st.fr) (he:zaB E x ty st pk = some (v,st')) :
 st' = st ∧ zaB E x ty ⟨st.fr,h2⟩ pk = some (v,⟨st.fr,h2⟩) ∧ AvL L v:=by
 cases x with
 | tmp t =>
  simp only [zaB] at he ⊢
  have hrd:rd E ⟨st.fr,h2⟩ (qm E.types ty) (.tmp t) = rd E st (qm E.types ty) (.tmp t):=rfl
  rw [hrd]
  cases hr:rd E st (qm E.types ty) (.tmp t) with
  | none=>rw [hr] at he; cases he
  | some u=>rw [hr] at he; cases he; exact ⟨rfl,rfl,zsX (E:=E) hfr hx hr⟩
 | const c =>
  simp only [zaB] at he ⊢
  have hrd:rd E ⟨st.fr,h2⟩ (qm E.types ty) (.const c) = rd E st (qm E.types ty) (.const c):=rfl
  rw [hrd]
  cases hr:rd E st (qm E.types ty) (.const c) with
  | none=>rw [hr] at he; cases he
  | some u =>
   rw [hr] at he
   obtain ⟨τ,z,rfl⟩:=zJL hx hr
   cases he
   exact ⟨rfl,rfl,.dat⟩
 | _=>cases hx
theorem zKT {o:Oper} {L:List Nat} {st st':St} {h2:List Obj} {v:AV} (hs:zsW o = true) (hfr:FrL L st.fr) (hc:zlW st.h L = true) (hag:∀ i,jE i L = true→atN h2 i = atN st.h i) (he:qJ false E o.op o.type st pk = some (v,st')) :
 st' = st ∧ qJ false E o.op o.type ⟨st.fr,h2⟩ pk = some (v,⟨st.fr,h2⟩) ∧ AvL L v:=by
 obtain ⟨dst,op,ty,pos,after,guard⟩:=o
 simp only [zsW,Bool.and_eq_true] at hs
 simp only at he ⊢
 have hop:∀ x,x ∈ op.operands→zC4 x = true:=fun x hx=>List.all_eq_true.1 hs.2.2 x (by simpa using hx)
 have hmore:yk op = true→st' = st ∧ qJ false E op ty ⟨st.fr,h2⟩ pk = some (v,⟨st.fr,h2⟩):=fun hst=>by
  have e:=zxW hst he
  subst e
  exact ⟨rfl,zsR (k:=h2) hst (fun x θ u hx hr i hi o' ho'=>by
   have:=zsX (E:=E) hfr (hop x hx) hr
   rw [hag i (this.2 i (zDN hi))]; exact ho') he⟩
 cases op with
 | move x=>exact zxZ (hop x (by simp [Op.operands])) hfr he
 | assign x=>exact zxZ (hop x (by simp [Op.operands])) hfr he
 | nilCheck x =>
  obtain ⟨h1,h2'⟩:=hmore rfl
  refine ⟨h1,h2',?_⟩
  simp only [qJ] at he
  split at he
  ·obtain ⟨_,_,he⟩:=Option.bind_eq_some_iff.1 he; cases he; exact .dat
  ·obtain ⟨_,_,he⟩:=Option.bind_eq_some_iff.1 he; cases he; exact .dat
  ·rename_i hr; obtain ⟨_,he⟩:=zb he; cases he; exact zsX (E:=E) hfr (hop x (by simp [Op.operands])) hr
  ·rename_i hr; obtain ⟨_,he⟩:=zb he; cases he; exact zsX (E:=E) hfr (hop x (by simp [Op.operands])) hr
  ·rename_i hr
   split at he
   ·cases he; exact zsX (E:=E) hfr (hop x (by simp [Op.operands])) hr
   ·cases he
  ·cases he
 | load t x =>
  obtain ⟨h1,h2'⟩:=hmore rfl
  refine ⟨h1,h2',?_⟩
  simp only [qJ] at he
  split at he
  ·rename_i u hr; exact zKS hc (zsX (E:=E) hfr (hop x (by simp [Op.operands])) hr) he
  ·cases he
 | fieldAddr t x f =>
  obtain ⟨h1,h2'⟩:=hmore rfl
  refine ⟨h1,h2',?_⟩
  simp only [qJ] at he
  split at he
  ·rename_i u hr; exact zBU (zsX (E:=E) hfr (hop x (by simp [Op.operands])) hr) he
  ·cases he
 | indexAddr t x i =>
  obtain ⟨h1,h2'⟩:=hmore rfl
  refine ⟨h1,h2',?_⟩
  simp only [qJ] at he
  split at he
  ·rename_i u u' hr hr'; exact zBV (zsX (E:=E) hfr (hop x (by simp [Op.operands])) hr) he
  ·cases he
 | binOp b t x y o' =>
  obtain ⟨h1,h2'⟩:=hmore rfl
  refine ⟨h1,h2',?_⟩
  simp only [qJ] at he
  split at he
  ·obtain ⟨τ,z,rfl⟩:=zH3 he; exact .dat
  ·cases he
 | _=>cases hs.1
theorem FrL.put {L:List Nat} {fr:List (Nat × AV)} {v:AV} (h:FrL L fr) (hv:AvL L v) (d:Nat):FrL L (ins d v fr):=by
 intro t u hu
 rw [zjp] at hu
 by_cases e:d = t
 ·rw [if_pos e] at hu; cases hu; exact hv
 ·rw [if_neg e] at hu; exact h t u hu
theorem zBt (hng:E.ng = true) {L:List Nat} {h h2:List Obj} (hc:zlW h L = true) (hag:∀ i,jE i L = true→atN h2 i = atN h i) {all:List Oper} :
 ∀ (l:List Oper) (fr:List (Nat × AV)) (st':St),(∀ o ∈ l,zsW o = true)→FrL L fr→zhU E all l ⟨fr,h⟩ some = some st'→st'.h = h ∧ zhU E all l ⟨fr,h2⟩ some = some ⟨st'.fr,h2⟩ ∧ FrL L st'.fr
 | [],fr,st',_,hf,he=>by cases he; exact ⟨rfl,rfl,hf⟩
 | o :: l,fr,st',hs,hf,he=>by
  have ho:=hs o (by simp)
  have hg:∀ fr',zbh all fr' o = some true:=fun fr'=>by
   simp only [zsW,Bool.and_eq_true,Option.isNone_iff_eq_none] at ho
   unfold zbh
   rw [ho.2.1]
  simp only [zhU,hg,cond_true] at he ⊢
  obtain ⟨hd,he⟩:=zb he
  rw [zsV hng] at he
  obtain ⟨⟨v,s1⟩,h1,he⟩:=Option.bind_eq_some_iff.1 he
  obtain ⟨e1,e2,e3⟩:=zKT ho hf hc hag h1
  subst e1
  have hf':FrL L ((⟨fr,h⟩:St).put o.dst v).fr:=by
   cases o.dst with
   | none=>exact hf
   | some d=>exact hf.put e3 d
  have hp:∀ h',(⟨fr,h'⟩:St).put o.dst v = ⟨((⟨fr,h⟩:St).put o.dst v).fr,h'⟩:=fun h'=>by cases o.dst <;> rfl
  simp only at he
  rw [hp h] at he
  obtain ⟨g1,g2,g3⟩:=zBt hng hc hag l _ st' (fun o ho=>hs o (List.mem_cons_of_mem _ ho)) hf' he
  refine ⟨g1,?_,g3⟩
  rw [hd,zsV hng,e2]
  simp only [cond_true,Option.bind_some]
  rw [hp h2]
  exact g2
theorem zLP (hng:E.ng = true) (hjn:E.jn = []) {L:List Nat} {h h2:List Obj} (hc:zlW h L = true) (hag:∀ i,jE i L = true→atN h2 i = atN h i) {K fin:Nat} :
 ∀ (c:Code) (lx:Nat→Nat) (ln:Nat) (fr:List (Nat × AV)) (e:Ex) (st':St),zhY c = true→FrL L fr→evC E K fin c lx ln pe ⟨fr,h⟩ = some (e,st')→st'.h = h ∧ evC E K fin c lx ln pe ⟨fr,h2⟩ = some (e,⟨st'.fr,h2⟩) ∧ FrL L st'.fr:=by
 intro c
 induction c with
 | skip=>intro lx ln fr e st' _ hf he; cases he; exact ⟨rfl,rfl,hf⟩
 | ret=>intro lx ln fr e st' _ hf he; cases he; exact ⟨rfl,rfl,hf⟩
 | region id ops d =>
  intro lx ln fr e st' hs hf he
  simp only [zhY,Bool.and_eq_true,Bool.not_eq_true'] at hs
  obtain ⟨rfl,hs⟩:=hs
  have hjr:∀ {k:St→Option (Ex × St)},jr E K id ln k = k:=by
   intro k
   unfold jr
   rw [hjn]; rfl
  simp only [evC,hjr,cond_false] at he ⊢
  rw [zkm hng] at he ⊢
  obtain ⟨s1,h1,he⟩:=Option.bind_eq_some_iff.1 he
  obtain ⟨g1,g2,g3⟩:=zBt hng hc hag _ _ _ (fun o ho=>List.all_eq_true.1 hs o ho) hf h1
  cases he
  refine ⟨g1,?_,g3⟩
  rw [g2]; rfl
 | seq x y ihx ihy =>
  intro lx ln fr e st' hs hf he
  simp only [zhY,Bool.and_eq_true] at hs
  simp only [evC] at he ⊢
  rw [zo9 hng hjn] at he
  obtain ⟨⟨e1,s1⟩,h1,hk⟩:=Option.bind_eq_some_iff.1 he
  clear he
  obtain ⟨g1,g2,g3⟩:=ihx _ _ _ _ _ hs.1 hf h1
  rw [zo9 hng hjn,g2]
  cases e1 with
  | normal =>
   obtain ⟨fr1,hh1⟩:=s1
   simp only at g1 g3 hk
   rw [g1] at hk
   exact ihy _ _ _ _ _ hs.2 g3 hk
  | _=>cases hk; exact ⟨g1,rfl,g3⟩
 | cond b x y ihx ihy =>
  intro lx ln fr e st' hs hf he
  simp only [zhY,Bool.and_eq_true] at hs
  have hrd:rd E ⟨fr,h2⟩ none b = rd E ⟨fr,h⟩ none b:=by cases b <;> rfl
  simp only [evC,hrd] at he ⊢
  split at he
  ·rename_i t hb
   cases ht:(show Bool from t) with
   | true=>rw [show t = true from ht] at he; exact ihx _ _ _ _ _ hs.1 hf he
   | false=>rw [show t = false from ht] at he; exact ihy _ _ _ _ _ hs.2 hf he
  ·cases he
 | _=>intro lx ln fr e st' hs; cases hs
theorem zvn:∀ {vs:List AV} {i t:Nat} {v:AV},look (slots vs i) t = some v→v ∈ vs
 | [],_,_,_,h=>by simp [slots,look] at h
 | x :: vs,i,t,v,h=>by
  simp only [slots,look] at h
  cases hb:Nat.beq i t with
  | true=>rw [hb] at h; cases h; simp
  | false=>rw [hb] at h; exact List.mem_cons_of_mem _ (zvn h)
theorem zJM (f:Func) (hs:zDP f = true) (args:List AV) (h h2:List Obj) (v:AV) (h':List Obj) (L:List Nat) (he:zqM E f (AV × List Obj) args h (fun v h=>some (v,h)) = some (v,h')) (ho:args.all AV.one = true)
 (hi:(args.all fun v=>v.ids.all fun i=>jE i L) = true) (hc:zlW h L = true) (hag:∀ i,jE i L = true→atN h2 i = atN h i):h' = h ∧ zqM E f (AV × List Obj) args h2 (fun v h=>some (v,h)) = some (v,h2):=by
 unfold zDP at hs
 simp only [Bool.and_eq_true] at hs
 unfold zqM at he ⊢
 cases hb:f.body with
 | none=>rw [hb] at he; cases he
 | some c =>
  rw [hb] at he hs
  simp only at he hs ⊢
  rw [zo9 rfl rfl] at he ⊢
  obtain ⟨⟨e,st⟩,h1,he⟩:=Option.bind_eq_some_iff.1 he
  have hf:FrL L (slots args 0):=fun t u hu=>by
   have hm:=zvn hu
   have h1:=List.all_eq_true.1 ho u hm
   refine ⟨h1,fun i hii=>?_⟩
   have:=List.all_eq_true.1 hi u hm
   exact List.all_eq_true.1 this i (zus (by rintro ws rfl; cases h1) hii)
  obtain ⟨g1,g2,g3⟩:=zLP (E:=inE E f) rfl rfl hc hag c _ _ _ _ _ hs.1 hf h1
  rw [g2]
  have hres:f.results.toList.map (zc7 (inE E f) ⟨st.fr,h2⟩) = f.results.toList.map (zc7 (inE E f) st):=List.map_congr_left fun r hr=>by
   have:=List.all_eq_true.1 hs.2 r hr
   cases r with
   | tmp t=>rfl
   | cell a t=>cases this
  have key:∀ (x:Option (AV × List Obj)) ,zDO (inE E f) f (AV × List Obj) (fun v h=>some (v,h)) e st = some (v,h')→h' = h ∧ zDO (inE E f) f (AV × List Obj) (fun v h=>some (v,h)) e ⟨st.fr,h2⟩ = some (v,h2):=by
   intro _ hk
   cases e with
   | exit _=>cases hk
   | _ =>
    simp only [zDO,hres] at hk ⊢
    obtain ⟨k1,k2⟩:=zb hk
    cases k2
    exact ⟨g1,by rw [k1]; rfl⟩
  exact key none he
noncomputable def zMu (E:Env) (f:Func):Hd:=⟨zqM E f,fun _ args h k=>zKR f args h k,zDP f,fun hs=>zJM f hs⟩
noncomputable def Env.inl (E:Env) (fs:List (Nat × Func)):Nat→Env
 | 0=>E
 | d + 1=>{ E with hnd:=fun i=>(look fs i).map (zMu (E.inl fs d)) }
end
end Go.Ev
end
section
namespace Go.Ev
open Go.RowKit
theorem zx0:∀ {l:List Nat} {i:Nat},i ∈ l→l[zan l i]? = some i
 | x :: l,i,h=>by
  by_cases e:x = i
  ·subst e; simp [zan,beq_self]
  ·have hm:i ∈ l:=by
    rcases List.mem_cons.1 h with h | h
    ·exact absurd h.symm e
    ·exact h
   simp only [zan,zbi e,cond_false,List.getElem?_cons_succ]
   exact zx0 hm
theorem zov:∀ {l:List Nat},zsE l = true→∀ (i j x:Nat),l[i]? = some x→l[j]? = some x→i = j
 | [],_,i,_,x,hi,_=>by simp at hi
 | y :: l,h,i,j,x,hi,hj=>by
  simp only [zsE,Bool.and_eq_true,Bool.not_eq_true'] at h
  have hno:∀ k,l[k]? ≠ some y:=fun k hk=>by
   have:=zbj.2 (List.mem_of_getElem? hk)
   rw [h.1] at this; cases this
  cases i with
  | zero =>
   simp only [List.getElem?_cons_zero,Option.some.injEq] at hi
   subst hi
   cases j with
   | zero=>rfl
   | succ j=>exact absurd (by simpa using hj) (hno j)
  | succ i =>
   cases j with
   | zero =>
    simp only [List.getElem?_cons_zero,Option.some.injEq] at hj
    subst hj
    exact absurd (by simpa using hi) (hno i)
   | succ j =>
    rw [zov h.2 i j x (by simpa using hi) (by simpa using hj)]
section
variable {P:Program} {nt:Up} {F0 F:FH} {w0 w:World} {st:St} {m:MM} {a:Act}
theorem zd0 {l:List Nat} {v:AV} {i:Nat} (hv:v.okG1 l = true) (hi:v.has1 i = true):i ∈ l:=by
 cases v with
 | clo f k =>
  obtain ⟨x,hx⟩:=zo8 hi
  exact zbj.1 (List.all_eq_true.1 hv i (List.mem_of_getElem? hx))
 | _=>simp only [AV.has1] at hi; first | (cases hi; done) | (rw [← Nat.eq_of_beq_eq_true hi]; exact zbj.1 hv)
theorem zHf {l:List Nat} {v:AV} {i:Nat} (ht:∀ vs,v ≠ .tup vs) (hv:v.okG l = true) (hi:v.has i = true):i ∈ l:=by
 cases v with
 | tup vs=>exact absurd rfl (ht vs)
 | fld b vs =>
  simp only [AV.has,List.any_eq_true] at hi
  obtain ⟨x,hx,hi⟩:=hi
  simp only [AV.okG,List.all_eq_true] at hv
  exact zd0 (hv x hx) hi
 | dat τ x=>cases hi
 | clip τ x=>cases hi
 | dead=>cases hi
 | bp id p=>exact zd0 (v:=.bp id p) hv hi
 | rp id i p=>exact zd0 (v:=.rp id i p) hv hi
 | ow id=>exact zd0 (v:=.ow id) hv hi
 | om id=>exact zd0 (v:=.om id) hv hi
 | ds id i p=>exact zd0 (v:=.ds id i p) hv hi
 | dp id i p j q=>exact zd0 (v:=.dp id i p j q) hv hi
 | clo f k=>exact zd0 (v:=.clo f k) hv hi
 | gs id k=>exact zd0 (v:=.gs id k) hv hi
def MM.sel (m:MM) (l:List Nat):MM:=⟨fun j=>(l[j]?).bind m,fun j=>match l[j]? with | some i=>m.d i | none=>fun _ _=>none⟩
theorem MM.sel_f {m:MM} {l:List Nat} {j:Nat} {b:Nat × Nat} (h:(m.sel l) j = some b):∃ i,l[j]? = some i ∧ m i = some b:=Option.bind_eq_some_iff.1 h
theorem MM.sel_d {m:MM} {l:List Nat} {i k:Nat} {p:List Nat} {b:Nat × Nat} (h:(m.sel l).d i k p = some b):∃ x,l[i]? = some x ∧ m.d x k p = some b:=by
 simp only [MM.sel] at h
 cases hx:l[i]? with
 | none=>rw [hx] at h; cases h
 | some x=>rw [hx] at h; exact ⟨x,rfl,h⟩
theorem MM.sel_at {m:MM} {l:List Nat} {i x:Nat} (h:l[i]? = some x):(m.sel l) i = m x ∧ (m.sel l).d i = m.d x:=by
 simp only [MM.sel,h,Option.bind_some,and_self]
theorem zH4 (hup:nt.up = []) (l:List Nat) (hi:Inv P nt F0 w0 st a w):Inv P nt F0 w0 (zDj l st) a w:=by
 unfold zDj
 cases hc:(zsE l && (st.fr.all (fun p=>p.2.okG l) && l.all fun i=>match atN st.h i with | some o=>o.okG l | none=>true)) with
 | false=>exact hi
 | true =>
  simp only [Bool.and_eq_true] at hc
  obtain ⟨h1,h2,h3⟩:=hc
  obtain ⟨m,F,h⟩:=hi
  refine ⟨m.sel l,F,?_⟩
  have hR:∀ i,i ∈ l→∀ o,atN st.h i = some o→atN (l.map fun i=>((atN st.h i).getD .gone).ren l) (zan l i) = some (o.rn (zan l)) ∧ (m.sel l) (zan l i) = m i ∧ (m.sel l).d (zan l i) = m.d i:=by
   intro i hil o ho
   have:=zx0 hil
   refine ⟨?_,MM.sel_at this⟩
   rw [z7,List.getElem?_map,this,Option.map_some,ho,Option.getD_some,Obj.ren_rn]
  have hV:∀ {v:AV} {u:Value},v.okG l = true→zE P st.h m F v u→zE P (l.map fun i=>((atN st.h i).getD .gone).ren l) (m.sel l) F (v.ren l) u:=by
   intro v u hv hr
   rw [AV.ren_rn]
   exact hr.rn fun i hi o ho=>hR i (zHf (fun vs e=>by subst e; exact hr.elim) hv hi) o ho
  refine ⟨h.nt,fun t v ht=>?_,fun v u hv=>(by rw [hup] at hv; cases hv),h.lo,fun j u hu=>?_,fun i j b n n' hi hj=>?_,fun j b n hj=>?_,fun i j p b n hp=>?_,fun i1 j1 p1 b n i2 j2 p2 n' q1 q2=>?_,h.fok,h.gro,h.bel,h.dfr⟩
  ·simp only [cond_true] at ht
   rw [zDk] at ht
   obtain ⟨x,hx,rfl⟩:=Option.map_eq_some_iff.1 ht
   have hmem:∀ (fr:List (Nat × AV)),look fr t = some x→∃ p ∈ fr,p.2 = x:=by
    intro fr
    induction fr with
    | nil=>intro h; simp [look] at h
    | cons p fr ih =>
     intro h
     obtain ⟨k,y⟩:=p
     simp only [look] at h
     cases hb:Nat.beq k t with
     | true=>rw [hb] at h; simp only [cond_true,Option.some.injEq] at h; exact ⟨(k,y),by simp,h⟩
     | false=>rw [hb] at h; obtain ⟨p,hp,e⟩:=ih h; exact ⟨p,by simp [hp],e⟩
   obtain ⟨p,hp,rfl⟩:=hmem _ hx
   have hok:=List.all_eq_true.1 h2 p hp
   have hr:=h.fr t p.2 hx
   simp only [cond_true]
   cases hpv:p.2 with
   | tup vs =>
    rw [hpv] at hok hr
    exact zh.pure (h:=st.h) (m:=m) hok hr
   | _ =>
    rw [hpv] at hok hr
    rw [zh.eq1 (by intro vs e; cases e)] at hr
    refine zh.of1 ?_
    exact hV hok hr
  ·simp only [cond_true] at hu ⊢
   rw [z7,List.getElem?_map] at hu
   obtain ⟨i,hi,rfl⟩:=Option.map_eq_some_iff.1 hu
   have hok:=List.all_eq_true.1 h3 i (List.mem_of_getElem? hi)
   cases ho:atN st.h i with
   | none=>rw [Option.getD_none]; trivial
   | some o =>
    rw [ho] at hok
    rw [Option.getD_some,Obj.ren_rn]
    refine (h.obs i o ho).rn (fun v f e i' hi' o' ho'=>hR i' ?_ o' ho') (MM.sel_at hi).1 (MM.sel_at hi).2
    subst e
    refine zHf (fun vs e=>?_) hok hi'
    subst e
    obtain ⟨_,_,_,_,_,_,_,h5,_⟩:=(h.obs i _ ho)
    exact h5.elim
  ·obtain ⟨x,hx,hi⟩:=MM.sel_f hi
   obtain ⟨y,hy,hj⟩:=MM.sel_f hj
   have:=h.inj _ _ _ _ _ hi hj
   subst this
   exact zov h1 i j x hx hy
  ·obtain ⟨x,hx,hj⟩:=MM.sel_f hj
   have:=h.rng _ _ _ hj
   refine ⟨?_,this.2⟩
   simp only [cond_true,List.length_map]
   exact (List.getElem?_eq_some_iff.1 hx).1
  ·obtain ⟨x,hx,hp⟩:=MM.sel_d hp
   obtain ⟨⟨o,g1,g2⟩,g3,g4,g5,g6⟩:=h.dok _ _ _ _ _ hp
   refine ⟨⟨o.rn (zan l),?_,by rw [zsQ]; exact g2⟩,g3,g4,g5,fun i' n' hi'=>?_⟩
   ·simp only [cond_true]
    rw [z7,List.getElem?_map,hx,Option.map_some,g1,Option.getD_some,Obj.ren_rn]
   ·obtain ⟨y,hy,hi'⟩:=MM.sel_f hi'
    exact g6 _ _ hi'
  ·obtain ⟨x,hx,q1⟩:=MM.sel_d q1
   obtain ⟨y,hy,q2⟩:=MM.sel_d q2
   obtain ⟨rfl,e2,e3⟩:=h.din _ _ _ _ _ _ _ _ _ q1 q2
   exact ⟨zov h1 i1 i2 x hx hy,e2,e3⟩
theorem zDQ {E:Env} (hup:E.ng = true ∨ nt.up = []) (hi:Inv P nt F0 w0 st a w):Inv P nt F0 w0 (St.gcE E st) a w:=by
 unfold St.gcE
 rcases hup with e | e
 ·rw [e]; exact hi
 ·cases E.ng
  ·exact zH4 e _ hi
  ·exact hi
theorem zwd (j7:Nat) (hi:Inv P nt F0 w0 st a w):Inv P nt F0 w0 ⟨zDg j7 st.fr,st.h⟩ a w:=by
 obtain ⟨m,F,h⟩:=hi
 exact ⟨m,F,h.frames fun t v ht=>zor (fun t=>Nat.testBit j7 t) st.fr t v ht⟩
end
end Go.Ev
end
section
namespace Go.Ev
open Go.RowKit
def Ex.of:Ex→Exit
 | .normal=>.normal
 | .exit id=>.exit id
 | .ret=>.ret
section
variable {P:Program} {nt:Up} {F0 G:FH} {w0 w:World} {E:Env} {R:Type} {a:Act} {Q:Exit→Act→World→Prop}
theorem zDR {p:Nat→Prop} (h:∃ n,p n):∃ n,p n ∧ ∀ m,p m→n ≤ m:=by
 obtain ⟨n,hn⟩:=h
 induction n using Nat.strongRecOn with
 | _ n ih =>
  by_cases hm:∃ m,m < n ∧ p m
  ·obtain ⟨m,h1,h2⟩:=hm
   exact ih m h1 h2
  ·refine ⟨n,hn,fun m h=>?_⟩
   rcases Nat.lt_or_ge m n with h1 | h1
   ·exact absurd ⟨m,h1,h⟩ hm
   ·exact h1
open Classical in
noncomputable def leastOf (X:Nat→Act→World→Prop) (a:Act) (w:World):Nat:=if h:∃ n,X n a w then Classical.choose (zDR h) else 0
theorem zJN {c:Code} (X:Nat→Act→World→Prop) (round:∀ n a w,X n a w→c.wp P (Exit.then (fun a' w'=>∃ m,m < n ∧ X m a' w') Q) a w) {n:Nat} (h:X n a w):(Code.loop c).wp P Q a w:=by
 have hspec:∀ {a:Act} {w:World},(∃ n,X n a w)→X (leastOf X a w) a w ∧ ∀ m,X m a w→leastOf X a w ≤ m:=by
  intro a w h
  unfold leastOf
  rw [dif_pos h]
  exact Classical.choose_spec (zDR h)
 refine wp_loop (fun a w=>∃ n,X n a w) (leastOf X) ⟨n,h⟩ fun a w hI=>?_
 refine wp_mono (round _ a w (hspec hI).1) fun e a' w' hq=>?_
 cases e with
 | normal =>
  obtain ⟨m,h1,h2⟩:=hq
  exact ⟨⟨m,h2⟩,Nat.lt_of_le_of_lt ((hspec ⟨m,h2⟩).2 m h2) h1⟩
 | _=>exact hq
def zM6 (P:Program) (nt:Up) (F0:FH) (w0:World) (k:Ex→St→Option R) (r:R) (Q:Exit→Act→World→Prop):Prop :=
 ∀ e st a w,Inv P nt F0 w0 st a w→k e st = some r→Q e.of a w
theorem zHg (hup:E.ng = true ∨ nt.up = []) {K id ln:Nat} {r:R} {k:St→Option R} {Q:Exit→Act→World→Prop} (hQ:∀ st a w,Inv P nt F0 w0 st a w→k st = some r→Q .normal a w):∀ st a w,Inv P nt F0 w0 st a w→jr E K id ln k st = some r→Q .normal a w:=by
 intro st a w hi hk
 unfold jr at hk
 cases hb:jE id E.jn with
 | false=>rw [hb] at hk; exact hQ st a w hi hk
 | true =>
  rw [hb] at hk
  cases K with
  | zero=>cases hk
  | succ K=>exact hQ _ _ _ (zDQ hup (zwd _ hi)) hk
theorem zHh (hup:E.ng = true ∨ nt.up = []) (hm:P.follows .mixedOrders = true) (hE:EnvOk P G E) (hG:G.le F0) (hnt:E.nt = nt) {K fin:Nat} {r:R} :
 ∀ (c:Code) {lx:Nat→Nat} {ln:Nat} {k:Ex→St→Option R} {st:St} {a:Act} {w:World} {Q:Exit→Act→World→Prop},zM6 P nt F0 w0 k r Q→Inv P nt F0 w0 st a w→evC E K fin c lx ln k st = some r→c.wp P Q a w:=by
 intro c
 induction c with
 | skip=>intro lx ln k st a w Q hQ hi he; exact wp_skip (hQ .normal _ _ _ hi he)
 | label l=>intro lx ln k st a w Q hQ hi he; exact wp_label (hQ .normal _ _ _ hi he)
 | exit id=>intro lx ln k st a w Q hQ hi he; exact wp_exit (hQ (.exit id) _ _ _ hi he)
 | ret=>intro lx ln k st a w Q hQ hi he; exact wp_ret (hQ .ret _ _ _ hi he)
 | region id ops d =>
  intro lx ln k st a w Q hQ hi he
  simp only [evC] at he
  cases d with
  | true =>
   simp only [cond_true] at he
   obtain ⟨h1,h2⟩:=zb he
   exact zLM hm hE hG hnt h1 (zHg hup fun st a w hi hk=>hQ .normal _ _ _ hi hk) hi h2
  | false =>
   simp only [cond_false] at he
   refine wp_region ?_
   have:=zJH (Q:=Q) hE hG hnt (zHg hup fun st a w hi hk=>hQ .normal _ _ _ hi hk) ops.toList [] st a w rfl hi he
   rw [List.range_eq_range']
   exact this
 | seq x y ihx ihy =>
  intro lx ln k st a w Q hQ hi he
  simp only [evC] at he
  refine wp_seq (ihx ?_ hi he)
  intro e st a w hi hk
  cases e with
  | normal=>exact ihy hQ hi hk
  | exit id=>exact hQ (.exit id) _ _ _ hi hk
  | ret=>exact hQ .ret _ _ _ hi hk
 | cond c x y ihx ihy =>
  intro lx ln k st a w Q hQ hi he
  simp only [evC] at he
  split at he
  ·rename_i t hc
   obtain ⟨m,F,h⟩:=id hi
   have hb:=(zv hE hG h hc).bool
   cases ht:(show Bool from t) with
   | true =>
    have ht':t = true:=ht
    subst ht'
    exact wp_cond_true hb (ihx hQ hi he)
   | false =>
    have ht':t = false:=ht
    subst ht'
    exact wp_cond_false hb (ihy hQ hi he)
  ·cases he
 | block id b ih =>
  intro lx ln k st a w Q hQ hi he
  simp only [evC] at he
  refine wp_block (ih ?_ hi he)
  intro e st a w hi hk
  cases e with
  | normal=>exact hQ .normal _ _ _ hi hk
  | exit id' =>
   simp only [Ex.of,Exit.inBlock]
   by_cases e:id' = id
   ·subst e
    rw [if_pos rfl]
    simp only [beq_self,cond_true] at hk
    exact hQ .normal _ _ _ hi hk
   ·rw [if_neg e]
    simp only [zbi e,cond_false] at hk
    exact hQ (.exit id') _ _ _ hi hk
  | ret=>exact hQ .ret _ _ _ hi hk
 | loop b ih =>
  intro lx ln k st a w Q hQ hi he
  simp only [evC] at he
  refine zJN (fun n a w=>∃ st,Inv P nt F0 w0 st a w ∧ zlv E (lv fin (.loop b) lx ln) (evC E K fin b lx (lv fin (.loop b) lx ln)) k n st = some r) ?_ ⟨_,zDQ hup (zwd _ hi),he⟩
  rintro n a w ⟨st,hi,he⟩
  cases n with
  | zero=>cases he
  | succ n =>
   simp only [zlv] at he
   refine ih ?_ hi he
   intro e st a w hi hk
   cases e with
   | normal=>exact ⟨n,Nat.lt_succ_self n,_,zDQ hup (zwd _ hi),hk⟩
   | exit id=>exact hQ (.exit id) _ _ _ hi hk
   | ret=>exact hQ .ret _ _ _ hi hk
 | scope b ih =>
  intro lx ln k st a w Q hQ hi he
  simp only [evC] at he
  refine wp_scope_straight (ih ?_ hi he)
  intro e st a w hi hk
  cases e with
  | normal=>exact hQ .normal _ _ _ hi hk
  | exit id=>exact hQ (.exit id) _ _ _ hi hk
  | ret=>exact hQ .ret _ _ _ hi hk
 | _=>intro lx ln k st a w Q hQ hi he; simp [evC] at he
end
end Go.Ev
end
section
namespace Go.Ev
open Go.RowKit
section
variable {P:Program} {nt:Up} {F0 F G:FH} {w0 w:World} {st st':St} {m:MM} {a:Act} {E:Env} {v:AV} {u:Value}
theorem zGd:∀ {τ:Ty} {x:τ.I} {i t:Nat} {v:AV} {vs:List Value},look (params τ x i) t = some v→RepA P F τ x vs→i ≤ t ∧ ∃ σ y u,v = .dat σ y ∧ vs[t - i]? = some u ∧ zV P F σ y u:=by
 intro τ
 induction τ with
 | pair a b _ ihb =>
  rintro x i t v vs h ⟨u,r,rfl,h1,h2,h3⟩
  simp only [params] at h
  by_cases e:i = t
  ·subst e
   simp only [look,beq_self,cond_true,Option.some.injEq] at h
   exact ⟨Nat.le_refl _,a,x.1,u,h.symm,by simp,h1,h2⟩
  ·simp only [look,zbi e,cond_false] at h
   obtain ⟨g1,σ,y,u',g2,g3,g4⟩:=ihb h h3
   refine ⟨by omega,σ,y,u',g2,?_,g4⟩
   rw [show t - i = (t - (i + 1)) + 1 by omega,List.getElem?_cons_succ]
   exact g3
 | _=>intro x i t v vs h; simp [params,look] at h
theorem Rel.enter {τ:Ty} {x:τ.I} {vs:List Value} (hk:F0.ok w) (hr:RepA P F0 τ x vs) (n:Nat) :
 Rel P ⟨n,[],F0⟩ F0 w ⟨params τ x 0,[]⟩ MM.emp F0 { tmps:=vs.toArray ++ Array.replicate (n - vs.toArray.size) undef,defers:=[] } w:=by
 refine ⟨by simp; omega,fun t v ht=>?_,fun _ _ h=>(nomatch h),.refl F0,fun i o ho=>(by simp [atN] at ho),fun _ _ _ _ _ h=>(nomatch h),fun _ _ _ h=>(nomatch h),fun _ _ _ _ _ h=>(nomatch h),fun _ _ _ _ _ _ _ _ _ h=>(nomatch h),hk,⟨.refl F0,fun _ _=>rfl⟩,⟨rfl,rfl,rfl,Nat.le_refl _,fun _ _=>rfl⟩,rfl⟩
 obtain ⟨_,σ,y,u,rfl,h2,h3⟩:=zGd ht hr
 rw [Nat.sub_zero] at h2
 have hlt:=(List.getElem?_eq_some_iff.1 h2).1
 have:(vs.toArray ++ Array.replicate (n - vs.toArray.size) undef).getD t undef = u:=by
  rw [Array.getD_eq_getD_getElem?,Array.getElem?_append_left (by simpa using hlt)]
  simp [h2]
 rw [this]
 exact h3
def zsY (tmps:Array Value):ResultVar→Sem Value
 | .tmp t=>pure (tmps.getD t undef)
 | .cell a t=>do loadVar t (← asAddr (tmps.getD a undef))
theorem zH5 (fn:Func) (tmps:Array Value):results fn tmps = (do let vs ← fn.results.mapM (zsY tmps); pure (if h:vs.size = 1 then vs[0] else .tuple vs)):=rfl
theorem zJO {rv:ResultVar} (hE:EnvOk P G E) (h:Rel P nt F0 w0 st m F a w) (hr:zc7 E st rv = some v) :
 ∃ u,(zsY a.tmps rv).run P w = .ok u w ∧ zh P st.h m F v u:=by
 cases rv with
 | tmp t=>exact ⟨_,rfl,h.fr t v hr⟩
 | cell d t =>
  simp only [zc7] at hr
  split at hr
  ·rename_i id hl
   have hx:=h.fr d _ hl
   have key:∀ (y:AV) (f:Bool),atN st.h id = some (.bx y f)→jU E t (.bp id []) st pk = some (v,st) →
    ∃ u,(zsY a.tmps (.cell d t)).run P w = .ok u w ∧ zh P st.h m F v u:=by
    intro y f ho he
    obtain ⟨u,h1,_,h2⟩:=zqy hE h hx he
    obtain ⟨b,n,off,_,hp,_⟩:=hx.bpAt ho
    refine ⟨u,?_,h2⟩
    simp only [zsY]
    rw [hp] at h1 ⊢
    simpa [Instr.loadAt,Instr.sureAddr,asAddr] using h1
   split at hr
   ·rename_i τ x f ho
    obtain ⟨h1,h2⟩:=zb hr
    cases h2
    refine key _ _ ho ?_
    simp only [jU,ho,zW,h1,cond_true]
    unfold kAV
    split
    ·have:∀ b:Bool,kB b st pk = some (.dat .bool b,st):=fun b=>by cases b <;> rfl
     rename_i b hq
     cases hq
     exact this b
    ·rfl
   ·rename_i b vs f ho
    obtain ⟨h1,h2⟩:=zb hr
    cases h2
    refine key _ _ ho ?_
    simp only [jU,ho,h1,cond_true]
   ·rename_i y f hnd hnf ho
    obtain ⟨h1,h2⟩:=zb hr
    cases h2
    refine key _ _ ho ?_
    simp only [jU,ho]
    cases v <;> first | (simp only [h1,cond_true]; done) | exact absurd rfl (hnd _ _) | exact absurd rfl (hnf _ _) | (simp only [h1,cond_true]; rfl)
   ·cases hr
  ·cases hr
theorem zvo {f:Func} {vs:List AV} (hE:EnvOk P G E) (h:Rel P nt F0 w0 st m F a w) (hr:f.results.toList.map (zc7 E st) = vs.map some) :
 ∃ us,(results f a.tmps).run P w = .ok (zqs us) w ∧ jx P st.h m F vs us:=by
 have key:∀ (l:List ResultVar) (vs:List AV),l.map (zc7 E st) = vs.map some→∃ us:List Value,(l.mapM (zsY a.tmps)).run P w = .ok us w ∧ jx P st.h m F vs us:=by
  intro l
  induction l with
  | nil =>
   intro vs h
   cases vs with
   | nil=>exact ⟨[],by simp,rfl⟩
   | cons _ _=>simp at h
  | cons rv l ih =>
   intro vs hl
   cases vs with
   | nil=>simp at hl
   | cons v vs =>
    simp only [List.map_cons,List.cons.injEq] at hl
    obtain ⟨us,h1,h2⟩:=ih vs hl.2
    obtain ⟨u,h3,h4⟩:=zJO hE h hl.1
    refine ⟨u :: us,?_,u,us,rfl,h4,h2⟩
    simp only [List.mapM_cons,Sem.run_bind]
    rw [h3]
    simp only [Result.andThen_ok,h1,Sem.run_pure]
 obtain ⟨us,h1,h2⟩:=key _ _ hr
 refine ⟨us,?_,h2⟩
 rw [zH5,Array.mapM_eq_mapM_toList,← bind_pure_comp]
 simp only [Sem.run_bind,h1,Result.andThen_ok,Sem.run_pure]
 match us with
 | []=>rfl
 | [u]=>rfl
 | u :: v :: us=>rfl
theorem zkT {α:Type}:∀ {l:List (Option α)},l.all Option.isSome = true→l = (l.filterMap id).map some
 | [],_=>rfl
 | none :: l,h=>by simp at h
 | some x :: l,h=>by
  simp only [List.all_cons,Option.isSome_some,Bool.true_and] at h
  simp only [List.filterMap_cons,id,List.map_cons,← zkT h]
def zaa (h0 h:List Obj):Prop:=h0.length = h.length ∧ ∀ i,atN h0 i = some .gone ∨ atN h0 i = atN h i
theorem zaa.refl (h:List Obj):zaa h h:=⟨rfl,fun _=>.inr rfl⟩
theorem zaa.at {h0 h:List Obj} (l:zaa h0 h) {i:Nat} {o:Obj} (ho:atN h0 i = some o) (hg:o ≠ .gone):atN h i = some o:=by
 rcases l.2 i with e | e
 ·rw [e] at ho; cases ho; exact absurd rfl hg
 ·rw [← e]; exact ho
theorem zaa.gone {h0 h:List Obj} (l:zaa h0 h) {i:Nat} {o:Obj} (ho:atN h0 i = some o):zaa (zf h0 i .gone) h:=by
 refine ⟨by simp only [qS,List.length_set]; exact l.1,fun j=>?_⟩
 by_cases e:i = j
 ·subst e; exact .inl (vw ho)
 ·rw [qp e]; exact l.2 j
theorem zaa.set {h0 h:List Obj} (l:zaa h0 h) {i:Nat} {o o':Obj} (ho:atN h0 i = some o) (hg:o ≠ .gone):zaa (zf h0 i o') (zf h i o'):=by
 refine ⟨by simp only [qS,List.length_set]; exact l.1,fun j=>?_⟩
 by_cases e:i = j
 ·subst e; right; rw [vw ho,vw (l.at ho hg)]
 ·rw [qp e,qp e]; exact l.2 j
def zhZ (h0 h h0' h':List Obj):Prop:=zaa h0' h' ∧ ∀ i,atN h0 i = some .gone→atN h0' i = some .gone ∧ atN h' i = atN h i
theorem zhZ.refl {h0 h:List Obj} (l:zaa h0 h):zhZ h0 h h0 h:=⟨l,fun _ h=>⟨h,rfl⟩⟩
theorem zhZ.trans {h0 h h1 h' h2 h'':List Obj} (a:zhZ h0 h h1 h') (b:zhZ h1 h' h2 h''):zhZ h0 h h2 h'' :=
 ⟨b.1,fun i hi=>⟨(b.2 i (a.2 i hi).1).1,(b.2 i (a.2 i hi).1).2.trans (a.2 i hi).2⟩⟩
theorem zhZ.set {h0 h:List Obj} (l:zaa h0 h) {i:Nat} {o o':Obj} (ho:atN h0 i = some o) (hg:o ≠ .gone):zhZ h0 h (zf h0 i o') (zf h i o'):=by
 refine ⟨l.set ho hg,fun j hj=>?_⟩
 have e:i ≠ j:=by rintro rfl; rw [ho] at hj; cases hj; exact hg rfl
 rw [qp e,qp e]; exact ⟨hj,rfl⟩
theorem zkn {q:Bool} {fr:List (Nat × AV)} {h0 h:List Obj} {τ:Ty} {x:τ.I} {st':St} (l:zaa h0 h) (hz:qD q ⟨fr,h0⟩ v = some ⟨τ,x,st'⟩):∃ h',qD q ⟨fr,h⟩ v = some ⟨τ,x,⟨fr,h'⟩⟩ ∧ st'.fr = fr ∧ zhZ h0 h st'.h h':=by
 cases v with
 | dat τ' y=>simp only [qD,Option.some.injEq] at hz; cases hz; exact ⟨h,rfl,rfl,.refl l⟩
 | clip τ' y=>simp only [qD,Option.some.injEq] at hz; cases hz; exact ⟨h,rfl,rfl,.refl l⟩
 | ow id =>
  simp only [qD] at hz ⊢
  split at hz
  ·rename_i σ xs ho
   cases hz
   rw [l.at ho (by intro e; cases e)]
   exact ⟨h,rfl,rfl,.refl l⟩
  ·rename_i σ xs ho
   cases q with
   | true=>cases hz
   | false =>
    cases hz
    rw [l.at ho (by intro e; cases e)]
    exact ⟨_,rfl,rfl,.set l ho (by intro e; cases e)⟩
  ·rename_i σ xs k ho
   cases q with
   | true=>cases hz
   | false =>
    cases hz
    rw [l.at ho (by intro e; cases e)]
    exact ⟨_,rfl,rfl,.set l ho (by intro e; cases e)⟩
  ·cases hz
 | bp id p =>
  cases p with
  | cons _ _=>simp [qD] at hz
  | nil =>
   simp only [qD] at hz ⊢
   split at hz
   ·rename_i σ y ho
    cases hz
    rw [l.at ho (by intro e; cases e)]
    exact ⟨h,rfl,rfl,.refl l⟩
   ·rename_i σ y ho
    cases q with
    | true=>cases hz
    | false =>
     cases hz
     rw [l.at ho (by intro e; cases e)]
     exact ⟨_,rfl,rfl,.set l ho (by intro e; cases e)⟩
   ·cases hz
 | _=>simp [qD] at hz
theorem zGe {q:Bool} {σ:Ty} {fr:List (Nat × AV)} {h0 h:List Obj} {x:σ.I} {st':St} (l:zaa h0 h) (hz:yw q σ ⟨fr,h0⟩ v = some (x,st')):∃ h',yw q σ ⟨fr,h⟩ v = some (x,⟨fr,h'⟩) ∧ st'.fr = fr ∧ zhZ h0 h st'.h h':=by
 unfold yw at hz ⊢
 split at hz
 ·rename_i τ y st1 hz1
  obtain ⟨h',e1,e2,e3⟩:=zkn l hz1
  rw [e1]
  split at hz
  ·rename_i z hc
   cases hz
   exact ⟨h',by simp only [hc],e2,e3⟩
  ·cases hz
 ·cases hz
theorem zDS {q:Bool} {fr:List (Nat × AV)}:∀ {τ:Ty} {vs:List AV} {h0 h:List Obj} {x:τ.I} {st':St},zaa h0 h→jl q τ vs ⟨fr,h0⟩ = some (x,st')→∃ h',jl q τ vs ⟨fr,h⟩ = some (x,⟨fr,h'⟩) ∧ st'.fr = fr ∧ zhZ h0 h st'.h h':=by
 intro τ
 induction τ with
 | unit=>intro vs h0 h x st' l hz; cases vs <;> first | (cases hz; exact ⟨h,rfl,rfl,.refl l⟩) | cases hz
 | pair a b _ ihb =>
  intro vs h0 h x st' l hz
  cases vs with
  | nil=>cases hz
  | cons v vs =>
   simp only [jl] at hz ⊢
   split at hz
   ·rename_i y st1 hy
    split at hz
    ·rename_i ys st2 hys
     cases hz
     obtain ⟨h',e1,e2,e3⟩:=zGe l hy
     obtain ⟨f1,h1⟩:=st1
     cases e2
     obtain ⟨h'',g1,g2,g3⟩:=ihb e3.1 hys
     rw [e1]
     exact ⟨h'',by simp only [g1],g2,e3.trans g3⟩
    ·cases hz
   ·cases hz
 | _=>intro vs h0 h x st' l hz; cases vs <;> cases hz
theorem zKU {q:Bool} {fr:List (Nat × AV)} {h0 h:List Obj} {τ:Ty} {x:τ.I} {st':St} (l:zaa h0 h) (hz:frz q ⟨fr,h0⟩ v = some ⟨τ,x,st'⟩):∃ h',frz q ⟨fr,h⟩ v = some ⟨τ,x,⟨fr,h'⟩⟩ ∧ st'.fr = fr ∧ zhZ h0 h st'.h h':=by
 cases v with
 | fld b vs =>
  simp only [frz] at hz ⊢
  split at hz
  ·rename_i y st1 hy
   cases hz
   obtain ⟨h',e1,e2,e3⟩:=zDS l hy
   exact ⟨h',by simp only [e1],e2,e3⟩
  ·cases hz
 | dat τ x=>exact zkn (q:=q) (v:=.dat τ x) l hz
 | clip τ x=>exact zkn (q:=q) (v:=.clip τ x) l hz
 | bp id p=>exact zkn (q:=q) (v:=.bp id p) l hz
 | ow id=>exact zkn (q:=q) (v:=.ow id) l hz
 | _=>cases hz
theorem zH6 {q:Bool} {σ:Ty} {fr:List (Nat × AV)} {h0 h:List Obj} {x:σ.I} {st':St} (l:zaa h0 h) (hz:zgQ q σ ⟨fr,h0⟩ v = some (x,st')):∃ h',zgQ q σ ⟨fr,h⟩ v = some (x,⟨fr,h'⟩) ∧ st'.fr = fr ∧ zhZ h0 h st'.h h':=by
 unfold zgQ at hz ⊢
 split at hz
 ·rename_i τ y st1 hz1
  obtain ⟨h',e1,e2,e3⟩:=zKU l hz1
  rw [e1]
  split at hz
  ·rename_i z hc
   cases hz
   exact ⟨h',by simp only [hc],e2,e3⟩
  ·cases hz
 ·cases hz
theorem zow {q:Bool} {fr:List (Nat × AV)}:∀ {τ:Ty} {vs:List AV} {h0 h:List Obj} {x:τ.I} {st':St},zaa h0 h→jF q τ vs ⟨fr,h0⟩ = some (x,st')→∃ h',jF q τ vs ⟨fr,h⟩ = some (x,⟨fr,h'⟩) ∧ st'.fr = fr ∧ zhZ h0 h st'.h h':=by
 intro τ
 induction τ with
 | unit=>intro vs h0 h x st' l hz; cases vs <;> first | (cases hz; exact ⟨h,rfl,rfl,.refl l⟩) | cases hz
 | pair a b _ ihb =>
  intro vs h0 h x st' l hz
  cases vs with
  | nil=>cases hz
  | cons v vs =>
   simp only [jF] at hz ⊢
   split at hz
   ·rename_i y st1 hy
    split at hz
    ·rename_i ys st2 hys
     cases hz
     obtain ⟨h',e1,e2,e3⟩:=zH6 l hy
     obtain ⟨f1,h1⟩:=st1
     cases e2
     obtain ⟨h'',g1,g2,g3⟩:=ihb e3.1 hys
     rw [e1]
     exact ⟨h'',by simp only [g1],g2,e3.trans g3⟩
    ·cases hz
   ·cases hz
 | _=>intro vs h0 h x st' l hz; cases vs <;> cases hz
end
end Go.Ev
end
