import Derived.Test.YtejbgeokcpillaaGreatDoorGte
import Derived.Shelf.Spec.BitsCarry
import Derived.Test.YtejbgeokcpillaaGreatDoorCards
import Derived.Test.YtejbgeokcpillaaGreatDoorTie
import Derived.ProofKit
import Derived.OpenShut
import Derived.Deep.DeepHandedRow
set_option linter.unusedVariables false
set_option linter.unusedSimpArgs false
section
namespace Go.Proofs.YtejbgeokcpillaaGreatDoor
open Go.Ev
theorem zNC (l:List zu):zgk l = zW (fun i=>zmd (l.getD i zK) && (!(l.getD i zK).1 || zW (fun j=>!((l.getD j zK).1 && ((l.getD j zK).2.2.2.2.2.2.2.2.2.1:Int) == (l.getD i zK).2.2.2.2.2.2.2.2.2.1)) 0 (i - 0))) 0 (l.length - 0):=by
  rw [Bool.eq_iff_iff,qL]
  unfold zgk
  have hc:=zMo (zrQ l) []
  simp only [List.length_nil,Nat.zero_add] at hc
  simp only [Bool.and_eq_true,List.all_eq_true,beq_iff_eq,hc,zNB]
  constructor
  · rintro ⟨h1,h2,-⟩ i _ hi
    refine ⟨h1 _ (zV (by omega)),?_⟩
    cases hlive:(l.getD i zK).1 with
    | false=>rfl
    | true =>
      simp only [Bool.not_true,Bool.false_or,qL]
      intro j _ hj
      cases hj1:(l.getD j zK).1 with
      | false=>rfl
      | true =>
        have:=h2 j i (by omega) (by omega) hj1 hlive
        simp only [Bool.true_and,Bool.not_eq_true',beq_eq_false_iff_ne]
        exact this
  · intro h
    refine ⟨fun x hx=>?_,fun i j hij hj h1 h2=>?_,fun x _=>rfl⟩
    · obtain ⟨i,hi,rfl⟩:=List.mem_iff_getElem.1 hx
      have e:l.getD i zK = l[i]:=by simp [List.getD,hi]
      rw [← e]
      exact (h i (by omega) (by omega)).1
    · have:=(h j (by omega) (by omega)).2
      rw [h2] at this
      simp only [Bool.not_true,Bool.false_or,qL] at this
      have:=this i (by omega) (by omega)
      rw [h1] at this
      simp only [Bool.true_and,Bool.not_eq_true',beq_eq_false_iff_ne] at this
      exact this
theorem zG8 {l:List zu} (hl:l.length ≤ Go.maxLen) (h:∀ x ∈ l,zh0 x):znv (l,()) = some (zgk l,()):=by
  rw [zF,zNC]
  exact z8 (B:=zc4) (i0:=0) hl (Nat.zero_le _) (fun i=>(l,i)) (fun k i h1 h2=>by
    simp only [zc4]
    rw [ltT h2]
    simp only [zk h2,zG,cond_true]
    rw [zLR (h _ (zV h2)),zLS hl i (by omega)]
    simp only [Option.bind_some,zmd]
    grind) (fun k=>by simp only [zc4]; rw [ltF]; rfl)
structure zop (x:zJ):Prop where
  amount:zgP x.2.2.2.2.2.2.2.1
  price:zgP x.2.2.2.2.2.2.2.2.1
def zh1 (x:zJ):Bool:=(decide (x.1 ≤ M62) && (qn x.2.1 && (qn x.2.2.1 && (qn x.2.2.2.1 && qn x.2.2.2.2.2.2.2.2.2.1)))) && bif (x.2.2.2.2.1:Int) == 3 then ((x.2.2.2.2.2.1:Int) == 0 && (x.2.2.2.2.2.2.1:Int) == 0) && ((x.2.2.2.2.2.2.2.1:Int) == 0 && (x.2.2.2.2.2.2.2.2.1:Int) == 0)
  else ((zlr x.2.2.2.2.1 x.2.2.2.2.2.2.2.1 x.2.2.2.2.2.2.2.2.1).2.1 == 0 && (x.2.2.2.2.2.2.2.2.2.1:Int) == 0) && ((x.2.2.2.2.2.1:Int) != x.2.2.2.2.2.2.1 && (qH x.2.2.2.2.2.1 && qH x.2.2.2.2.2.2.1))
theorem zOP (x:zJ):eqI zA x (x.1,x.2.1,x.2.2.1,x.2.2.2.1,x.2.2.2.2.1,(zd zA).2.2.2.2.2.1,(zd zA).2.2.2.2.2.2.1,(zd zA).2.2.2.2.2.2.2.1,(zd zA).2.2.2.2.2.2.2.2.1,x.2.2.2.2.2.2.2.2.2.1,(zd zA).2.2.2.2.2.2.2.2.2.2) = (((x.2.2.2.2.2.1:Int) == 0 && (x.2.2.2.2.2.2.1:Int) == 0) && ((x.2.2.2.2.2.2.2.1:Int) == 0 && (x.2.2.2.2.2.2.2.2.1:Int) == 0)):=by
  show cond ((x.1:Int) == x.1) (cond ((x.2.1:Int) == x.2.1) (cond ((x.2.2.1:Int) == x.2.2.1) (cond ((x.2.2.2.1:Int) == x.2.2.2.1) (cond ((x.2.2.2.2.1:Int) == x.2.2.2.2.1) (cond ((x.2.2.2.2.2.1:Int) == 0) (cond ((x.2.2.2.2.2.2.1:Int) == 0) (cond ((x.2.2.2.2.2.2.2.1:Int) == 0) (cond ((x.2.2.2.2.2.2.2.2.1:Int) == 0) (cond ((x.2.2.2.2.2.2.2.2.2.1:Int) == x.2.2.2.2.2.2.2.2.2.1) true false) false) false) false) false) false) false) false) false) false = _
  simp only [beq_self_eq_true,cond_true]
  cases ((x.2.2.2.2.2.1:Int) == 0) <;> cases ((x.2.2.2.2.2.2.1:Int) == 0) <;> cases ((x.2.2.2.2.2.2.2.1:Int) == 0) <;> cases ((x.2.2.2.2.2.2.2.2.1:Int) == 0) <;> rfl
theorem zLT {x:zJ} (h:zop x):zmA (x,()) = some (zh1 x,()):=by
  rw [zF]
  simp only [zmA,zzj h.amount h.price,zNy,zbQ,Option.bind_some,zh1]
  rw [zOP x]
  generalize zlr x.2.2.2.2.1 x.2.2.2.2.2.2.2.1 x.2.2.2.2.2.2.2.2.1 = n
  unfold M62
  grind
theorem zLU {x:zJ} (h:zop x):zmy (x,()) = some (zh1 x,()):=by
  rw [zF]
  simp only [zmy,zxJ h.amount h.price,zLQ,Option.bind_some,zh1]
  have hz:(x.2.2.2.2.2.2.2.2.2.1:Int) == 0→qn x.2.2.2.2.2.2.2.2.2.1 = true:=fun h=>by unfold qn; grind
  generalize zlr x.2.2.2.2.1 x.2.2.2.2.2.2.2.1 x.2.2.2.2.2.2.2.2.1 = n
  unfold M62 qH
  grind
def zC4 (a b:zJ):Int:=orV (zlk a.1 b.1) (zlk a.2.1 b.2.1)
theorem zG9 (a b:zJ):zi3 (a,b,()) = some (zC4 a b,()):=by
  simp only [zi3,zvm,zpG,Option.bind_some]
  show Option.bind (zeg ([zlk a.1 b.1,zlk a.2.1 b.2.1],())) _ = _
  rw [zQI]; rfl
theorem zES (a b:zJ):zhx (a,b,()) = some (!decide (zC4 b a ≥ 0),()):=by
  rw [zF]
  simp only [zhx,zC4,orV,zlk]
  grind
def zjF (l:List zJ):Bool:=zW (fun i=>zh1 (l.getD i vT) && (decide (i = 0) || !decide (zC4 (l.getD (i - 1) vT) (l.getD i vT) ≥ 0))) 0 (l.length - 0)
theorem zHa {l:List zJ} (hl:l.length ≤ Go.maxLen) (h:∀ x ∈ l,zop x):znz (l,()) = some (zjF l,()):=by
  rw [zF]
  exact z8 (B:=zc9) (i0:=0) hl (Nat.zero_le _) (fun i=>(l,l,(l.length:Int),i)) (fun k i h1 h2=>by
    simp only [zc9]
    rw [ltT h2,zk h2,zG,zLT (h _ (zV h2))]
    by_cases h0:i = 0
    · subst h0
      simp only [cond_true,Option.bind_some]
      grind
    · rw [zjO (by omega) (by omega),zk (by omega),Int.toNat_natCast,zG9]
      simp only [cond_true,Option.bind_some]
      grind) (fun k=>by simp only [zc9]; rw [ltF]; rfl)
theorem zHb {l:List zJ} (hl:l.length ≤ Go.maxLen) (h:∀ x ∈ l,zop x):znx (l,()) = some (zjF l,()):=by
  rw [zF]
  exact z8 (B:=zc6) (i0:=0) hl (Nat.zero_le _) (fun i=>(l,i)) (fun k i h1 h2=>by
    simp only [zc6]
    rw [ltT h2,zk h2,zG,zLU (h _ (zV h2))]
    by_cases h0:i = 0
    · subst h0
      simp only [cond_true,Option.bind_some]
      grind
    · rw [zjO (by omega) (by omega),zk h2,zk (by omega),Int.toNat_natCast,zES]
      simp only [cond_true,Option.bind_some]
      grind) (fun k=>by simp only [zc6]; rw [ltF]; rfl)
end Go.Proofs.YtejbgeokcpillaaGreatDoor
end
section
namespace Go.Proofs.YtejbgeokcpillaaGreatDoor
open Go.Ev
def zt7 (a:List Int):Prop:=∀ x ∈ a,zgP x
theorem zbR {a:List Int} (h:zt7 a) (i:Nat):zgP (a.getD i 0):=by
  by_cases hi:i < a.length
  · exact h _ (zV hi)
  · rw [List.getD_eq_getElem?_getD,List.getElem?_eq_none (by omega)]
    unfold zgP U64; decide
structure ztj (x:zp):Prop where
  trades:∀ t ∈ x.2.2.2.2.1,zhX t
  purses:∀ a ∈ x.2.2.2.2.2.1,zt7 a
  made:zt7 x.2.2.2.2.2.2.2.1
  spent:zt7 x.2.2.2.2.2.2.2.2.1
structure qJ (s:zb):Prop where
  shelves:∀ x ∈ s.2.1,ztj x
  orders:∀ x ∈ s.2.2.2.1,zh0 x
  entries:∀ x ∈ s.2.2.2.2.1,zop x
def zjY (r:ze) (x:zp) (q:zbm):Bool:=((decide ((x.1.length:Int) = q.1) && decide ((x.2.1.length:Int) = q.2.1)) && (decide ((x.2.2.1.length:Int) = q.2.2.1) && decide ((x.2.2.2.1.length:Int) = q.2.2.2.1))) && (decide ((x.2.2.2.2.1.length:Int) = q.2.2.2.2.1) && (decide (x.2.2.2.2.2.1.length = r.2.2.1.length) && decide (x.2.2.2.2.2.2.1.length = r.2.2.1.length)))
def zhe (r:ze) (s:zb):Bool:=(decide (s.2.1.length = r.1.length) && (decide ((s.2.2.2.1.length:Int) = r.2.2.2.2.2.1) && decide ((s.2.2.2.2.1.length:Int) ≤ r.2.2.2.2.2.2.1))) && ((decide (s.2.2.2.2.2.1.length = r.2.1.length) && decide (s.1 ≤ M62)) && zW (fun i=>zjY r (s.2.1.getD i zf) (r.2.2.2.2.1.getD i qt)) 0 (s.2.1.length - 0))
theorem neI (a b:Int):(a != b) = !decide (a = b):=by
  rw [Bool.eq_iff_iff]; simp
theorem zHc {r:ze} (hr:z9 r) (s:zb):zb8 ((r,s,()),()) = some (qZ r && zhe r s,()):=by
  rw [zF]
  simp only [zb8,zje,znJ r hr,Option.bind_some]
  cases hb:qZ r with
  | false=>rfl
  | true =>
    have ok:=vM hb
    have ok1:=ok.labels
    have ok2:=ok.quotas
    rw [ziQ,ziQ]
    unfold zhe M62
    by_cases hn:s.2.1.length = r.1.length
    · have hloop:zlb K0 ((r.2.2.1.length:Int),s.2.1,(s.2.1.length:Int),0,(r,s,())) = bif zW (fun i=>zjY r (s.2.1.getD i zf) (r.2.2.2.2.1.getD i qt)) 0 (s.2.1.length - 0) then some (true,()) else some (false,()) :=
        z8 (i0:=0) (n:=s.2.1.length) (by unfold Go.maxLen; omega) (Nat.zero_le _) (fun i=>((r.2.2.1.length:Int),s.2.1,(s.2.1.length:Int),i,(r,s,()))) (fun k i h1 h2=>by
          simp only [zgN]
          rw [ltT h2,zk h2,zk (by omega)]
          simp only [zG,neI,cond_true,zjY]
          generalize s.2.1.getD i zf = x
          generalize r.2.2.2.2.1.getD i qt = q
          generalize k _ = kk
          grind (splits:=30)) (fun k=>by simp only [zgN]; rw [ltF]; rfl)
      rw [hloop]
      grind
    · grind
theorem zHd {r:ze} (hb:qZ r = true) (s:zb):ziY (r,s,()) = some (zhe r s,()):=by
  rw [zF]
  simp only [ziY,ziX]
  have ok:=vM hb
  have ok1:=ok.labels
  have ok2:=ok.quotas
  rw [ziQ,ziQ]
  unfold zhe M62
  by_cases hn:s.2.1.length = r.1.length
  · have hloop:zkt K0 (0,r,s) = bif zW (fun i=>zjY r (s.2.1.getD i zf) (r.2.2.2.2.1.getD i qt)) 0 (s.2.1.length - 0) then some (true,()) else some (false,()) :=
      z8 (i0:=0) (n:=s.2.1.length) (by unfold Go.maxLen; omega) (Nat.zero_le _) (fun i=>(i,r,s)) (fun k i h1 h2=>by
        simp only [zgB]
        rw [ltT h2,zk h2,zk (by omega)]
        simp only [zG,neI,cond_true,zjY]
        generalize s.2.1.getD i zf = x
        generalize r.2.2.2.2.1.getD i qt = q
        generalize k _ = kk
        grind (splits:=30)) (fun k=>by simp only [zgB]; rw [ltF]; rfl)
    rw [hloop]
    grind
  · grind
structure zfb (r:ze) (s:zb):Prop where
  shelves:s.2.1.length = r.1.length
  orders:s.2.2.2.1.length ≤ 24
  entries:s.2.2.2.2.1.length ≤ 48
  people:s.2.2.2.2.2.1.length = r.2.1.length
  shelf:∀ x ∈ s.2.1,x.1.length ≤ 12 ∧ x.2.1.length ≤ 12 ∧ x.2.2.1.length ≤ 12 ∧ x.2.2.2.1.length ≤ 12 ∧ x.2.2.2.2.1.length ≤ 12 ∧ x.2.2.2.2.2.1.length = r.2.2.1.length ∧ x.2.2.2.2.2.2.1.length = r.2.2.1.length
theorem zJT:∀ (l:List zbm) (n:Int),zlm n l = true→∀ q ∈ l,ztf q = true
  | [],_,_,q,h=>by cases h
  | a :: l,n,h,q,hq=>by
    simp only [zlm,Bool.and_eq_true] at h
    rcases List.mem_cons.1 hq with rfl | hq
    · exact h.1
    · exact zJT l _ h.2.2 q hq
theorem zfg {r:ze} {s:zb} (hb:qZ r = true) (h:zhe r s = true):zfb r s:=by
  have ok:=vM hb
  simp only [qZ,Bool.and_eq_true] at hb
  obtain ⟨-,-,-,-,h5,h6⟩:=hb
  simp only [zhU,zx4,zT,Bool.and_eq_true,decide_eq_true_eq] at h5 h6
  simp only [zhe,Bool.and_eq_true,decide_eq_true_eq,qL] at h
  obtain ⟨⟨h7,h8,h9⟩,⟨h10,-⟩,h11⟩:=h
  refine ⟨h7,by omega,by omega,h10,fun x hx=>?_⟩
  obtain ⟨i,hi,rfl⟩:=List.mem_iff_getElem.1 hx
  have h12:=h11 i (by omega) (by omega)
  have e:s.2.1.getD i zf = s.2.1[i]:=by simp [List.getD,hi]
  rw [e] at h12
  have hq:=zJT _ _ h5.2.2.2 (r.2.2.2.2.1.getD i qt) (zV (by have:=ok.quotas; omega))
  simp only [ztf,zT,Bool.and_eq_true,decide_eq_true_eq] at hq
  simp only [zjY,Bool.and_eq_true,decide_eq_true_eq] at h12
  omega
def jc (x:zp):Bool:=(x.1.all zlo) && (zCZ x.2.1 && (x.2.2.1.all qb && (x.2.2.2.1.all zlq && x.2.2.2.2.1.all zhY)))
theorem zC5 {x:zp} (h:x.1.length ≤ 12 ∧ x.2.1.length ≤ 12 ∧ x.2.2.1.length ≤ 12 ∧ x.2.2.2.1.length ≤ 12 ∧ x.2.2.2.2.1.length ≤ 12):zgK (x,()) = some (jc x,()):=by
  rw [zF]
  have hm:12 ≤ Go.maxLen:=by unfold Go.maxLen; omega
  simp only [zgK]
  rw [zJF (by omega),zJH (by omega),znK (by omega),zJK (by omega),zG3 (by omega)]
  simp only [Option.bind_some,jc]
  grind
theorem zHe {r:ze} {s:zb} (ok:zhZ r) (sz:zfb r s):zb9 ((r,s,()),()) = some (s.2.1.all jc,()):=by
  rw [zF]
  simp only [zb9]
  have h1:=ok.labels
  have h2:=sz.shelves
  rw [zLu (p:=jc) (by unfold Go.maxLen; omega) fun x hx=>zC5 (by have:=sz.shelf x hx; omega)]
  simp only [Option.bind_some]
def jL (r:ze) (x:Int):Bool:=decide (0 ≤ x ∧ x < (r.2.2.1.length:Int))
def zaH (r:ze) (x:Int):Bool:=decide (0 ≤ x ∧ x < (r.1.length:Int))
theorem zay (r:ze) (s:zb) (x:Int):qX ((r,s,()),x,()) = some (jL r x,()):=by simp only [qX,jL]; grind
theorem zvp (r:ze) (s:zb) (x:Int):zb5 ((r,s,()),x,()) = some (zaH r x,()):=by simp only [zb5,zaH]; grind
theorem zdU (r:ze) (x:Int):jY (r,x,()) = some (jL r x,()):=by simp only [jY,jL]; grind
def zpL (s:zb) (x:qy):Bool:=decide (0 ≤ x.1 ∧ x.1 < (s.2.1.length:Int)) && (decide (0 ≤ x.2.1 ∧ x.2.1 < ((s.2.1.getD x.1.toNat zf).1.length:Int)) && ((s.2.1.getD x.1.toNat zf).1.getD x.2.1.toNat zhs).1)
theorem zvq (s:zb) (x:qy):zfV (s,x,()) = some (zpL s x,()):=by
  rw [zF]
  simp only [zfV,zpL,ix]
  by_cases h1:0 ≤ x.1 ∧ x.1 < (s.2.1.length:Int)
  · rw [ixR h1,ixR h1]
    by_cases h2:0 ≤ x.2.1 ∧ x.2.1 < ((s.2.1.getD x.1.toNat zf).1.length:Int)
    · rw [ixR h2]
      grind
    · grind
  · grind
theorem zvr (s:zb) (x:qy):zf0 (s,x,()) = some (zpL s x,()):=by
  rw [zF]
  simp only [zf0,zpL,ix]
  by_cases h1:0 ≤ x.1 ∧ x.1 < (s.2.1.length:Int)
  · rw [ixR h1,ixR h1]
    by_cases h2:0 ≤ x.2.1 ∧ x.2.1 < ((s.2.1.getD x.1.toNat zf).1.length:Int)
    · rw [ixR h2]
      grind
    · grind
  · grind
def zme (r:ze) (s:zb) (x:zu):Bool:=!x.1 || (zaH r x.2.1 && (jL r x.2.2.1 && decide (x.2.2.2.2.2.2.2.2.2.1 < (s.2.2.2.2.1.length:Int))))
def zmf (r:ze) (s:zb) (x:zJ):Bool:=decide (x.2.1 < (r.2.1.length:Int)) && ((x.2.2.1:Int) == r.2.1.getD x.2.1.toNat 0 && (jL r x.2.2.2.1 && decide (x.1 ≤ s.1)))
def zoq (r:ze) (x:Int):Bool:=x == -1 || jL r x
theorem zND (r:ze) (s:zb) (x:zu):zfE (x,some (r,s,()),()) = some (zme r s x,()):=by
  rw [zF]
  simp only [zfE,zay,zvp,Option.bind_some,zme]
  grind
theorem zNE (r:ze) (s:zb) {x:zJ} (h:zh1 x = true):zbo (x,some (r,s,()),()) = some (zmf r s x,()):=by
  rw [zF]
  simp only [zbo,zay,Option.bind_some,zmf,ix]
  have:0 ≤ x.2.1:=by unfold zh1 qn at h; grind
  by_cases h1:x.2.1 < (r.2.1.length:Int)
  · rw [ixR ⟨this,h1⟩]
    grind
  · grind
theorem zNF (r:ze) (s:zb) (x:Int):vt (x,some (r,s,()),()) = some (zoq r x,()):=by
  rw [zF]
  simp only [vt,zay,Option.bind_some,zoq]
  grind
def zgl (r:ze) (s:zb):Bool:=ziJ r s.2.2.1 && (zgk s.2.2.2.1 && (zjF s.2.2.2.2.1 && (zpL s (zd zv) && (s.2.2.2.1.all (zme r s) && (s.2.2.2.2.1.all (zmf r s) && s.2.2.2.2.2.1.all (zoq r))))))
theorem zxK {l:List zJ} (h:zjF l = true):∀ x ∈ l,zh1 x = true:=by
  intro x hx
  simp only [zjF,qL,Bool.and_eq_true] at h
  obtain ⟨i,hi,rfl⟩:=List.mem_iff_getElem.1 hx
  have e:l.getD i vT = l[i]:=by simp [List.getD,hi]
  rw [← e]
  exact (h i (by omega) (by omega)).1
theorem zLV {l:List zu} (h:zgk l = true):∀ x ∈ l,zmd x = true:=by
  intro x hx
  simp only [zgk,Bool.and_eq_true,List.all_eq_true] at h
  exact h.1 x hx
theorem zET {r:ze} {s:zb} (hr:z9 r) (hb:qZ r = true) (hs:qJ s) (sz:zfb r s):zbg ((r,s,()),()) = some (zgl r s,()):=by
  rw [zF]
  have ok:=vM hb
  have h1:=ok.lines
  have h2:=sz.orders
  have h3:=sz.entries
  have h4:=sz.people
  have hm:48 ≤ Go.maxLen:=by unfold Go.maxLen; omega
  simp only [zbg,zJR hr,hb,Bool.true_and,Option.bind_some]
  unfold zgl
  cases ziJ r s.2.2.1 with
  | false=>rfl
  | true =>
    rw [zJS (by omega) hs.orders,zHa (by omega) hs.entries,zvq]
    simp only [Option.bind_some,cond_true]
    cases zgk s.2.2.2.1 with
    | false=>rfl
    | true =>
      cases he:zjF s.2.2.2.2.1 with
      | false=>rfl
      | true =>
        rw [zLv (p:=zme r s) (by omega) fun x _=>zND r s x,zLw (p:=zmf r s) (by omega) fun x hx=>zNE r s (zxK he x hx),zOH (p:=zoq r) (by omega) fun x _=>zNF r s x]
        simp only [Option.bind_some,cond_true]
        grind
theorem zEU {r:ze} {s:zb} (hr:z9 r) (hb:qZ r = true) (hs:qJ s) (sz:zfb r s):zhP (r,s,()) = some (zgl r s,()):=by
  rw [zF]
  have ok:=vM hb
  have h1:=ok.lines
  have h2:=sz.orders
  have h3:=sz.entries
  have h4:=sz.people
  have hm:48 ≤ Go.maxLen:=by unfold Go.maxLen; omega
  simp only [zhP,zhO,zG7 hr,hb,Bool.true_and,Option.bind_some]
  unfold zgl
  cases ziJ r s.2.2.1 with
  | false=>rfl
  | true =>
    rw [zG8 (by omega) hs.orders,zHb (by omega) hs.entries,zvr]
    simp only [Option.bind_some,cond_true]
    cases ho:zgk s.2.2.2.1 with
    | false=>rfl
    | true =>
      cases he:zjF s.2.2.2.2.1 with
      | false=>rfl
      | true =>
        cases zpL s (zd zv) with
        | false=>rfl
        | true =>
          simp only [cond_true,Bool.true_and]
          have l2:zbF K0 (0,r,s) = bif s.2.2.2.2.2.1.all (zoq r) then some (true,()) else some (false,()) :=
            jF (l:=s.2.2.2.2.2.1) (0:Int) (fun i=>(i,r,s)) (by omega) (fun k i x hi hx _=>by
              simp only [zfN]
              rw [ltT hi]
              simp only [zk hi,zG,hx,zdU,Option.bind_some,cond_true,zoq]
              grind) (fun k=>by simp only [zfN]; rw [ltF]; rfl)
          have l1:zbH K0 (0,r,s) = bif s.2.2.2.2.1.all (zmf r s) then zbF K0 (0,r,s) else some (false,()) :=
            jF (l:=s.2.2.2.2.1) vT (fun i=>(i,r,s)) (by omega) (fun k i x hi hx hmem=>by
              have hok:=zxK he x hmem
              have h0:0 ≤ x.2.1:=by unfold zh1 qn at hok; grind
              simp only [zbG]
              rw [ltT hi]
              simp only [zk hi,zG,hx,zdU,Option.bind_some,cond_true,zmf]
              by_cases h1:x.2.1 < (r.2.1.length:Int)
              · rw [ixR ⟨h0,h1⟩]
                grind
              · grind) (fun k=>by simp only [zbG]; rw [ltF]; rfl)
          have l0:zjD K0 (0,r,s) = bif s.2.2.2.1.all (zme r s) then zbH K0 (0,r,s) else some (false,()) :=
            jF (l:=s.2.2.2.1) zK (fun i=>(i,r,s)) (by omega) (fun k i x hi hx hmem=>by
              have hok:=zLV ho x hmem
              have h0:x.1 = true→0 ≤ x.2.1:=fun h=>by unfold zmd zjE qn at hok; grind
              simp only [zbI]
              rw [ltT hi]
              simp only [zk hi,zG,hx,zdU,Option.bind_some,cond_true,zme,zaH]
              grind) (fun k=>by simp only [zbI]; rw [ltF]; rfl)
          rw [l0,l1,l2]
          grind
end Go.Proofs.YtejbgeokcpillaaGreatDoor
end
section
namespace Go.Proofs.YtejbgeokcpillaaGreatDoor
open Go.Ev
def zik (r:ze) (a b:Int):Bool:=zaH r a && (zaH r b && zEQ (r.1.getD a.toNat ji) (r.1.getD b.toNat ji))
theorem ztk {r:ze} (hr:z9 r) (a:Int) (h:zaH r a = true):zpJ (r.1.getD a.toNat ji):=by
  simp only [zaH,decide_eq_true_eq] at h
  exact hr.labels _ (zV (by omega))
theorem zzk {r:ze} (hr:z9 r) (s:zb) (a b:Int):ziD ((r,s,()),a,b,()) = some (zik r a b,()):=by
  rw [zF]
  simp only [ziD,zvp,Option.bind_some,zik,ix]
  cases ha:zaH r a with
  | false=>rfl
  | true =>
    cases hb:zaH r b with
    | false=>rfl
    | true =>
      rw [zzh (ztk hr a ha) (ztk hr b hb)]
      simp only [zaH,decide_eq_true_eq] at ha hb
      rw [ixR ha,ixR hb]
      simp only [Option.bind_some]
      grind
theorem zrS {r:ze} (hr:z9 r) (a b:Int):zgi (r,a,b,()) = some (zik r a b,()):=by
  rw [zF]
  simp only [zgi,zik,ix]
  cases ha:zaH r a with
  | false=>unfold zaH at ha; grind
  | true =>
    cases hb:zaH r b with
    | false=>unfold zaH at ha hb; grind
    | true =>
      rw [zLI (ztk hr a ha) (ztk hr b hb)]
      simp only [zaH,decide_eq_true_eq] at ha hb
      rw [ixR ha,ixR hb]
      simp only [Option.bind_some]
      grind
def zdE (r:ze) (s:zb) (i:Int) (x:qy):Bool:=zpL s x && zik r x.1 i
theorem zls {r:ze} (hr:z9 r) (s:zb) (i:Int) (x:qy):yd (x,some (r,s,()),some i,()) = some (zdE r s i x,()):=by
  rw [zF]
  simp only [yd,zvq,zzk hr,Option.bind_some,zdE]
  grind
theorem znM {r:ze} (hr:z9 r) (s:zb) (i:Int) (x:qy):zaF (r,s,x,i,()) = some (zdE r s i x,()):=by
  rw [zF]
  simp only [zaF,zvr,zrS hr,Option.bind_some,zdE]
  grind
def zhf (r:ze) (s:zb) (i:Int) (x:qe):Bool:=!x.1 || (zdE r s i x.2.1 && zdE r s i x.2.2.1)
def zhg (r:ze) (s:zb) (i:Int) (x:zh):Bool:=(x.2.2.1:Int) != 2 || zdE r s i x.2.2.2.2.1
def ztl (r:ze) (s:zb) (i:Int) (x:zp):Bool:=x.2.1.all (zhf r s i) && (x.2.2.1.all (zhg r s i) && x.2.2.2.2.2.2.1.all (zdE r s i))
theorem zOQ {r:ze} (hr:z9 r) (s:zb) (i:Int) (x:qe):zgz (x,some (some fun z=>yd (z.1,some (r,s,()),some i,())),()) = some (zhf r s i x,()):=by
  rw [zF]
  simp only [zgz,zls hr,Option.bind_some,zhf]
  grind
theorem zOR {r:ze} (hr:z9 r) (s:zb) (i:Int) (x:zh):zcr (x,some (some fun z=>yd (z.1,some (r,s,()),some i,())),()) = some (zhg r s i x,()):=by
  rw [zF]
  simp only [zcr,zls hr,Option.bind_some,zhg]
  grind
theorem zHf {r:ze} {s:zb} (hr:z9 r) (ok:zhZ r) (sz:zfb r s):zf6 ((r,s,()),()) = some (zW (fun i=>ztl r s (i:Int) (s.2.1.getD i zf)) 0 (s.2.1.length - 0),()):=by
  rw [zF]
  have h1:=ok.labels
  have h2:=sz.shelves
  have h3:=ok.accounts
  exact z8 (B:=zdb) (i0:=0) (n:=s.2.1.length) (by unfold Go.maxLen; omega) (Nat.zero_le _) (fun i=>(s.2.1,(s.2.1.length:Int),i,(r,s,()))) (fun k i _ h=>by
    have hm:12 ≤ Go.maxLen:=by unfold Go.maxLen; omega
    have hz:=sz.shelf _ (zV (d:=zf) h)
    simp only [zdb]
    have hbelow:zns ((r,s,()),(i:Int),()) = some (some fun z=>yd (z.1,some (r,s,()),some (i:Int),()),()):=rfl
    rw [ltT h,zk h,zG,hbelow,Option.bind_some,zNo (p:=zhf r s i) (by omega) fun x _=>zOQ hr s i x,zCT (p:=zhg r s i) (by omega) fun x _=>zOR hr s i x,zOI (p:=zdE r s i) (by omega) fun x _=>zls hr s i x]
    simp only [Option.bind_some,cond_true]
    unfold ztl
    grind) (fun k=>by simp only [zdb]; rw [ltF]; rfl)
theorem zLW {σ ρ:Type} {B:(σ→Option ρ)→σ→Option ρ} {i0 n:Nat} (hn:n ≤ Go.maxLen) (h0:i0 ≤ n) {p:Nat→Bool} {fin bad:Option ρ} (st:Int→σ)
    (hin:∀ k (i:Nat),i0 ≤ i→i < n→B k (st i) = bif p i then k (st (wI (i + 1))) else bad) (hout:∀ k,B k (st n) = fin) (K:Nat) (hK:n - i0 < K):zg B K (st i0) = bif zW p i0 (n - i0) then fin else bad:=by
  have key:∀ (m i fuel:Nat),i0 ≤ i→i + m = n→m < fuel→zg B fuel (st i) = bif zW p i m then fin else bad:=by
    intro m
    induction m with
    | zero =>
      intro i fuel _ h1 h2
      obtain ⟨f,rfl⟩:∃ f,fuel = f + 1:=⟨fuel - 1,by omega⟩
      obtain rfl:i = n:=by omega
      exact hout _
    | succ m ih =>
      intro i fuel h1 h2 h3
      obtain ⟨f,rfl⟩:∃ f,fuel = f + 1:=⟨fuel - 1,by omega⟩
      show B (zg B f) (st i) = _
      rw [hin _ i h1 (by omega),wI,zBp (len:=n) (by omega) hn,show ((i:Int) + 1) = ((i + 1:Nat):Int) by omega,ih (i + 1) f (by omega) (by omega) (by omega)]
      simp only [zW]
      cases p i <;> rfl
  exact key (n - i0) i0 K (Nat.le_refl _) (by omega) hK
def zmg (r:ze) (x:zh):Bool:=(x.2.2.1:Int) != 1 || jL r x.2.2.2.1
def zmh (r:ze) (i:Int) (x:qr):Bool:=!x.1 || (zik r x.2.1 i && (jL r x.2.2.1 && jL r x.2.2.2.1))
def zmi (r:ze) (x:zx):Bool:=!x.1 || (jL r x.2.1 && jL r x.2.2.1)
def zgm (r:ze) (i:Int) (x:zp):Bool:=x.2.2.1.all (zmg r) && (x.2.2.2.1.all (zmh r i) && x.2.2.2.2.1.all (zmi r))
theorem zNG (r:ze) (s:zb) (x:zh):zbp (x,some (r,s,()),()) = some (zmg r x,()):=by
  rw [zF]
  simp only [zbp,zay,Option.bind_some,zmg]
  grind
theorem zNH {r:ze} (hr:z9 r) (s:zb) (i:Int) (x:qr):vv (x,some (r,s,()),some i,()) = some (zmh r i x,()):=by
  rw [zF]
  simp only [vv,zay,zzk hr,Option.bind_some,zmh]
  grind
theorem zNI (r:ze) (s:zb) (x:zx):qM (x,some (r,s,()),()) = some (zmi r x,()):=by
  rw [zF]
  simp only [qM,zay,Option.bind_some,zmi]
  grind
theorem zEV {r:ze} {s:zb} (hr:z9 r) (ok:zhZ r) (sz:zfb r s):zbe ((r,s,()),()) = some (zW (fun i=>zgm r (i:Int) (s.2.1.getD i zf)) 0 s.2.1.length,()):=by
  rw [zF]
  have h1:=ok.labels
  have h2:=sz.shelves
  have hm:12 ≤ Go.maxLen:=by unfold Go.maxLen; omega
  have step:∀ k (i:Nat),i < s.2.1.length→qY k (s.2.1,(s.2.1.length:Int),(i:Int),(r,s,())) = bif zgm r (i:Int) (s.2.1.getD i zf) then k (s.2.1,(s.2.1.length:Int),wI ((i:Int) + 1),(r,s,())) else some (false,()):=fun k i h=>by
    have hz:=sz.shelf _ (zV (d:=zf) h)
    simp only [qY]
    rw [ltT h,zk h,zG,zCT (p:=zmg r) (by omega) fun x _=>zNG r s x,zNp (p:=zmh r i) (by omega) fun x _=>zNH hr s i x,zLx (p:=zmi r) (by omega) fun x _=>zNI r s x]
    simp only [Option.bind_some,cond_true]
    unfold zgm
    grind
  have hend:∀ k,qY k (s.2.1,(s.2.1.length:Int),(s.2.1.length:Int),(r,s,())) = some (true,()):=fun k=>by simp only [qY]; rw [ltF]; rfl
  have first:zbe ((r,s,()),()) = zBq (qY) (qY) K0 (s.2.1,(s.2.1.length:Int),((0:Nat):Int),(r,s,())):=rfl
  have hw:wI (((0:Nat):Int) + 1) = ((1:Nat):Int):=rfl
  obtain ⟨m,hK⟩:=zx2
  have hf:∀ (B0 B1:(vw→Option (Bool × Unit))→vw→Option (Bool × Unit)) (x:vw),zBq B0 B1 K0 x = B0 (zg B1 (m + 7)) x:=fun B0 B1 x=>by rw [hK]; rfl
  have rest:=zLW (B:=qY) (i0:=1) (n:=s.2.1.length) (by unfold Go.maxLen; omega) (by omega) (p:=fun i=>zgm r (i:Int) (s.2.1.getD i zf)) (fun i=>(s.2.1,(s.2.1.length:Int),i,(r,s,()))) (fun k i _ h=>step k i h) hend (m + 7) (by unfold K0 Go.maxLen at hK; omega)
  rw [hf] at first
  rw [first,step _ 0 (by omega),hw]
  refine (congrArg (fun z=>bif zgm r ((0:Nat):Int) (s.2.1.getD 0 zf) then z else some (false,())) rest).trans ?_
  obtain ⟨n,hn⟩:∃ n,s.2.1.length = n + 1:=⟨s.2.1.length - 1,by omega⟩
  rw [hn]
  simp only [zW,Nat.add_sub_cancel]
  cases zgm r ((0:Nat):Int) (s.2.1.getD 0 zf) <;> rfl
theorem zJU {l:List zx} {g:zx × Unit→Option (Bool × Unit)} {p:zx→Bool} (hg:∀ x,g (x,()) = some (p x,())) (z:Int):yb (some (l,some g,()),z,()) = some (decide (0 ≤ z ∧ z < (l.length:Int)) && p (l.getD z.toNat zR),()):=by
  by_cases h:0 ≤ z ∧ z < (l.length:Int)
  · obtain ⟨n,rfl⟩:=Int.eq_ofNat_of_zero_le h.1
    rw [zzi hg (by omega),decide_eq_true h,Bool.true_and,Int.toNat_natCast]
  · rw [decide_eq_false h,Bool.false_and]
    simp only [yb,zxI,Option.bind_some,cond_true]
    grind
theorem zC6 {α:Type} {p:α→Bool} (d:α) (L:List α) (q:Int→Bool):∀ (l:List α) (i:Nat),(∀ j,j < l.length→L.getD (i + j) d = l.getD j d)→(z5 p i l).all q = zW (fun j=>!p (L.getD j d) || q (j:Int)) i l.length
  | [],_,_=>rfl
  | x :: l,i,h=>by
    have ih:=zC6 (p:=p) d L q l (i + 1) fun j hj=>by
      have:=h (j + 1) (by simp; omega)
      rw [show i + 1 + j = i + (j + 1) by omega,this]; rfl
    have h0:L.getD i d = x:=h 0 (by simp)
    simp only [z5,List.length_cons,zW,h0]
    rw [← ih]
    cases p x <;> simp
def zjG (x:zp) (j:Nat) (t:zh):Bool:=(t.2.2.1:Int) != 3 || (decide (0 ≤ t.2.2.2.1 ∧ t.2.2.2.1 < (x.2.2.2.2.1.length:Int)) && ((x.2.2.2.2.1.getD (Int.toNat t.2.2.2.1) zR).1 && ((x.2.2.2.2.1.getD (Int.toNat t.2.2.2.1) zR).2.2.2.1.2.2.1:Int) == (j:Int)))
def zfh (x:zp) (j:Int) (t:zx):Bool:=(decide (t.2.2.2.1.2.2.1 < (x.2.2.1.length:Int)) && decide (t.2.2.2.2.1.2.2.1 < (x.2.2.1.length:Int))) && (decide (t.2.2.2.1.2.2.1 < 0) || (((x.2.2.1.getD (Int.toNat t.2.2.2.1.2.2.1) zj).2.2.1:Int) == 3 && ((x.2.2.1.getD (Int.toNat t.2.2.2.1.2.2.1) zj).2.2.2.1:Int) == j))
def zpM (x:zp):Bool:=zW (fun j=>zjG x j (x.2.2.1.getD j zj)) 0 (x.2.2.1.length - 0) && zW (fun j=>!(x.2.2.2.2.1.getD j zR).1 || zfh x (j:Int) (x.2.2.2.2.1.getD j zR)) 0 x.2.2.2.2.1.length
theorem zrd (x:zx):vX (x,()) = some (x.1,()):=by
  rw [zF]; rfl
theorem zHg {r:ze} {s:zb} (ok:zhZ r) (sz:zfb r s):zf5 ((r,s,()),()) = some (zW (fun i=>zpM (s.2.1.getD i zf)) 0 (s.2.1.length - 0),()):=by
  rw [zF]
  have h1:=ok.labels
  have h2:=sz.shelves
  have hm:12 ≤ Go.maxLen:=by unfold Go.maxLen; omega
  have hlm:12 ≤ lim:=by unfold lim; omega
  have l2:∀ k0 (i:Nat) (x:zp),x.2.2.2.2.1.length ≤ 12→zcZ K0 k0 (s.2.1,(s.2.1.length:Int),(i:Int),z5 (fun t:zx=>t.1) 0 x.2.2.2.2.1,((z5 (fun t:zx=>t.1) 0 x.2.2.2.2.1).length:Int),0,x) = bif zW (fun j=>!(x.2.2.2.2.1.getD j zR).1 || zfh x (j:Int) (x.2.2.2.2.1.getD j zR)) 0 x.2.2.2.2.1.length then k0 (s.2.1,(s.2.1.length:Int),wI ((i:Int) + 1)) else some (false,()):=fun k0 i x hx=>by
    have hsl:=zfS (p:=fun t:zx=>t.1) x.2.2.2.2.1 0
    have hsm:=zoh (p:=fun t:zx=>t.1) x.2.2.2.2.1 0
    have:=jF (B:=fun k2=>zcY k0 k2) (l:=z5 (fun t:zx=>t.1) 0 x.2.2.2.2.1) (0:Int) (p:=fun z=>zfh x z (x.2.2.2.2.1.getD z.toNat zR)) (fin:=k0 (s.2.1,(s.2.1.length:Int),wI ((i:Int) + 1))) (bad:=some (false,())) (fun j=>(s.2.1,(s.2.1.length:Int),(i:Int),z5 (fun t:zx=>t.1) 0 x.2.2.2.2.1,((z5 (fun t:zx=>t.1) 0 x.2.2.2.2.1).length:Int),j,x)) (by omega) (fun k j z hj hz hmem=>by
      obtain ⟨n,rfl,-,hn⟩:=hsm z hmem
      simp only [zcY]
      rw [ltT hj,zk hj,zG,hz,zk (by omega),zk (by omega),Int.toNat_natCast]
      simp only [cond_true,zfh,neI]
      by_cases ha:(x.2.2.2.2.1.getD n zR).2.2.2.1.2.2.1 < (x.2.2.1.length:Int)
      · by_cases hb:0 ≤ (x.2.2.2.2.1.getD n zR).2.2.2.1.2.2.1
        · rw [ixR ⟨hb,ha⟩,ixR ⟨hb,ha⟩]
          grind
        · grind
      · grind) (fun k=>by simp only [zcY]; rw [ltF]; rfl)
    refine this.trans ?_
    rw [zC6 (p:=fun t:zx=>t.1) zR x.2.2.2.2.1 (fun z=>zfh x z (x.2.2.2.2.1.getD z.toNat zR)) x.2.2.2.2.1 0 fun j _=>by rw [Nat.zero_add]]
    simp only [Int.toNat_natCast]
  have l1:∀ k0 (i:Nat) (x:zp),x.2.2.1.length ≤ 12→x.2.2.2.2.1.length ≤ 12→zc0 K0 k0 (some (x.2.2.2.2.1,some vX,()),s.2.1,(s.2.1.length:Int),(i:Int),x.2.2.1,(x.2.2.1.length:Int),0,x) = bif zpM x then k0 (s.2.1,(s.2.1.length:Int),wI ((i:Int) + 1)) else some (false,()):=fun k0 i x hx hx2=>by
    have:=z8 (B:=fun k1=>zav (zcZ K0 k0) k0 k1) (i0:=0) (n:=x.2.2.1.length) (p:=fun j=>zjG x j (x.2.2.1.getD j zj)) (fin:=bif zW (fun j=>!(x.2.2.2.2.1.getD j zR).1 || zfh x (j:Int) (x.2.2.2.2.1.getD j zR)) 0 x.2.2.2.2.1.length then k0 (s.2.1,(s.2.1.length:Int),wI ((i:Int) + 1)) else some (false,())) (bad:=some (false,())) (by omega) (Nat.zero_le _) (fun j=>(some (x.2.2.2.2.1,some vX,()),s.2.1,(s.2.1.length:Int),(i:Int),x.2.2.1,(x.2.2.1.length:Int),j,x)) (fun k j _ hj=>by
      simp only [zav]
      rw [ltT hj,zk hj,zG,zJU zrd]
      simp only [cond_true,Option.bind_some,zjG,neI]
      by_cases ha:0 ≤ (x.2.2.1.getD j zj).2.2.2.1 ∧ (x.2.2.1.getD j zj).2.2.2.1 < (x.2.2.2.2.1.length:Int)
      · rw [ixR ha]
        grind
      · grind) (fun k=>by
      simp only [zav]
      rw [ltF,zvo (by omega) zrd,Option.bind_some]
      exact l2 k0 i x hx2)
    refine this.trans ?_
    unfold zpM
    cases zW (fun j=>zjG x j (x.2.2.1.getD j zj)) 0 (x.2.2.1.length - 0) <;> rfl
  exact z8 (B:=fun k0=>zaw (zc0 K0 k0) k0) (i0:=0) (n:=s.2.1.length) (by omega) (Nat.zero_le _) (fun i=>(s.2.1,(s.2.1.length:Int),i)) (fun k i _ h=>by
    have hz:=sz.shelf _ (zV (d:=zf) h)
    simp only [zaw]
    have hq:yS ((s.2.1.getD i zf).2.2.2.2.1,some vX,()) = some (some ((s.2.1.getD i zf).2.2.2.2.1,some vX,()),()):=by
      simp only [yS,znG (show (s.2.1.getD i zf).2.2.2.2.1.length ≤ lim by omega),Option.bind_some]
      rfl
    rw [ltT h,zk h,zG,hq,Option.bind_some]
    exact l1 k i _ (by omega) (by omega)) (fun k=>by simp only [zaw]; rw [ltF]; rfl)
end Go.Proofs.YtejbgeokcpillaaGreatDoor
end
section
namespace Go.Proofs.YtejbgeokcpillaaGreatDoor
open Go.Ev
def zor (r:ze) (s:zb) (i:Int) (x:zp) (j:Nat) (t:zh):Bool:=!t.1 || bif (t.2.2.1:Int) == 1 then jL r t.2.2.2.1 else bif (t.2.2.1:Int) == 2 then zdE r s i t.2.2.2.2.1 else decide (t.2.2.2.1 < (x.2.2.2.2.1.length:Int)) && ((x.2.2.2.2.1.getD (Int.toNat t.2.2.2.1) zR).1 && ((x.2.2.2.2.1.getD (Int.toNat t.2.2.2.1) zR).2.2.2.1.2.2.1:Int) == (j:Int))
theorem zJV {r:ze} (hr:z9 r) {s:zb} {i j:Nat} (hi:i < s.2.1.length) (hj:j < (s.2.1.getD i zf).2.2.1.length) (hok:qb ((s.2.1.getD i zf).2.2.1.getD j zj) = true) :
    zk2 (r,s,(i:Int),(j:Int),()) = some (zor r s i (s.2.1.getD i zf) j ((s.2.1.getD i zf).2.2.1.getD j zj),()):=by
  rw [zF]
  simp only [zk2]
  rw [zk hi,zG,zk hj,Int.toNat_natCast]
  simp only [zdU,znM hr,Option.bind_some,zor]
  generalize s.2.1.getD i zf = x at *
  have ht:(x.2.2.1.getD j zj).1 = true→((x.2.2.1.getD j zj).2.2.1 == (1:Int)) = false→((x.2.2.1.getD j zj).2.2.1 == (2:Int)) = false→0 ≤ (x.2.2.1.getD j zj).2.2.2.1:=fun h1 h2 h3=>by
    unfold qb zfR qn at hok; grind
  generalize x.2.2.1.getD j zj = t at *
  cases h1:t.1 with
  | false=>rfl
  | true =>
    cases h2:(t.2.2.1:Int) == 1 with
    | true=>cases hw:jL r t.2.2.2.1 <;> rfl
    | false =>
      cases h3:(t.2.2.1:Int) == 2 with
      | true=>cases hw:zdE r s i t.2.2.2.2.1 <;> rfl
      | false =>
        have h0:=ht h1 h2 h3
        by_cases h4:t.2.2.2.1 < (x.2.2.2.2.1.length:Int)
        · rw [ixR ⟨h0,h4⟩,ixR ⟨h0,h4⟩]
          grind
        · grind
def zos (r:ze) (x:zp) (j:Nat) (t:zx):Bool:=!t.1 || ((jL r t.2.1 && jL r t.2.2.1) && ((decide (t.2.2.2.1.2.2.1 < (x.2.2.1.length:Int)) && decide (t.2.2.2.2.1.2.2.1 < (x.2.2.1.length:Int))) && (decide (t.2.2.2.1.2.2.1 < 0) || ((x.2.2.1.getD (Int.toNat t.2.2.2.1.2.2.1) zj).1 && (((x.2.2.1.getD (Int.toNat t.2.2.2.1.2.2.1) zj).2.2.1:Int) == 3 && ((x.2.2.1.getD (Int.toNat t.2.2.2.1.2.2.1) zj).2.2.2.1:Int) == (j:Int))))))
theorem zJW (r:ze) (x:zp) {j:Nat} (hj:j < x.2.2.2.2.1.length):zkD (r,x,(j:Int),()) = some (zos r x j (x.2.2.2.2.1.getD j zR),()):=by
  rw [zF]
  simp only [zkD]
  rw [zk hj,zG]
  simp only [zdU,Option.bind_some,zos]
  generalize x.2.2.2.2.1.getD j zR = t
  cases h1:t.1 with
  | false=>rfl
  | true =>
    by_cases ha:t.2.2.2.1.2.2.1 < (x.2.2.1.length:Int)
    · by_cases hb:0 ≤ t.2.2.2.1.2.2.1
      · rw [ixR ⟨hb,ha⟩]
        grind
      · grind
    · grind
def zt8 (r:ze) (s:zb) (i:Int) (x:zp):Bool:=x.2.1.all (zhf r s i) && (zW (fun j=>zor r s i x j (x.2.2.1.getD j zj)) 0 (x.2.2.1.length - 0) && (zW (fun j=>zos r x j (x.2.2.2.2.1.getD j zR)) 0 (x.2.2.2.2.1.length - 0) && (x.2.2.2.1.all (zmh r i) && x.2.2.2.2.2.2.1.all (zdE r s i))))
theorem zEW {r:ze} {s:zb} (hr:z9 r) (ok:zhZ r) (hs:qJ s) (sz:zfb r s) {i:Nat} (hi:i < s.2.1.length):zf9 (r,s,(i:Int),()) = some (jc (s.2.1.getD i zf) && zt8 r s i (s.2.1.getD i zf),()):=by
  rw [zF]
  have hm:12 ≤ Go.maxLen:=by unfold Go.maxLen; omega
  have hz:=sz.shelf _ (zV (d:=zf) hi)
  have hin:=hs.shelves _ (zV (d:=zf) hi)
  have h3:=ok.accounts
  simp only [zf9,zjb]
  have hitem:=fun (j:Nat) (hj:j < (s.2.1.getD i zf).2.2.1.length) (hok:qb ((s.2.1.getD i zf).2.2.1.getD j zj) = true)=>zJV hr hi hj hok
  rw [zk hi,zG]
  generalize s.2.1.getD i zf = x at *
  rw [zGY (by omega),zGZ (by omega),zcc (by omega),zG1 (by omega),zG4 (by omega) hin.trades]
  simp only [Option.bind_some]
  unfold jc
  cases x.1.all zlo with
  | false=>rfl
  | true =>
    cases zCZ x.2.1 with
    | false=>rfl
    | true =>
      cases hit:x.2.2.1.all qb with
      | false=>rfl
      | true =>
        cases x.2.2.2.1.all zlq with
        | false=>rfl
        | true =>
          cases x.2.2.2.2.1.all zhY with
          | false=>rfl
          | true =>
            have l4:zdh K0 ((i:Int),0,r,s,x) = bif x.2.2.2.2.2.2.1.all (zdE r s i) then some (true,()) else some (false,()) :=
              jF (l:=x.2.2.2.2.2.2.1) zzE (fun j=>((i:Int),j,r,s,x)) (by omega) (fun k j y hj hy _=>by
                simp only [zgI]
                rw [ltT hj,zk hj,zG,hy,znM hr]
                simp only [Option.bind_some,cond_true]) (fun k=>by simp only [zgI]; rw [ltF]; rfl)
            have l3:zdj K0 ((i:Int),0,r,s,x) = bif x.2.2.2.1.all (zmh r i) then zdh K0 ((i:Int),0,r,s,x) else some (false,()) :=
              jF (l:=x.2.2.2.1) zaR (fun j=>((i:Int),j,r,s,x)) (by omega) (fun k j y hj hy _=>by
                simp only [zdi]
                rw [ltT hj,zk hj,zG,hy,zrS hr]
                simp only [zdU,Option.bind_some,cond_true,zmh]
                grind) (fun k=>by simp only [zdi]; rw [ltF]; rfl)
            have l2:zdl K0 ((i:Int),0,r,s,x) = bif zW (fun j=>zos r x j (x.2.2.2.2.1.getD j zR)) 0 (x.2.2.2.2.1.length - 0) then zdj K0 ((i:Int),0,r,s,x) else some (false,()) :=
              z8 (i0:=0) (n:=x.2.2.2.2.1.length) (by omega) (Nat.zero_le _) (fun j=>((i:Int),j,r,s,x)) (fun k j _ hj=>by
                simp only [zdk]
                rw [ltT hj,zJW r x hj]
                simp only [Option.bind_some,cond_true]) (fun k=>by simp only [zdk]; rw [ltF]; rfl)
            have l1:zdn K0 ((i:Int),0,r,s,x) = bif zW (fun j=>zor r s i x j (x.2.2.1.getD j zj)) 0 (x.2.2.1.length - 0) then zdl K0 ((i:Int),0,r,s,x) else some (false,()) :=
              z8 (i0:=0) (n:=x.2.2.1.length) (by omega) (Nat.zero_le _) (fun j=>((i:Int),j,r,s,x)) (fun k j _ hj=>by
                simp only [zdm]
                rw [ltT hj,hitem j hj (List.all_eq_true.1 hit _ (zV hj))]
                simp only [Option.bind_some,cond_true]) (fun k=>by simp only [zdm]; rw [ltF]; rfl)
            have l0:zk7 K0 ((i:Int),0,r,s,x) = bif x.2.1.all (zhf r s i) then zdn K0 ((i:Int),0,r,s,x) else some (false,()) :=
              jF (l:=x.2.1) qh (fun j=>((i:Int),j,r,s,x)) (by omega) (fun k j y hj hy _=>by
                simp only [zdo]
                rw [ltT hj,zk hj,zG,hy]
                simp only [znM hr,Option.bind_some,cond_true,zhf]
                grind) (fun k=>by simp only [zdo]; rw [ltF]; rfl)
            simp only [cond_true]
            rw [l0,l1,l2,l3,l4]
            unfold zt8
            grind
def zpN (r:ze) (s:zb) (i:Int) (x:zp):Bool:=ztl r s i x && (zgm r i x && zpM x)
theorem zAE {α:Type} {d:α} {l:List α} {p:α→Bool}:l.all p = true ↔ ∀ j,j < l.length→p (l.getD j d) = true:=by
  rw [List.all_eq_true]
  constructor
  · exact fun h j hj=>h _ (zV hj)
  · intro h x hx
    obtain ⟨i,hi,rfl⟩:=List.mem_iff_getElem.1 hx
    have:=h i hi
    simpa [List.getD,hi] using this
theorem zFC {t:zh} (h:qb t = true) (h1:t.1 = false):t.2.2.1 = 0:=by
  unfold qb at h
  rw [h1,cond_false] at h
  have e:eqI zi t (zd zi) = cond (t.1 == false) (cond (ByteArray.toList t.2.1 == ByteArray.toList (zd zi).2.1) (cond ((t.2.2.1:Int) == 0) (cond ((t.2.2.2.1:Int) == 0) (cond (eqI zv t.2.2.2.2.1 (zd zv)) true false) false) false) false) false:=rfl
  rw [e] at h
  cases hk:(t.2.2.1:Int) == 0 with
  | true=>exact eq_of_beq hk
  | false =>
    rw [hk] at h
    revert h
    cases (t.1 == false) <;> cases (ByteArray.toList t.2.1 == ByteArray.toList (zd zi).2.1) <;> intro h <;> cases h
theorem zC7 {r:ze} {s:zb} {i:Int} {x:zp} {j:Nat} {t:zh} (h:qb t = true):zor r s i x j t = (zhg r s i t && (zmg r t && zjG x j t)):=by
  unfold zor zhg zmg zjG
  cases h1:t.1 with
  | false =>
    have:=zFC h h1
    rw [this]; rfl
  | true =>
    unfold qb zfR qn at h
    rw [h1] at h
    generalize jL r t.2.2.2.1 = a at *
    generalize zdE r s i t.2.2.2.2.1 = b at *
    grind
theorem zNJ {r:ze} {x:zp} (hit:x.2.2.1.all qb = true) {j:Nat} {t:zx}:zos r x j t = (zmi r t && (!t.1 || zfh x (j:Int) t)):=by
  unfold zos zmi zfh
  have hi:0 ≤ t.2.2.2.1.2.2.1→t.2.2.2.1.2.2.1 < (x.2.2.1.length:Int)→((x.2.2.1.getD (Int.toNat t.2.2.2.1.2.2.1) zj).2.2.1 == (3:Int)) = true→(x.2.2.1.getD (Int.toNat t.2.2.2.1.2.2.1) zj).1 = true:=fun h1 h2 h3=>by
    have h4:=List.all_eq_true.1 hit _ (zV (d:=zj) (show (Int.toNat t.2.2.2.1.2.2.1) < x.2.2.1.length by omega))
    cases h5:(x.2.2.1.getD (Int.toNat t.2.2.2.1.2.2.1) zj).1 with
    | true=>rfl
    | false =>
      have:=zFC h4 h5
      rw [this] at h3
      exact absurd h3 (by decide)
  generalize x.2.2.1.getD (Int.toNat t.2.2.2.1.2.2.1) zj = y at *
  cases t.1 with
  | false=>rfl
  | true=>grind
theorem zLX {r:ze} {s:zb} {i:Int} {x:zp} (hit:x.2.2.1.all qb = true):zt8 r s i x = zpN r s i x:=by
  have hi:=List.all_eq_true.1 hit
  rw [Bool.eq_iff_iff]
  unfold zt8 zpN ztl zgm zpM
  simp only [Bool.and_eq_true,qL,@zAE zh zj,@zAE zx zR,zNJ hit]
  constructor
  · rintro ⟨h1,h2,h3,h4,h5⟩
    have h2':∀ j,j < x.2.2.1.length→zhg r s i (x.2.2.1.getD j zj) = true ∧ zmg r (x.2.2.1.getD j zj) = true ∧ zjG x j (x.2.2.1.getD j zj) = true:=fun j hj=>by
      have:=h2 j (Nat.zero_le _) (by omega)
      rw [zC7 (hi _ (zV hj))] at this
      simpa [Bool.and_eq_true] using this
    exact ⟨⟨h1,fun j hj=>(h2' j hj).1,h5⟩,⟨fun j hj=>(h2' j hj).2.1,h4,fun j hj=>(h3 j (Nat.zero_le _) (by omega)).1⟩,fun j _ hj=>(h2' j (by omega)).2.2,fun j _ hj=>(h3 j (Nat.zero_le _) (by omega)).2⟩
  · rintro ⟨⟨h1,h2,h3⟩,⟨h4,h5,h6⟩,h7,h8⟩
    refine ⟨h1,fun j _ hj=>?_,fun j _ hj=>⟨h6 j (by omega),h8 j (by omega) (by omega)⟩,h5,h3⟩
    rw [zC7 (hi _ (zV (by omega))),h2 j (by omega),h4 j (by omega),h7 j (by omega) (by omega)]
    rfl
theorem zHh {r:ze} {s:zb} (hr:z9 r) (ok:zhZ r) (hs:qJ s) (sz:zfb r s) {i:Nat} (hi:i < s.2.1.length):zf9 (r,s,(i:Int),()) = some (jc (s.2.1.getD i zf) && zpN r s i (s.2.1.getD i zf),()):=by
  rw [zEW hr ok hs sz hi]
  cases h:jc (s.2.1.getD i zf) with
  | false=>rfl
  | true =>
    have hit:(s.2.1.getD i zf).2.2.1.all qb = true:=by
      simp only [jc,Bool.and_eq_true] at h
      exact h.2.2.1
    rw [zLX hit]
end Go.Proofs.YtejbgeokcpillaaGreatDoor
end
section
namespace Go.Proofs.YtejbgeokcpillaaGreatDoor
open Go.Ev
def zZ:List Int→Int
  | []=>0
  | x :: l=>x + zZ l
theorem zAF:∀ (l m:List Int),zZ (l ++ m) = zZ l + zZ m
  | [],m=>by simp [zZ]
  | x :: l,m=>by simp only [List.cons_append,zZ,zAF l m]; omega
theorem zt9:∀ {l:List Int},(∀ x ∈ l,0 ≤ x)→0 ≤ zZ l
  | [],_=>Int.le_refl 0
  | x :: l,h=>by
    have h1:=h x (by simp)
    have h2:=zt9 (l:=l) fun y hy=>h y (by simp [hy])
    simp only [zZ]; omega
theorem jh {α:Type} {g:α→Int} {l:List α} (h:∀ x ∈ l,0 ≤ g x):0 ≤ zZ (l.map g):=zt9 fun x hx=>by
  obtain ⟨y,hy,rfl⟩:=List.mem_map.1 hx
  exact h y hy
def zmj (n:Int):Int × Int × Unit:=bif decide (n > M62) then (0,7,()) else (n,0,())
theorem j6 {n:Int} (h:n > M62):zmj n = (0,7,()):=by unfold zmj; rw [decide_eq_true h]; rfl
theorem zaz {n:Int} (h:n ≤ M62):zmj n = (n,0,()):=by unfold zmj; rw [decide_eq_false (by omega)]; rfl
theorem zpO:∀ (l:List Int) (a:Int),a ≤ M62→(∀ x ∈ l,0 ≤ x)→zmb a l = zmj (a + zZ l)
  | [],a,h,_=>by simp only [zmb,zZ,Int.add_zero]; exact (zaz h).symm
  | x :: l,a,h,hp=>by
    have h2:=zt9 (l:=l) fun y hy=>hp y (by simp [hy])
    simp only [zmb,zZ]
    by_cases hb:a + x > M62
    · rw [decide_eq_true hb,j6 (by omega)]; rfl
    · rw [decide_eq_false hb,cond_false,zpO l (a + x) (by omega) fun y hy=>hp y (by simp [hy])]
      congr 1; omega
theorem zrT {α:Type} (p:α→Bool) (g:α→Int):∀ l:List α,zZ ((l.filter p).map g) = zZ (l.map fun x=>bif p x then g x else 0)
  | []=>rfl
  | x :: l=>by
    have ih:=zrT p g l
    rw [zmc]
    simp only [List.map_cons,zZ]
    cases hp:p x with
    | true=>simp only [cond_true,List.map_cons,zZ,ih]
    | false=>simp only [cond_false,ih]; omega
def zm7 (x:zu):Int:=bif (x.2.2.2.1:Int) == 2 then x.2.2.2.2.1 else x.2.2.2.2.2.1
theorem zPD (x:zu):ziS (x,()) = some (zm7 x,()):=by
  simp only [ziS,zm7]; grind
def je (c:Int) (x:zu):Int:=bif x.1 && zm7 x == c then x.2.2.2.2.2.2.2.2.1 else 0
def zmk (l:List zu) (c:Int):Int × Int × Unit:=bif qH c then zmj (zZ (l.map (je c))) else (0,1,())
theorem zNK (l:List zu) (hl:l.length ≤ lim):zoc (l,()) = some (some (l,some zkq,()),()):=by
  simp only [zoc,zjv,zvl hl,Option.bind_some]
  rfl
theorem zJX (x:zu):zkq (x,()) = some (x.1,()):=by
  rw [zF]; rfl
theorem zLY {l:List zu} (hl:l.length ≤ lim) (h:∀ x ∈ l,zh0 x) (c:Int):zmC (l,c,()) = some (zmk l c):=by
  have hl':l.length ≤ Go.maxLen:=by unfold lim at hl; unfold Go.maxLen; omega
  simp only [zmC,zmB,zbQ,Option.bind_some]
  unfold zmk
  cases hc:qH c with
  | false=>rfl
  | true =>
    have hslots:zkW (l,()) = some (z5 (fun x:zu=>x.1) 0 l,()):=by
      simp only [zkW]
      rw [zNK l hl,Option.bind_some,zG5 hl zJX,Option.bind_some]
    simp only [cond_true]
    rw [hslots,Option.bind_some]
    have hsl:=zfS (p:=fun x:zu=>x.1) l 0
    have hsm:=zoh (p:=fun x:zu=>x.1) l 0
    have hloop:=j5 (B:=zf8) (l:=z5 (fun x:zu=>x.1) 0 l) (α:=List Int) (0:Int) (fun i o=>o.length ≤ i ∧ ∀ x ∈ o,0 ≤ x ∧ x < U64) (fun i o=>(l,c,z5 (fun x:zu=>x.1) 0 l,((z5 (fun x:zu=>x.1) 0 l).length:Int),i,o))
      (fun rest o=>some (zmb 0 (o ++ (rest.filter fun z=>zm7 (l.getD z.toNat zK) == c).map fun z=>(l.getD z.toNat zK).2.2.2.2.2.2.2.2.1))) (by omega) (fun k i x rest o hi hI hx hm hr hk=>by
        simp only [zf8]
        obtain ⟨j,rfl,-,hj⟩:=hsm x hm
        rw [ltT hi,zk hi,zG,hx,zk (by omega),zk (by omega),Int.toNat_natCast,zgp,zPD]
        have hxx:=(h (l.getD j zK) (zV (by omega))).held
        simp only [cond_true,zmc,Int.toNat_natCast,Option.bind_some]
        rw [decide_eq_true (by simp; omega)]
        simp only [cond_true]
        cases hq:zm7 (l.getD j zK) == c with
        | false =>
          exact hk o ⟨by omega,hI.2⟩
        | true =>
          simp only [cond_true,List.map_cons,Int.toNat_natCast]
          refine (hk _ ⟨by simp; omega,fun x hx=>?_⟩).trans ?_
          · rcases List.mem_append.1 hx with hx | hx
            · exact hI.2 x hx
            · rcases List.mem_singleton.1 hx with rfl
              exact hxx
          · rw [List.append_assoc]; rfl) (fun k o hI=>by
        simp only [zf8]
        rw [ltF]
        simp only [cond_false]
        rw [zog (by omega) hI.2,List.filter_nil,List.map_nil,List.append_nil]
        rfl) [] ⟨Nat.le_refl _,fun x hx=>by cases hx⟩
    refine hloop.trans ?_
    rw [List.nil_append,znL (q:=fun x:zu=>zm7 x == c) (g:=fun x:zu=>x.2.2.2.2.2.2.2.2.1) zK l l 0 fun j _=>by rw [Nat.zero_add]]
    rw [zpO _ 0 (by unfold M62; omega) fun x hx=>?_,zrT,Int.zero_add]
    · rfl
    · obtain ⟨y,hy,rfl⟩:=List.mem_map.1 hx
      exact (h y (List.mem_filter.1 hy).1).held.1
theorem zjk {x:zu} (h:zh0 x) (c:Int):zgP (je c x):=by
  unfold je
  cases x.1 && zm7 x == c with
  | true=>exact h.held
  | false=>exact (⟨Int.le_refl 0,by unfold U64; decide⟩:zgP 0)
theorem zHi (x:zu) (c:Int):zi0 (x,c,()) = some (je c x,()):=by
  simp only [zi0,je,zm7]; grind
theorem zpP {a b:Int}:zt6 a b = zmj (a + b):=rfl
theorem zJY {l:List zu} (hl:l.length ≤ Go.maxLen) (h:∀ x ∈ l,zh0 x) (c:Int):zkF (l,c,()) = some (zmk l c):=by
  simp only [zkF,zkE]
  unfold zmk
  cases hc:qH c with
  | false=>unfold qH at hc; grind
  | true =>
    have hloop:=j5 (B:=zeG) (l:=l) (α:=Int) zK (fun _ s=>0 ≤ s ∧ s ≤ M62) (fun i s=>(l,c,s,i)) (fun rest s=>some (zmj (s + zZ (rest.map (je c))))) hl (fun k i x rest s hi hI hx hm hr hk=>by
      simp only [zeG]
      have hxx:=zjk (h x hm) c
      have hrest:0 ≤ zZ (rest.map (je c)):=jh fun y hy=>(zjk (h y (by rw [← hr] at hy; exact List.mem_of_mem_drop hy)) c).1
      rw [ltT hi,zk hi,zG,hx,zHi]
      simp only [cond_true,Option.bind_some,List.map_cons,zZ]
      rw [zfa (by unfold M62 at hI; unfold U64; omega) hxx,zpP,Option.bind_some]
      by_cases hb:s + je c x > M62
      · rw [j6 hb,j6 (by omega)]; rfl
      · rw [zaz (by omega)]
        have:=hk (s + je c x) ⟨by have:=hxx.1; omega,by omega⟩
        refine this.trans ?_
        rw [Int.add_assoc]) (fun k s hI=>by
      simp only [zeG]; rw [ltF]
      simp only [cond_false,List.map_nil,zZ,Int.add_zero]
      rw [zaz hI.2]) 0 (by unfold M62; omega)
    refine Eq.trans ?_ (hloop.trans ?_)
    · unfold qH at hc
      grind
    · rw [Int.zero_add]; rfl
def zaY (c:Int) (x:zx):Int:=bif x.1 && (x.2.2.2.1.1:Int) == c then x.2.2.2.1.2.1 else 0
theorem zxL {l:List zx} (h:∀ x ∈ l,zhX x) {c:Int} (hc:qH c = true):zjX l c = zmj (zZ (l.map (zaY c))):=by
  unfold zjX
  rw [hc,cond_true,zpO _ 0 (by unfold M62; omega) fun x hx=>?_,zrT,Int.zero_add]
  · rfl
  · obtain ⟨y,hy,rfl⟩:=List.mem_map.1 hx
    exact (h y (List.mem_filter.1 hy).1).1.1
theorem zHj {x:zx} (h:zhX x) (c:Int):zgP (zaY c x):=by
  unfold zaY
  cases x.1 && (x.2.2.2.1.1:Int) == c with
  | true=>exact h.1
  | false=>exact (⟨Int.le_refl 0,by unfold U64; decide⟩:zgP 0)
def vO (c:Int) (a:List Int):Int:=a.getD c.toNat 0
def zan (c:Int) (x:zp):Int:=zZ (x.2.2.2.2.1.map (zaY c)) + zZ (x.2.2.2.2.2.1.map (vO c))
theorem zua {x:zp} (h:ztj x) (c:Int):0 ≤ zZ (x.2.2.2.2.1.map (zaY c)):=jh fun y hy=>(zHj (h.trades y hy) c).1
theorem zub {x:zp} (h:ztj x) (c:Int):0 ≤ zZ (x.2.2.2.2.2.1.map (vO c)):=jh fun y hy=>(zbR (h.purses y hy) _).1
theorem zjl {x:zp} (h:ztj x) (c:Int):0 ≤ zan c x:=by
  have:=zua h c
  have:=zub h c
  unfold zan; omega
def zre (s:zb) (c:Int):Int × Int × Unit:=bif qH c then zmj (zZ (s.2.2.2.1.map (je c)) + zZ (s.2.1.map (zan c))) else (0,1,())
def wts:List zp→Nat
  | []=>0
  | x :: l=>1 + x.2.2.2.2.2.1.length + wts l
structure zx6 (s:zb):Prop where
  shelves:s.2.1.length ≤ 2000000
  orders:s.2.2.2.1.length ≤ 2000000
  shelf:∀ x ∈ s.2.1,x.2.2.2.2.1.length ≤ 2000000 ∧ x.2.2.2.2.2.1.length ≤ 2000000
  all:wts s.2.1 ≤ 2000000
theorem zPE {l:List zp} {i:Nat} {x:zp} {rest:List zp} (hi:i < l.length) (hx:l.getD i zf = x) (hr:l.drop (i + 1) = rest):wts (l.drop i) = 1 + x.2.2.2.2.2.1.length + wts rest:=by
  rw [jC zf hi,hx,hr]; rfl
theorem zOS {n:Nat}:∀ {l:List zp},(∀ x ∈ l,x.2.2.2.2.2.1.length ≤ n)→wts l ≤ l.length * (n + 1)
  | [],_=>Nat.zero_le _
  | x :: l,h=>by
    have h1:=h x (by simp)
    have h2:=zOS (l:=l) fun y hy=>h y (by simp [hy])
    simp only [wts,List.length_cons,Nat.add_mul]
    omega
theorem zrf {c:Int} (hc:qH c = true):0 ≤ c ∧ c < ((4:Nat):Int):=by
  simp only [qH,decide_eq_true_eq] at hc; omega
theorem zJZ {s:zb} (hs:qJ s) (sh:zx6 s) (c:Int):zk6 (s,c,()) = some (zre s c):=by
  have hlm:10000000 ≤ lim:=by unfold lim; omega
  have hmm:10000000 ≤ Go.maxLen:=by unfold Go.maxLen; omega
  have hsh:=sh.shelves
  have hso:=sh.orders
  simp only [zk6,zk5,zbQ,Option.bind_some]
  rw [zLY (by omega) hs.orders]
  unfold zre zmk
  cases hc:qH c with
  | false=>rfl
  | true =>
    have hcin:=zrf hc
    simp only [cond_true,Option.bind_some]
    have hbook:0 ≤ zZ (s.2.2.2.1.map (je c)):=jh fun y hy=>(zjk (hs.orders y hy) c).1
    have hall:0 ≤ zZ (s.2.1.map (zan c)):=jh fun y hy=>zjl (hs.shelves y hy) c
    have inner:∀ k0 (i:Nat) (x:zp) (o:List Int),x.2.2.2.2.2.1.length ≤ 2000000→o.length ≤ 2000001→ze5 K0 k0 (c,s.2.1,(s.2.1.length:Int),(i:Int),x.2.2.2.2.2.1,(x.2.2.2.2.2.1.length:Int),0,o) = k0 (c,s.2.1,(s.2.1.length:Int),wI ((i:Int) + 1),o ++ x.2.2.2.2.2.1.map (vO c)):=fun k0 i x o hx ho =>
      j5 (B:=fun k1=>ze4 k0 k1) (l:=x.2.2.2.2.2.1) (α:=List Int) (zd (Ty.arr 4 tU)) (fun j o'=>o'.length ≤ 2000001 + j) (fun j o'=>(c,s.2.1,(s.2.1.length:Int),(i:Int),x.2.2.2.2.2.1,(x.2.2.2.2.2.1.length:Int),j,o')) (fun rest o'=>k0 (c,s.2.1,(s.2.1.length:Int),wI ((i:Int) + 1),o' ++ rest.map (vO c))) (by omega) (fun k j a rest o' hj hI ha hm hr hk=>by
        simp only [ze4]
        have h4:((4:Int)) = ((4:Nat):Int):=rfl
        rw [ltT hj,zk hj,Int.toNat_natCast,ha,zgp,decide_eq_true (by simp; omega)]
        simp only [cond_true]
        refine Eq.trans (ixR hcin) ?_
        refine (hk _ (by simp; omega)).trans ?_
        rw [List.append_assoc]; rfl) (fun k o' _=>by
        simp only [ze4]; rw [ltF]
        simp only [cond_false,List.map_nil,List.append_nil]) o ho
    by_cases hb:zZ (s.2.2.2.1.map (je c)) > M62
    · rw [j6 hb,j6 (by omega)]; rfl
    · rw [zaz (by omega)]
      have hloop:=j5 (B:=fun k0=>zbf (ze5 K0 k0) k0) (l:=s.2.1) (α:=List Int) zf (fun i o=>o.length + wts (s.2.1.drop i) ≤ 2000001 ∧ ∀ x ∈ o,0 ≤ x ∧ x < U64) (fun i o=>(c,s.2.1,(s.2.1.length:Int),i,o)) (fun rest o=>some (zmj (zZ o + zZ (rest.map (zan c))))) (by omega) (fun k i x rest o hi hI hx hm hr hk=>by
        simp only [zbf]
        have hin:=hs.shelves x hm
        have hlen:=sh.shelf x hm
        have hw:=zPE hi hx hr
        have hw2:=hI.1
        rw [hw] at hw2
        have h1:=zua hin c
        have h2:=zub hin c
        have ho:0 ≤ zZ o:=zt9 fun y hy=>(hI.2 y hy).1
        have hrest:0 ≤ zZ (rest.map (zan c)):=jh fun y hy=>zjl (hs.shelves y (by rw [← hr] at hy; exact List.mem_of_mem_drop hy)) c
        rw [ltT hi,zk hi,zG,hx,zJP (by omega) hin.trades,zxL hin.trades hc]
        simp only [cond_true,Option.bind_some,List.map_cons,zZ,zan]
        by_cases hb:zZ (x.2.2.2.2.1.map (zaY c)) > M62
        · rw [j6 hb,j6 (by omega)]; rfl
        · rw [zaz (by omega),zgp,inner k i x _ (by omega) (by simp; omega)]
          rw [decide_eq_true (by simp; omega)]
          simp only [bne_self_eq_false,cond_true,cond_false]
          refine (hk _ ⟨by rw [hr]; simp; omega,fun y hy=>?_⟩).trans ?_
          · rcases List.mem_append.1 hy with hy | hy
            · rcases List.mem_append.1 hy with hy | hy
              · exact hI.2 y hy
              · rcases List.mem_singleton.1 hy with rfl
                unfold M62 at hb; unfold U64; omega
            · obtain ⟨a,ha,rfl⟩:=List.mem_map.1 hy
              exact zbR (hin.purses a ha) _
          · rw [zAF,zAF]
            simp only [zZ]
            congr 2; omega) (fun k o hI=>by
        simp only [zbf]
        rw [ltF]
        simp only [cond_false]
        rw [zog (by omega) hI.2,zpO o 0 (by unfold M62; omega) fun y hy=>(hI.2 y hy).1]
        simp only [List.map_nil,zZ,Int.add_zero,Int.zero_add]
        rfl) [zZ (s.2.2.2.1.map (je c))] ⟨by have:=sh.all; simp; omega,fun y hy=>by
          rcases List.mem_singleton.1 hy with rfl
          unfold M62 at hb; unfold U64; omega⟩
      refine hloop.trans ?_
      simp only [zZ,Int.add_zero]
theorem zJ0 {s:zb} (hs:qJ s) (sh:zx6 s) (c:Int):zkO (s,c,()) = some (zre s c):=by
  have hmm:10000000 ≤ Go.maxLen:=by unfold Go.maxLen; omega
  have hsh:=sh.shelves
  have hso:=sh.orders
  simp only [zkO,zkN]
  rw [zJY (by omega) hs.orders]
  unfold zre zmk
  cases hc:qH c with
  | false=>rfl
  | true =>
    have hcin:=zrf hc
    simp only [cond_true,Option.bind_some]
    have hbook:0 ≤ zZ (s.2.2.2.1.map (je c)):=jh fun y hy=>(zjk (hs.orders y hy) c).1
    have hall:0 ≤ zZ (s.2.1.map (zan c)):=jh fun y hy=>zjl (hs.shelves y hy) c
    have inner:∀ k0 (i:Nat) (a:Int),i < s.2.1.length→0 ≤ a ∧ a ≤ M62→zeS K0 k0 (c,a,(i:Int),0,s) = bif decide (a + zZ ((s.2.1.getD i zf).2.2.2.2.2.1.map (vO c)) > M62) then some (0,7,()) else k0 (c,a + zZ ((s.2.1.getD i zf).2.2.2.2.2.1.map (vO c)),wI ((i:Int) + 1),s):=fun k0 i a hi ha=>by
      have hlen:=sh.shelf _ (zV (d:=zf) hi)
      have hin:=hs.shelves _ (zV (d:=zf) hi)
      exact j5 (B:=fun k1=>zeR k0 k1) (l:=(s.2.1.getD i zf).2.2.2.2.2.1) (α:=Int) (zd (Ty.arr 4 tU)) (fun j a=>0 ≤ a ∧ a ≤ M62) (fun j a=>(c,a,(i:Int),j,s)) (fun rest a=>bif decide (a + zZ (rest.map (vO c)) > M62) then some (0,7,()) else k0 (c,a + zZ (rest.map (vO c)),wI ((i:Int) + 1),s)) (by omega) (fun k j y rest a hj hI hy hm hr hk=>by
        have hyy:=zbR (hin.purses y hm) c.toNat
        have hrest:0 ≤ zZ (rest.map (vO c)):=jh fun z hz=>(zbR (hin.purses z (by rw [← hr] at hz; exact List.mem_of_mem_drop hz)) _).1
        simp only [zeR]
        simp only [zk hi,zG]
        rw [ltT hj,zk hj,hy]
        simp only [cond_true,List.map_cons,zZ]
        refine Eq.trans (ixR hcin) ?_
        rw [zfa (by unfold M62 at hI; unfold U64; omega) hyy,zpP,Option.bind_some]
        have hp:vO c y = List.getD y c.toNat 0:=rfl
        rw [hp]
        by_cases hb:a + List.getD y c.toNat 0 > M62
        · rw [j6 hb,decide_eq_true (by omega)]; rfl
        · rw [zaz (by omega)]
          have:=hk (a + List.getD y c.toNat 0) ⟨by have:=hyy.1; omega,by omega⟩
          refine this.trans ?_
          rw [Int.add_assoc]) (fun k a hI=>by
        simp only [zeR]
        simp only [zk hi,zG]
        rw [ltF]
        simp only [cond_false,List.map_nil,zZ,Int.add_zero]
        rw [decide_eq_false (by omega)]; rfl) a ha
    by_cases hb:zZ (s.2.2.2.1.map (je c)) > M62
    · rw [j6 hb,j6 (by omega)]; rfl
    · rw [zaz (by omega)]
      have hloop:=j5 (B:=fun k0=>zbc (zeS K0 k0) k0) (l:=s.2.1) (α:=Int) zf (fun i a=>0 ≤ a ∧ a ≤ M62) (fun i a=>(c,a,i,s)) (fun rest a=>some (zmj (a + zZ (rest.map (zan c))))) (by omega) (fun k i x rest a hi hI hx hm hr hk=>by
        simp only [zbc]
        have hin:=hs.shelves x hm
        have hlen:=sh.shelf x hm
        have h1:=zua hin c
        have h2:=zub hin c
        have hrest:0 ≤ zZ (rest.map (zan c)):=jh fun y hy=>zjl (hs.shelves y (by rw [← hr] at hy; exact List.mem_of_mem_drop hy)) c
        have hinn:=fun a ha=>inner k i a hi ha
        rw [hx] at hinn
        rw [ltT hi,zk hi,zG,hx,zJQ (by omega) hin.trades,zxL hin.trades hc]
        simp only [cond_true,Option.bind_some,List.map_cons,zZ,zan]
        by_cases hb:zZ (x.2.2.2.2.1.map (zaY c)) > M62
        · rw [j6 hb,j6 (by omega)]; rfl
        · rw [zaz (by omega),zfa (by unfold M62 at hI; unfold U64; omega) (by unfold M62 at hb; unfold U64; omega),zpP,Option.bind_some]
          by_cases hb2:a + zZ (x.2.2.2.2.1.map (zaY c)) > M62
          · rw [j6 hb2,j6 (by omega)]; rfl
          · rw [zaz (by omega),hinn _ (by omega)]
            simp only [bne_self_eq_false,cond_false]
            by_cases hb3:a + zZ (x.2.2.2.2.1.map (zaY c)) + zZ (x.2.2.2.2.2.1.map (vO c)) > M62
            · rw [decide_eq_true hb3,j6 (by omega)]; rfl
            · rw [decide_eq_false hb3,cond_false]
              refine (hk _ (by omega)).trans ?_
              congr 2; omega) (fun k a hI=>by
        simp only [zbc]
        rw [ltF]
        simp only [cond_false,List.map_nil,zZ,Int.add_zero]
        rw [zaz hI.2]) (zZ (s.2.2.2.1.map (je c))) (by omega)
      exact hloop
end Go.Proofs.YtejbgeokcpillaaGreatDoor
end
section
namespace Go.Proofs.YtejbgeokcpillaaGreatDoor
open Go.Ev
def zpQ (a b:Int):Int × Int × Unit:=bif decide (a < b) then (0,6,()) else (a - b,0,())
theorem zJ1 {a b:Int} (ha:0 ≤ a ∧ a ≤ M62) (hb:0 ≤ b ∧ b ≤ M62):zkr (a,b,()) = some (zpQ a b):=by
  simp only [zkr,extA,extB,zpQ,cond_false]
  unfold M62 at *
  have h2:b ≤ a→(a - b) % 18446744073709551616 = a - b:=fun h=>by omega
  grind
theorem zHk {a b:Int} (ha:0 ≤ a ∧ a ≤ M62) (hb:0 ≤ b ∧ b ≤ M62):zf1 (a,b,()) = some (zpQ a b):=by
  simp only [zf1,zpQ]
  unfold M62 at *
  by_cases h:b > a
  · grind
  · have hw:wU (a - b) = a - b:=zln (by omega)
    rw [hw]; grind
def zml (f:zp→List Int) (s:zb) (c:Int):Int:=zZ (s.2.1.map fun x=>vO c (f x))
theorem zuc {f:zp→List Int} {s:zb} (h:∀ x ∈ s.2.1,zt7 (f x)) (c:Int):0 ≤ zml f s c:=jh fun y hy=>(zbR (h y hy) _).1
theorem zJ2 {s:zb} (sh:zx6 s) {f:zp→List Int} {g:zp × Unit→Option (List Int × Unit)} (hg:∀ x,g (x,()) = some (f x,())) (h:∀ x ∈ s.2.1,zt7 (f x)) {c:Int} (hc:qH c = true):zhJ (s,c,some g,()) = some (zmj (zml f s c)):=by
  have hlm:10000000 ≤ lim:=by unfold lim; omega
  have hmm:10000000 ≤ Go.maxLen:=by unfold Go.maxLen; omega
  have hsh:=sh.shelves
  have hcin:=zrf hc
  have hloop:=j5 (B:=zbA) (l:=s.2.1) (α:=List Int) zf (fun i o=>o.length ≤ i ∧ ∀ x ∈ o,0 ≤ x ∧ x < U64) (fun i o=>(c,some g,s.2.1,(s.2.1.length:Int),i,o)) (fun rest o=>some (zmb 0 (o ++ rest.map fun x=>vO c (f x)))) (by omega) (fun k i x rest o hi hI hx hm hr hk=>by
    simp only [zbA]
    rw [ltT hi,zk hi,zG,hx]
    simp only [cond_true,Option.bind_some]
    rw [hg]
    simp only [Option.bind_some]
    refine Eq.trans (ixR hcin) ?_
    rw [zgp,decide_eq_true (by simp; omega)]
    simp only [cond_true]
    refine (hk _ ⟨by simp; omega,fun y hy=>?_⟩).trans ?_
    · rcases List.mem_append.1 hy with hy | hy
      · exact hI.2 y hy
      · rcases List.mem_singleton.1 hy with rfl
        exact zbR (h x hm) _
    · rw [List.append_assoc]; rfl) (fun k o hI=>by
    simp only [zbA]
    rw [ltF]
    simp only [cond_false]
    rw [zog (by omega) hI.2,List.map_nil,List.append_nil]
    rfl) [] ⟨Nat.le_refl _,fun x hx=>by cases hx⟩
  refine Eq.trans ?_ (hloop.trans ?_)
  · rfl
  · rw [List.nil_append,zpO _ 0 (by unfold M62; omega) fun y hy=>?_,Int.zero_add]
    · rfl
    · obtain ⟨z,hz,rfl⟩:=List.mem_map.1 hy
      exact (zbR (h z hz) _).1
def zrg (s:zb) (c:Int):Int × Int × Unit:=bif qH c then bif decide (zml (fun x=>x.2.2.2.2.2.2.2.1) s c > M62) then (0,7,()) else bif decide (zml (fun x=>x.2.2.2.2.2.2.2.2.1) s c > M62) then (0,7,()) else zpQ (zml (fun x=>x.2.2.2.2.2.2.2.1) s c) (zml (fun x=>x.2.2.2.2.2.2.2.2.1) s c) else (0,1,())
theorem zJ3 {s:zb} (hs:qJ s) (sh:zx6 s) (c:Int):zkZ (s,c,()) = some (zrg s c):=by
  simp only [zkZ,zbQ,Option.bind_some]
  unfold zrg
  cases hc:qH c with
  | false=>rfl
  | true =>
    have p1:=zuc (f:=fun x=>x.2.2.2.2.2.2.2.1) (fun x hx=>(hs.shelves x hx).made) c
    have p2:=zuc (f:=fun x=>x.2.2.2.2.2.2.2.2.1) (fun x hx=>(hs.shelves x hx).spent) c
    rw [zJ2 sh (f:=fun x=>x.2.2.2.2.2.2.2.1) (g:=zlX) (fun x=>rfl) (fun x hx=>(hs.shelves x hx).made) hc,zJ2 sh (f:=fun x=>x.2.2.2.2.2.2.2.2.1) (g:=zlY) (fun x=>rfl) (fun x hx=>(hs.shelves x hx).spent) hc]
    simp only [cond_true,Option.bind_some]
    generalize zml (fun x=>x.2.2.2.2.2.2.2.1) s c = a at *
    generalize zml (fun x=>x.2.2.2.2.2.2.2.2.1) s c = b at *
    by_cases h1:a > M62
    · rw [j6 h1,decide_eq_true h1]; rfl
    · rw [zaz (by omega),decide_eq_false h1]
      by_cases h2:b > M62
      · rw [j6 h2,decide_eq_true h2]; rfl
      · rw [zaz (by omega),decide_eq_false h2]
        simp only [bne_self_eq_false,cond_false]
        rw [zJ1 (by omega) (by omega)]; rfl
theorem zJ4 {s:zb} (hs:qJ s) (sh:zx6 s) (c:Int):zkJ (s,c,()) = some (zrg s c):=by
  have hmm:10000000 ≤ Go.maxLen:=by unfold Go.maxLen; omega
  have hsh:=sh.shelves
  simp only [zkJ,zkI]
  unfold zrg
  cases hc:qH c with
  | false=>unfold qH at hc; grind
  | true =>
    have hcin:=zrf hc
    have p1:=zuc (f:=fun x=>x.2.2.2.2.2.2.2.1) (fun x hx=>(hs.shelves x hx).made) c
    have p2:=zuc (f:=fun x=>x.2.2.2.2.2.2.2.2.1) (fun x hx=>(hs.shelves x hx).spent) c
    have l1:∀ (a b e:Int),0 ≤ a ∧ a ≤ M62→((e = 0 ∧ 0 ≤ b ∧ b ≤ M62) ∨ e = 7)→zba K0 (c,a,b,e,0,s) = bif e == 0 then (bif decide (b + zml (fun x=>x.2.2.2.2.2.2.2.2.1) s c > M62) then some (0,7,()) else some (zpQ a (b + zml (fun x=>x.2.2.2.2.2.2.2.2.1) s c))) else some (0,7,()):=fun a b e ha he =>
      j5 (B:=zeL) (l:=s.2.1) (α:=Int × Int) zf (fun _ st=>(st.2 = 0 ∧ 0 ≤ st.1 ∧ st.1 ≤ M62) ∨ st.2 = 7) (fun i st=>(c,a,st.1,st.2,i,s)) (fun rest st=>bif st.2 == 0 then (bif decide (st.1 + zZ (rest.map fun x=>vO c x.2.2.2.2.2.2.2.2.1) > M62) then some (0,7,()) else some (zpQ a (st.1 + zZ (rest.map fun x=>vO c x.2.2.2.2.2.2.2.2.1)))) else some (0,7,())) (by omega) (fun k i x rest st hi hI hx hm hr hk=>by
        obtain ⟨b,e⟩:=st
        have hrest:0 ≤ zZ (rest.map fun x:zp=>vO c x.2.2.2.2.2.2.2.2.1):=jh fun y hy=>(zbR (hs.shelves y (by rw [← hr] at hy; exact List.mem_of_mem_drop hy)).spent _).1
        simp only [zeL]
        rw [ltT hi,zk hi,zG,hx]
        rcases hI with ⟨h0,hb⟩ | h7
        · simp only at h0 hb
          subst h0
          have hxx:=zbR (hs.shelves x hm).spent c.toNat
          simp only [beq_self_eq_true,cond_true,List.map_cons,zZ,vO]
          refine Eq.trans (ixR hcin) ?_
          rw [zfa (by unfold M62 at hb; unfold U64; omega) hxx,zpP,Option.bind_some]
          by_cases hh:b + List.getD x.2.2.2.2.2.2.2.2.1 c.toNat 0 > M62
          · rw [j6 hh]
            unfold vO at hrest
            rw [decide_eq_true (by omega)]
            exact hk (0,7) (.inr rfl)
          · rw [zaz (by omega)]
            have:=hk (b + List.getD x.2.2.2.2.2.2.2.2.1 c.toNat 0,0) (.inl ⟨rfl,by have:=hxx.1; show 0 ≤ b + _ ∧ b + _ ≤ M62; omega⟩)
            refine this.trans ?_
            simp only [beq_self_eq_true,cond_true]
            rw [Int.add_assoc]; rfl
        · simp only at h7
          subst h7
          rfl) (fun k st hI=>by
        obtain ⟨b,e⟩:=st
        simp only [zeL]
        rw [ltF]
        rcases hI with ⟨h0,hb⟩ | h7
        · simp only at h0 hb
          subst h0
          simp only [bne_self_eq_false,cond_false,beq_self_eq_true,cond_true,List.map_nil,zZ,Int.add_zero]
          rw [zHk ha hb,decide_eq_false (by omega)]
          rfl
        · simp only at h7
          subst h7
          rfl) (b,e) he
    have l0:=j5 (B:=fun k0=>zbb (zba K0) k0) (l:=s.2.1) (α:=Int × Int) zf (fun _ st=>(st.2 = 0 ∧ 0 ≤ st.1 ∧ st.1 ≤ M62) ∨ (st.2 = 7 ∧ st.1 = 0)) (fun i st=>(c,st.1,0,st.2,i,s)) (fun rest st=>bif st.2 == 0 then (bif decide (st.1 + zZ (rest.map fun x=>vO c x.2.2.2.2.2.2.2.1) > M62) then some (0,7,()) else zba K0 (c,st.1 + zZ (rest.map fun x=>vO c x.2.2.2.2.2.2.2.1),0,0,0,s)) else some (0,7,())) (by omega) (fun k i x rest st hi hI hx hm hr hk=>by
        obtain ⟨a,e⟩:=st
        have hrest:0 ≤ zZ (rest.map fun x:zp=>vO c x.2.2.2.2.2.2.2.1):=jh fun y hy=>(zbR (hs.shelves y (by rw [← hr] at hy; exact List.mem_of_mem_drop hy)).made _).1
        simp only [zbb]
        rw [ltT hi,zk hi,zG,hx]
        rcases hI with ⟨h0,hb⟩ | ⟨h7,ha⟩
        · simp only at h0 hb
          subst h0
          have hxx:=zbR (hs.shelves x hm).made c.toNat
          simp only [beq_self_eq_true,cond_true,List.map_cons,zZ,vO]
          refine Eq.trans (ixR hcin) ?_
          rw [zfa (by unfold M62 at hb; unfold U64; omega) hxx,zpP,Option.bind_some]
          by_cases hh:a + List.getD x.2.2.2.2.2.2.2.1 c.toNat 0 > M62
          · rw [j6 hh]
            unfold vO at hrest
            rw [decide_eq_true (by omega)]
            exact hk (0,7) (.inr ⟨rfl,rfl⟩)
          · rw [zaz (by omega)]
            have:=hk (a + List.getD x.2.2.2.2.2.2.2.1 c.toNat 0,0) (.inl ⟨rfl,by have:=hxx.1; show 0 ≤ a + _ ∧ a + _ ≤ M62; omega⟩)
            refine this.trans ?_
            simp only [beq_self_eq_true,cond_true]
            rw [Int.add_assoc]; rfl
        · simp only at h7 ha
          subst h7
          subst ha
          simp only [cond_true]
          refine (l1 0 0 7 (by unfold M62; omega) (.inr rfl)).trans ?_
          rfl) (fun k st hI=>by
        obtain ⟨a,e⟩:=st
        simp only [zbb]
        rw [ltF]
        rcases hI with ⟨h0,hb⟩ | ⟨h7,ha⟩
        · simp only at h0 hb
          subst h0
          simp only [cond_false,beq_self_eq_true,cond_true,List.map_nil,zZ,Int.add_zero]
          rw [decide_eq_false (by omega)]; rfl
        · simp only at h7 ha
          subst h7
          subst ha
          refine (l1 0 0 7 (by unfold M62; omega) (.inr rfl)).trans ?_
          rfl) (0,0) (.inl ⟨rfl,by show (0:Int) ≤ 0 ∧ (0:Int) ≤ M62; unfold M62; omega⟩)
    refine Eq.trans ?_ (l0.trans ?_)
    · unfold qH at hc; grind
    · simp only [beq_self_eq_true,cond_true]
      have e1:(0:Int) + zZ (s.2.1.map fun x:zp=>vO c x.2.2.2.2.2.2.2.1) = zml (fun x=>x.2.2.2.2.2.2.2.1) s c:=by rw [Int.zero_add]; rfl
      rw [e1]
      by_cases h1:zml (fun x=>x.2.2.2.2.2.2.2.1) s c > M62
      · rw [decide_eq_true h1]; rfl
      · rw [decide_eq_false h1,cond_false,cond_false,l1 _ 0 0 (by omega) (.inl ⟨rfl,by unfold M62; omega⟩),Int.zero_add]
        simp only [beq_self_eq_true,cond_true]
        cases decide (zml (fun x=>x.2.2.2.2.2.2.2.2.1) s c > M62) <;> rfl
end Go.Proofs.YtejbgeokcpillaaGreatDoor
end
section
namespace Go.Proofs.YtejbgeokcpillaaGreatDoor
open Go.Ev
def zmG (r:ze) (s:zb) (c i:Nat):Bool:=!decide (((s.2.1.getD i zf).2.2.2.2.2.2.2.1.getD c 0:Int) > (r.2.2.2.2.1.getD i qt).2.2.2.2.2.1)
def zm8 (s:zb) (c:Int):Bool:=(zre s c).2.1 == 0 && ((zrg s c).2.1 == 0 && (zre s c).1 == (zrg s c).1)
def ql (r:ze) (s:zb):Bool:=qZ r && (zhe r s && (zgl r s && (zW (fun i=>(jc (s.2.1.getD i zf) && zpN r s i (s.2.1.getD i zf)) && zW (fun c=>zmG r s c i) 0 (4 - 0)) 0 (s.2.1.length - 0) && zW (fun c=>zm8 s (c:Int)) 0 (4 - 0))))
theorem zOT {r:ze} {s:zb} (ok:zhZ r) (sz:zfb r s):zx6 s:=by
  have h1:=sz.shelves
  have h2:=ok.labels
  have h3:=ok.accounts
  have h4:=sz.orders
  have h5:=zOS (n:=8) (l:=s.2.1) fun x hx=>by
    have:=sz.shelf x hx
    omega
  refine ⟨by omega,by omega,fun x hx=>?_,by omega⟩
  have:=sz.shelf x hx
  omega
theorem zHl {r:ze} {s:zb} (ok:zhZ r) (hs:qJ s) (sz:zfb r s):zga ((r,s,()),()) = some (zW (fun c=>zW (fun i=>zmG r s c i) 0 (s.2.1.length - 0) && zm8 s (c:Int)) 0 (4 - 0),()):=by
  rw [zF]
  have hmm:1000000 ≤ Go.maxLen:=by unfold Go.maxLen; omega
  have sh:=zOT ok sz
  have hsh:s.2.1.length ≤ 8:=by rw [sz.shelves]; exact ok.labels.2
  have h2:=sz.shelves
  have h3:=ok.quotas
  have inner:∀ k0 (c:Nat),c < 4→zds K0 k0 ((c:Int),(c:Int),s.2.1,(s.2.1.length:Int),0,(r,s,())) = bif zW (fun i=>zmG r s c i) 0 (s.2.1.length - 0) then bif zm8 s (c:Int) then k0 (wI ((c:Int) + 1),(r,s,())) else some (false,()) else some (false,()):=fun k0 c hc =>
    z8 (B:=fun k1=>zdr k0 k1) (i0:=0) (n:=s.2.1.length) (by omega) (Nat.zero_le _) (fun i=>((c:Int),(c:Int),s.2.1,(s.2.1.length:Int),i,(r,s,()))) (fun k i _ hi=>by
      simp only [zdr]
      rw [ltT hi,zk hi,zG,Int.toNat_natCast]
      simp only [cond_true]
      refine Eq.trans (zk (n:=4) hc) ?_
      rw [zk (by omega),zG]
      unfold zmG
      grind) (fun k=>by
      simp only [zdr]
      rw [ltF,zJZ hs sh,zJ3 hs sh]
      simp only [Option.bind_some,cond_false,zm8]
      generalize zre s (c:Int) = h
      generalize zrg s (c:Int) = m
      grind)
  exact z8 (B:=fun k0=>zdt (zds K0 k0) k0) (i0:=0) (n:=4) (by omega) (Nat.zero_le _) (fun c=>(c,(r,s,()))) (fun k c _ hc=>by
    simp only [zdt]
    rw [decide_eq_true (by omega),cond_true]
    refine (inner k c hc).trans ?_
    cases zW (fun i=>zmG r s c i) 0 (s.2.1.length - 0) <;> rfl) (fun k=>rfl)
theorem zHm {r:ze} {s:zb} (hr:z9 r) (hs:qJ s):zjd (r,s,()) = some (ql r s,()):=by
  rw [zF]
  have hmm:1000000 ≤ Go.maxLen:=by unfold Go.maxLen; omega
  simp only [zjd,zjc,zvn r hr,Option.bind_some]
  unfold ql
  cases hb:qZ r with
  | false=>rfl
  | true =>
    rw [zHd hb s,Option.bind_some]
    cases hz:zhe r s with
    | false=>rfl
    | true =>
      have ok:=vM hb
      have sz:=zfg hb hz
      have sh:=zOT ok sz
      have hsh:s.2.1.length ≤ 8:=by rw [sz.shelves]; exact ok.labels.2
      have h2:=sz.shelves
      have h3:=ok.quotas
      rw [zEU hr hb hs sz,Option.bind_some]
      cases hp:zgl r s with
      | false=>rfl
      | true =>
        have l2:zdw K0 (0,s) = bif zW (fun c=>zm8 s (c:Int)) 0 (4 - 0) then some (true,()) else some (false,()) :=
          z8 (i0:=0) (n:=4) (by omega) (Nat.zero_le _) (fun c=>(c,s)) (fun k c _ hc=>by
            simp only [zk9]
            rw [decide_eq_true (by omega),zJ0 hs sh,zJ4 hs sh]
            simp only [Option.bind_some,cond_true,zm8]
            generalize zre s (c:Int) = h
            generalize zrg s (c:Int) = m
            grind) (fun k=>rfl)
        have l1:∀ k0 (i:Nat),i < s.2.1.length→zgM K0 k0 ((i:Int),0,r,s) = bif zW (fun c=>zmG r s c i) 0 (4 - 0) then k0 (wI ((i:Int) + 1),r,s) else some (false,()):=fun k0 i hi =>
          z8 (B:=fun k1=>zgL k0 k1) (i0:=0) (n:=4) (by omega) (Nat.zero_le _) (fun c=>((i:Int),c,r,s)) (fun k c _ hc=>by
            simp only [zgL]
            rw [decide_eq_true (by omega),zk hi,zk (by omega),zG,zG,Int.toNat_natCast]
            simp only [cond_true]
            refine Eq.trans (zk (n:=4) hc) ?_
            unfold zmG
            grind) (fun k=>rfl)
        have l0:zla K0 (0,r,s) = bif zW (fun i=>(jc (s.2.1.getD i zf) && zpN r s i (s.2.1.getD i zf)) && zW (fun c=>zmG r s c i) 0 (4 - 0)) 0 (s.2.1.length - 0) then zdw K0 (0,s) else some (false,()) :=
          z8 (i0:=0) (n:=s.2.1.length) (by omega) (Nat.zero_le _) (fun i=>(i,r,s)) (fun k i _ hi=>by
            simp only [zdx]
            rw [ltT hi,zHh hr ok hs sz hi]
            have:=l1 k i hi
            rw [this]
            simp only [Option.bind_some,cond_true]
            generalize (jc (s.2.1.getD i zf) && zpN r s i (s.2.1.getD i zf)) = u
            cases u <;> rfl) (fun k=>by simp only [zdx]; rw [ltF]; rfl)
        simp only [cond_true,Bool.true_and]
        rw [l0,l2]
        grind
def zJ5 (r:ze) (s:zb):Bool:=qZ r && (zhe r s && (s.2.1.all jc && (zgl r s && (zW (fun i=>ztl r s (i:Int) (s.2.1.getD i zf)) 0 (s.2.1.length - 0) && (zW (fun i=>zgm r (i:Int) (s.2.1.getD i zf)) 0 s.2.1.length && (zW (fun i=>zpM (s.2.1.getD i zf)) 0 (s.2.1.length - 0) && zW (fun c=>zW (fun i=>zmG r s c i) 0 (s.2.1.length - 0) && zm8 s (c:Int)) 0 (4 - 0)))))))
theorem zOU (r:ze) (s:zb):zJ5 r s = ql r s:=by
  rw [Bool.eq_iff_iff]
  unfold zJ5 ql zpN
  simp only [Bool.and_eq_true,qL,@zAE zp zf]
  constructor
  · rintro ⟨h1,h2,h3,h4,h5,h6,h7,h8⟩
    exact ⟨h1,h2,h4,fun i hi1 hi=>⟨⟨h3 i (by omega),h5 i hi1 hi,h6 i hi1 (by omega),h7 i hi1 hi⟩,fun c hc1 hc=>(h8 c hc1 hc).1 i hi1 hi⟩,fun c hc1 hc=>(h8 c hc1 hc).2⟩
  · rintro ⟨h1,h2,h4,h5,h6⟩
    exact ⟨h1,h2,fun i hi=>(h5 i (by omega) (by omega)).1.1,h4,fun i h7 h8=>(h5 i h7 h8).1.2.1,fun i h7 h8=>(h5 i h7 (by omega)).1.2.2.1,fun i h7 h8=>(h5 i h7 h8).1.2.2.2,fun c h7 h8=>⟨fun i h9 h10=>(h5 i h9 h10).2 c h7 h8,h6 c h7 h8⟩⟩
theorem zHn {r:ze} {s:zb} (hr:z9 r) (hs:qJ s):zjg (r,s,()) = some (ql r s,()):=by
  rw [← zOU,zF]
  obtain ⟨m,hm⟩:=zx2
  have first:zjg (r,s,()) = zg zgO K0 (true,7,0,[some fun z=>zb8 ((r,s,()),()),some fun z=>zb9 ((r,s,()),()),some fun z=>zbg ((r,s,()),()),some fun z=>zf6 ((r,s,()),()),some fun z=>zbe ((r,s,()),()),some fun z=>zf5 ((r,s,()),()),some fun z=>zga ((r,s,()),())]):=rfl
  have hu:∀ (f1 f2 f3 f4 f5 f6 f7:Option (Bool × Unit)),zg zgO (m + 8) (true,7,0,[some fun z=>f1,some fun z=>f2,some fun z=>f3,some fun z=>f4,some fun z=>f5,some fun z=>f6,some fun z=>f7]) =
    Option.bind f1 fun q=>bif q.1 then Option.bind f2 fun q=>bif q.1 then Option.bind f3 fun q=>bif q.1 then Option.bind f4 fun q=>bif q.1 then Option.bind f5 fun q=>bif q.1 then Option.bind f6 fun q=>bif q.1 then Option.bind f7 fun q=>bif q.1 then some (true,()) else some (false,()) else some (false,()) else some (false,()) else some (false,()) else some (false,()) else some (false,()) else some (false,()):=fun f1 f2 f3 f4 f5 f6 f7=>by kernel_rfl
  rw [first,hm,hu,zHc hr s,Option.bind_some]
  unfold zJ5
  cases hb:qZ r with
  | false=>rfl
  | true =>
    cases hz:zhe r s with
    | false=>rfl
    | true =>
      have ok:=vM hb
      have sz:=zfg hb hz
      rw [zHe ok sz,zET hr hb hs sz,zHf hr ok sz,zEV hr ok sz,zHg ok sz,zHl ok hs sz]
      simp only [Option.bind_some,Bool.true_and,cond_true]
      generalize s.2.1.all jc = c1
      generalize zgl r s = c2
      generalize zW (fun i=>ztl r s (i:Int) (s.2.1.getD i zf)) 0 (s.2.1.length - 0) = c3
      generalize zW (fun i=>zgm r (i:Int) (s.2.1.getD i zf)) 0 s.2.1.length = c4
      generalize zW (fun i=>zpM (s.2.1.getD i zf)) 0 (s.2.1.length - 0) = c5
      generalize zW (fun c=>zW (fun i=>zmG r s c i) 0 (s.2.1.length - 0) && zm8 s (c:Int)) 0 (4 - 0) = c6
      cases c1 <;> cases c2 <;> cases c3 <;> cases c4 <;> cases c5 <;> cases c6 <;> rfl
def qE (r:ze) (x:pMe):Bool:=decide (0 ≤ x.1 ∧ x.1 < (r.2.1.length:Int)) && ((x.2.1:Int) == r.2.1.getD x.1.toNat 0 && jL r x.2.2.1)
theorem zhh {r:ze} {s:zb} (hr:z9 r) (hs:qJ s) (x:pMe):zal (r,s,x,()) = some (ql r s && qE r x,()):=by
  rw [zF]
  simp only [zal,zHn hr hs,Option.bind_some,qE,ix,jL]
  cases ql r s with
  | false=>rfl
  | true =>
    by_cases h:0 ≤ x.1 ∧ x.1 < (r.2.1.length:Int)
    · rw [ixR h]; grind
    · grind
theorem zJ6 (r:ze) (x:pMe):zkK (r,x,()) = some (qE r x,()):=by
  rw [zF]
  simp only [zkK,qE,ix,zdU,Option.bind_some]
  by_cases h:0 ≤ x.1 ∧ x.1 < (r.2.1.length:Int)
  · rw [ixR h]; grind
  · grind
end Go.Proofs.YtejbgeokcpillaaGreatDoor
end
section
namespace Go.Proofs.YtejbgeokcpillaaGreatDoor
open Go.Ev
theorem zC8 {r:ze} (hr:z9 r) (i:Int):zdz (r,i,()) = some (qZ r && zaH r i,()):=by
  rw [zF]
  simp only [zdz,znJ r hr,Option.bind_some]
  cases hb:qZ r with
  | false=>rfl
  | true =>
    have hl:=(vM hb).labels
    have hw:wI ((r.1.length:Int) - 1) = (r.1.length:Int) - 1:=by
      have:=zjO (i:=r.1.length) (by omega) (by unfold Go.maxLen; omega)
      rw [this]; omega
    rw [hw,zfQ]
    simp only [Option.bind_some,cond_true,Bool.true_and,zT,zaH]
    grind
theorem zLZ {r:ze} (hr:z9 r) (hb:qZ r = true) (a b:Int):zmF (r,a,b,()) = some (zik r a b,()):=by
  rw [zF]
  simp only [zmF,zC8 hr,hb,Bool.true_and,Option.bind_some,zik,ix]
  cases ha:zaH r a with
  | false=>rfl
  | true =>
    cases hbb:zaH r b with
    | false=>rfl
    | true =>
      have h1:=ztk hr a ha
      have h2:=ztk hr b hbb
      simp only [zaH,decide_eq_true_eq] at ha hbb
      rw [ixR ha,ixR hbb,zzh h1 h2]
      simp only [Option.bind_some]
      generalize zEQ (r.1.getD a.toNat ji) (r.1.getD b.toNat ji) = u
      cases u <;> rfl
def eqW {α:Type} (p:α→α→Bool) (a b:List α):Bool:=decide (a.length = b.length) && (List.zip a b).all fun q=>p q.1 q.2
theorem yh {α σ:Type} {B:(σ→Option (Bool × Unit))→σ→Option (Bool × Unit)} {a b:List α} (d:α) (p:α→α→Bool) (st:Int→σ) (hl:a.length ≤ Go.maxLen) (hab:a.length = b.length)
    (hin:∀ k (i:Nat),i < a.length→B k (st i) = bif p (a.getD i d) (b.getD i d) then k (st (wI (i + 1))) else some (false,())) {fin:Bool} (hout:∀ k,B k (st a.length) = some (fin,())) :
    zg B K0 (st 0) = some (eqW p a b && fin,()):=by
  have hz:(List.zip a b).length = a.length:=by rw [List.length_zip]; omega
  have hx:∀ i,i < a.length→(List.zip a b).getD i (d,d) = (a.getD i d,b.getD i d):=fun i hi=>zzD a b i hi (by omega)
  have:=jF (B:=B) (l:=List.zip a b) (d,d) (p:=fun q=>p q.1 q.2) (fin:=some (fin,())) (bad:=some (false,())) st (by rw [hz]; exact hl) (fun k i x hi hx' _=>?_) (fun k=>?_)
  · rw [this]
    unfold eqW
    rw [decide_eq_true hab]
    cases (List.zip a b).all fun q=>p q.1 q.2 <;> rfl
  · rw [hz] at hi
    rw [hx i hi] at hx'
    subst hx'
    exact hin k i hi
  · rw [hz]; exact hout k
theorem ztm {α ρ:Type} (a b:List α) (p:α→α→Bool) (x:Option ρ) (y:Option ρ):(bif ((List.length a:Int) != (List.length b:Int)) then y else x) = bif decide (a.length = b.length) then x else y:=by
  rw [ziQ]; cases decide (a.length = b.length) <;> rfl
theorem ztn {α:Type} {p:α→α→Bool} {a b:List α} (h:¬ a.length = b.length):eqW p a b = false:=by unfold eqW; rw [decide_eq_false h]; rfl
theorem za5 {α:Type} {p:α→α→Bool} {a b:List α} {x:Option (Bool × Unit)} (h:a.length = b.length→x = some (eqW p a b,())):(bif ((List.length a:Int) != (List.length b:Int)) then some (false,()) else x) = some (eqW p a b,()):=by
  rw [ztm a b p]
  by_cases hl:a.length = b.length
  · rw [decide_eq_true hl,h hl]; rfl
  · rw [decide_eq_false hl,ztn hl]; rfl
theorem zpR {p:Bool} {ρ:Type} (x y:ρ):(bif !p then y else x) = bif p then x else y:=by cases p <;> rfl
theorem zPF {ρ:Type} (u v:Int) (x y:ρ):(bif u != v then y else x) = bif u == v then x else y:=by
  show (bif !(u == v) then y else x) = _
  exact zpR _ _
theorem zJ7 {a b:List zu} (hl:a.length ≤ Go.maxLen):zoS (a,b,()) = some (eqL zr a b,()):=za5 (p:=eqI zr) fun h=>by
  have:=yh (B:=zet) zK (eqI zr) (fun i=>(a,b,i)) hl h (fun k i hi=>by
    simp only [zet]
    rw [ltT hi,zk hi,zk (by omega),zG,zG,zpR]; rfl) (fin:=true) (fun k=>by simp only [zet]; rw [ltF]; rfl)
  rw [Bool.and_true] at this; exact this
theorem zJ8 {a b:List zJ} (hl:a.length ≤ Go.maxLen):zoU (a,b,()) = some (eqL zA a b,()):=za5 (p:=eqI zA) fun h=>by
  have:=yh (B:=zev) vT (eqI zA) (fun i=>(a,b,i)) hl h (fun k i hi=>by
    simp only [zev]
    rw [ltT hi,zk hi,zk (by omega),zG,zG,zpR]; rfl) (fin:=true) (fun k=>by simp only [zev]; rw [ltF]; rfl)
  rw [Bool.and_true] at this; exact this
theorem zL0 {a b:List qV} (hl:a.length ≤ Go.maxLen):zic (a,b,()) = some (eqL qk a b,()):=za5 (p:=eqI qk) fun h=>by
  have:=yh (B:=yE) zhs (eqI qk) (fun i=>(a,b,i)) hl h (fun k i hi=>by
    simp only [yE]
    rw [ltT hi,zk hi,zk (by omega),zG,zG,zpR]; rfl) (fin:=true) (fun k=>by simp only [yE]; rw [ltF]; rfl)
  rw [Bool.and_true] at this; exact this
theorem zL1 {a b:List qe} (hl:a.length ≤ Go.maxLen):zie (a,b,()) = some (eqL zU a b,()):=za5 (p:=eqI zU) fun h=>by
  have:=yh (B:=yG) qh (eqI zU) (fun i=>(a,b,i)) hl h (fun k i hi=>by
    simp only [yG]
    rw [ltT hi,zk hi,zk (by omega),zG,zG,zpR]; rfl) (fin:=true) (fun k=>by simp only [yG]; rw [ltF]; rfl)
  rw [Bool.and_true] at this; exact this
theorem zJ9 {a b:List zh} (hl:a.length ≤ Go.maxLen):zoW (a,b,()) = some (eqL zi a b,()):=za5 (p:=eqI zi) fun h=>by
  have:=yh (B:=zex) zj (eqI zi) (fun i=>(a,b,i)) hl h (fun k i hi=>by
    simp only [zex]
    rw [ltT hi,zk hi,zk (by omega),zG,zG,zpR]; rfl) (fin:=true) (fun k=>by simp only [zex]; rw [ltF]; rfl)
  rw [Bool.and_true] at this; exact this
theorem zKa {a b:List qr} (hl:a.length ≤ Go.maxLen):zoY (a,b,()) = some (eqL zY a b,()):=za5 (p:=eqI zY) fun h=>by
  have:=yh (B:=zez) zaR (eqI zY) (fun i=>(a,b,i)) hl h (fun k i hi=>by
    simp only [zez]
    rw [ltT hi,zk hi,zk (by omega),zG,zG,zpR]; rfl) (fin:=true) (fun k=>by simp only [zez]; rw [ltF]; rfl)
  rw [Bool.and_true] at this; exact this
theorem zKb {a b:List zx} (hl:a.length ≤ Go.maxLen):zo0 (a,b,()) = some (eqL zz a b,()):=za5 (p:=eqI zz) fun h=>by
  have:=yh (B:=zeB) zR (eqI zz) (fun i=>(a,b,i)) hl h (fun k i hi=>by
    simp only [zeB]
    rw [ltT hi,zk hi,zk (by omega),zG,zG,zpR]; rfl) (fin:=true) (fun k=>by simp only [zeB]; rw [ltF]; rfl)
  rw [Bool.and_true] at this; exact this
structure zKc (x:zp):Prop where
  rooms:x.1.length ≤ Go.maxLen
  exits:x.2.1.length ≤ Go.maxLen
  items:x.2.2.1.length ≤ Go.maxLen
  mails:x.2.2.2.1.length ≤ Go.maxLen
  trades:x.2.2.2.2.1.length ≤ Go.maxLen
  purses:x.2.2.2.2.2.1.length ≤ Go.maxLen
  places:x.2.2.2.2.2.2.1.length ≤ Go.maxLen
structure zQN (s:zb):Prop where
  shelves:s.2.1.length ≤ Go.maxLen
  ranks:s.2.2.1.length ≤ Go.maxLen
  orders:s.2.2.2.1.length ≤ Go.maxLen
  entries:s.2.2.2.2.1.length ≤ Go.maxLen
  seats:s.2.2.2.2.2.1.length ≤ Go.maxLen
  shelf:∀ x ∈ s.2.1,zKc x
  rank:∀ l ∈ s.2.2.1,l.length ≤ Go.maxLen
def zgn (a b:zp):Bool:=eqL qk a.1 b.1 && (eqL zU a.2.1 b.2.1 && (eqL zi a.2.2.1 b.2.2.1 && (eqL zY a.2.2.2.1 b.2.2.2.1 && (eqL zz a.2.2.2.2.1 b.2.2.2.2.1 && (eqL (.arr 4 tU) a.2.2.2.2.2.1 b.2.2.2.2.2.1 && (eqL zv a.2.2.2.2.2.2.1 b.2.2.2.2.2.2.1 && (eqI (.arr 4 tU) a.2.2.2.2.2.2.2.1 b.2.2.2.2.2.2.2.1 && eqI (.arr 4 tU) a.2.2.2.2.2.2.2.2.1 b.2.2.2.2.2.2.2.2.1)))))))
theorem zyu {a b:zp} (h:zKc a):zd5 (a,b,()) = some (zgn a b,()):=by
  rw [zF]
  simp only [zd5,zd4]
  rw [zL0 h.rooms,zL1 h.exits,zJ9 h.items,zKa h.mails,zKb h.trades]
  simp only [Option.bind_some]
  rw [ztm a.2.2.2.2.2.1 b.2.2.2.2.2.1 (eqI (.arr 4 tU)),ztm a.2.2.2.2.2.2.1 b.2.2.2.2.2.2.1 (eqI zv)]
  have key:a.2.2.2.2.2.1.length = b.2.2.2.2.2.1.length→a.2.2.2.2.2.2.1.length = b.2.2.2.2.2.2.1.length→zgv K0 (0,a,b) = some (eqL (.arr 4 tU) a.2.2.2.2.2.1 b.2.2.2.2.2.1 && eqL zv a.2.2.2.2.2.2.1 b.2.2.2.2.2.2.1,()):=fun h1 h2=>by
    have l1:=yh (B:=yJ) zzE (eqI zv) (fun i=>(i,a,b)) h.places h2 (fun k i hi=>by
      simp only [yJ]
      rw [ltT hi,zk hi,zk (by omega),zG,zG,zpR]; rfl) (fin:=true) (fun k=>by simp only [yJ]; rw [ltF]; rfl)
    rw [Bool.and_true] at l1
    exact yh (B:=fun k0=>vf (zb0 K0) k0) (zd (.arr 4 tU)) (eqI (.arr 4 tU)) (fun i=>(i,a,b)) h.purses h1 (fun k i hi=>by
      simp only [vf]
      rw [ltT hi,zk hi,zk (by omega),Int.toNat_natCast,zpR]; rfl) (fun k=>by simp only [vf]; rw [ltF]; exact l1)
  unfold zgn
  by_cases h1:a.2.2.2.2.2.1.length = b.2.2.2.2.2.1.length
  · by_cases h2:a.2.2.2.2.2.2.1.length = b.2.2.2.2.2.2.1.length
    · rw [key h1 h2,decide_eq_true h1,decide_eq_true h2]
      generalize eqL qk a.1 b.1 = c1
      generalize eqL zU a.2.1 b.2.1 = c2
      generalize eqL zi a.2.2.1 b.2.2.1 = c3
      generalize eqL zY a.2.2.2.1 b.2.2.2.1 = c4
      generalize eqL zz a.2.2.2.2.1 b.2.2.2.2.1 = c5
      generalize eqL (.arr 4 tU) a.2.2.2.2.2.1 b.2.2.2.2.2.1 = c6
      generalize eqL zv a.2.2.2.2.2.2.1 b.2.2.2.2.2.2.1 = c7
      generalize eqI (.arr 4 tU) a.2.2.2.2.2.2.2.1 b.2.2.2.2.2.2.2.1 = c8
      generalize eqI (.arr 4 tU) a.2.2.2.2.2.2.2.2.1 b.2.2.2.2.2.2.2.2.1 = c9
      grind
    · have e:eqL zv a.2.2.2.2.2.2.1 b.2.2.2.2.2.2.1 = false:=ztn h2
      rw [decide_eq_false h2,e]
      grind
  · have e:eqL (.arr 4 tU) a.2.2.2.2.2.1 b.2.2.2.2.2.1 = false:=ztn h1
    rw [decide_eq_false h1,e]
    grind
def zHB (a b:zb):Bool:=(a.1:Int) == b.1 && (eqW zgn a.2.1 b.2.1 && (eqW (eqL tI) a.2.2.1 b.2.2.1 && (eqL zr a.2.2.2.1 b.2.2.2.1 && (eqL zA a.2.2.2.2.1 b.2.2.2.2.1 && eqL tI a.2.2.2.2.2.1 b.2.2.2.2.2.1))))
theorem zKd {a b:List (List Int)} (hl:a.length ≤ Go.maxLen) (hr:∀ l ∈ a,l.length ≤ Go.maxLen):zoQ (a,b,()) = some (eqW (eqL tI) a b,()):=za5 (p:=eqL tI) fun h=>by
  have:=yh (B:=fun k0=>za8 (zhy K0 k0) k0) ([]:List Int) (eqL tI) (fun i=>(a,b,i)) hl h (fun k i hi=>by
    simp only [za8]
    rw [ltT hi,zk hi,zk (by omega),Int.toNat_natCast]
    simp only [cond_true]
    rw [ztm (a.getD i []) (b.getD i []) (eqI tI)]
    by_cases hm:(a.getD i []).length = (b.getD i []).length
    · rw [decide_eq_true hm,cond_true]
      have hz:(List.zip (a.getD i []) (b.getD i [])).length = (a.getD i []).length:=by rw [List.length_zip]; omega
      have:=jF (B:=fun k1=>zer k k1) (l:=List.zip (a.getD i []) (b.getD i [])) ((0:Int),(0:Int)) (p:=fun q=>q.1 == q.2) (fin:=k (a,b,wI (i + 1))) (bad:=some (false,())) (fun j=>(a,b,(i:Int),j)) (by rw [hz]; exact hr _ (zV hi)) (fun k1 j x hj hx _=>by
        rw [hz] at hj
        rw [zzD _ _ j hj (by omega)] at hx
        subst hx
        simp only [zer]
        rw [zk hi,zk hi,Int.toNat_natCast,ltT hj,zk hj,zk (by omega),zk (by omega),Int.toNat_natCast]
        simp only [cond_true]
        exact zPF _ _ _ _) (fun k1=>by
        simp only [zer]
        rw [hz,zk hi,Int.toNat_natCast,ltF]; rfl)
      refine Eq.trans this ?_
      unfold eqL
      rw [decide_eq_true hm,Bool.true_and]
      rfl
    · have e:eqL tI (a.getD i []) (b.getD i []) = false:=ztn hm
      rw [decide_eq_false hm,e]; rfl) (fin:=true) (fun k=>by simp only [za8]; rw [ltF]; rfl)
  rw [Bool.and_true] at this; exact this
theorem zKe {a b:zb} (h:zQN a):zeY (a,b,()) = some (zHB a b,()):=by
  rw [zF]
  simp only [zeY,zkV]
  rw [zKd h.ranks h.rank,zJ7 h.orders,zJ8 h.entries]
  simp only [Option.bind_some]
  rw [ztm a.2.1 b.2.1 zgn,ztm a.2.2.2.2.2.1 b.2.2.2.2.2.1 (eqI tI)]
  have key:a.2.1.length = b.2.1.length→a.2.2.2.2.2.1.length = b.2.2.2.2.2.1.length→zl5 K0 (0,a,b) = some (eqW zgn a.2.1 b.2.1 && eqL tI a.2.2.2.2.2.1 b.2.2.2.2.2.1,()):=fun h1 h2=>by
    have l1:=yh (B:=zeX) (0:Int) (eqI tI) (fun i=>(i,a,b)) h.seats h2 (fun k i hi=>by
      simp only [zeX]
      rw [ltT hi,zk hi,zk (by omega),zG,zG]
      simp only [cond_true]
      exact zPF _ _ _ _) (fin:=true) (fun k=>by simp only [zeX]; rw [ltF]; rfl)
    rw [Bool.and_true] at l1
    exact yh (B:=fun k0=>zbd (zhL K0) k0) zf zgn (fun i=>(i,a,b)) h.shelves h1 (fun k i hi=>by
      simp only [zbd]
      rw [ltT hi,zk hi,zk (by omega),zG,zG,zyu (h.shelf _ (zV hi))]; rfl) (fun k=>by simp only [zbd]; rw [ltF]; exact l1)
  unfold zHB
  have e0:(a.1 != b.1) = !(a.1 == b.1):=rfl
  rw [e0]
  by_cases h1:a.2.1.length = b.2.1.length
  · by_cases h2:a.2.2.2.2.2.1.length = b.2.2.2.2.2.1.length
    · rw [key h1 h2,decide_eq_true h1,decide_eq_true h2]
      generalize eqW zgn a.2.1 b.2.1 = c1
      generalize eqW (eqL tI) a.2.2.1 b.2.2.1 = c2
      generalize eqL zr a.2.2.2.1 b.2.2.2.1 = c3
      generalize eqL zA a.2.2.2.2.1 b.2.2.2.2.1 = c4
      generalize eqL tI a.2.2.2.2.2.1 b.2.2.2.2.2.1 = c5
      generalize (a.1 == b.1) = c6
      grind
    · have e:eqL tI a.2.2.2.2.2.1 b.2.2.2.2.2.1 = false:=ztn h2
      rw [decide_eq_false h2,e]
      grind
  · have e:eqW zgn a.2.1 b.2.1 = false:=ztn h1
    rw [decide_eq_false h1,e]
    grind
theorem zPG {r:ze} {l:List (List Int)} (h:ziJ r l = true):l.length = r.2.2.2.1.length ∧ ∀ g,g < r.2.2.2.1.length→(l.getD g []).length = r.2.2.1.length:=by
  simp only [ziJ,Bool.and_eq_true,decide_eq_true_eq,qL] at h
  refine ⟨h.1,fun g hg=>?_⟩
  have:=h.2 g (by omega) (by omega)
  simp only [zti,Bool.and_eq_true,decide_eq_true_eq] at this
  exact this.1
theorem y9 {r:ze} {s:zb} (h:ql r s = true):qZ r = true ∧ zhe r s = true ∧ zgl r s = true:=by
  simp only [ql,Bool.and_eq_true] at h
  exact ⟨h.1,h.2.1,h.2.2.1⟩
theorem ztJ:∀ {τ:Ty},τ.eqIn = true→∀ x:τ.I,eqI τ x x = true:=by
  intro τ
  induction τ with
  | unit=>intro _ _; rfl
  | bool=>intro _ x; exact beq_self_eq_true x
  | int k=>intro _ x; exact beq_self_eq_true (α:=Int) x
  | str=>intro _ x; exact beq_self_eq_true _
  | pair a b iha ihb =>
    intro h x
    simp only [Ty.eqIn,Bool.and_eq_true] at h
    simp only [eqI,iha h.1,ihb h.2,cond_true]
  | st a ih=>intro h x; exact ih h x
  | arr n a ih =>
    intro h x
    simp only [eqI,List.all_eq_true]
    intro p hp
    have:p.1 = p.2:=by
      obtain ⟨i,hi,rfl⟩:=List.mem_iff_getElem.1 hp
      rw [List.getElem_zip]
    rw [this]
    exact ih h _
  | _=>intro h; cases h
theorem zAG {α:Type} {p:α→α→Bool} (h:∀ x,p x x = true) (l:List α):eqW p l l = true:=by
  simp only [eqW,decide_true,Bool.true_and,List.all_eq_true]
  intro q hq
  have:q.1 = q.2:=by
    obtain ⟨i,hi,rfl⟩:=List.mem_iff_getElem.1 hq
    rw [List.getElem_zip]
  rw [this]; exact h _
theorem y3 {τ:Ty} (h:τ.eqIn = true) (l:List τ.I):eqL τ l l = true:=zAG (ztJ h) l
theorem zKf (x:zp):zgn x x = true:=by
  simp only [zgn,Bool.and_eq_true]
  exact ⟨y3 (τ:=qk) rfl _,y3 (τ:=zU) rfl _,y3 (τ:=zi) rfl _,y3 (τ:=zY) rfl _,y3 (τ:=zz) rfl _,y3 (τ:=.arr 4 tU) rfl _,y3 (τ:=zv) rfl _,ztJ (τ:=.arr 4 tU) rfl _,ztJ (τ:=.arr 4 tU) rfl _⟩
theorem zNL (s:zb):zHB s s = true:=by
  simp only [zHB,Bool.and_eq_true]
  exact ⟨beq_self_eq_true (α:=Int) _,zAG zKf _,zAG (y3 (τ:=tI) rfl) _,y3 (τ:=zr) rfl _,y3 (τ:=zA) rfl _,y3 (τ:=tI) rfl _⟩
end Go.Proofs.YtejbgeokcpillaaGreatDoor
end
section
namespace Go.Proofs.YtejbgeokcpillaaGreatDoor
open Go.Ev
structure zxM (x:zp):Prop where
  rooms:x.1.length ≤ 2000000
  exits:x.2.1.length ≤ 2000000
  items:x.2.2.1.length ≤ 2000000
  mails:x.2.2.2.1.length ≤ 2000000
  trades:x.2.2.2.2.1.length ≤ 2000000
  purses:x.2.2.2.2.2.1.length ≤ 2000000
  places:x.2.2.2.2.2.2.1.length ≤ 2000000
structure zgw (s:zb):Prop where
  shelves:s.2.1.length ≤ 2000000
  ranks:s.2.2.1.length ≤ 2000000
  orders:s.2.2.2.1.length ≤ 2000000
  entries:s.2.2.2.2.1.length ≤ 2000000
  seats:s.2.2.2.2.2.1.length ≤ 2000000
  shelf:∀ x ∈ s.2.1,zxM x
  rank:∀ l ∈ s.2.2.1,l.length ≤ 2000000
theorem zKg {α:Type} {l:List α} {i:Nat} {d:α} (h:i < l.length):List.set l i (l.getD i d) = l:=by
  rw [List.getD_eq_getElem?_getD,List.getElem?_eq_getElem h]
  exact List.set_getElem_self h
theorem zjm {s:zb} (h:zgw s):yp (s,()) = some (s,()):=by
  have hlm:2000000 ≤ lim:=by unfold lim; omega
  have hmm:2000000 ≤ Go.maxLen:=by unfold Go.maxLen; omega
  have h1:=h.shelves
  have h2:=h.ranks
  have h3:=h.orders
  have h4:=h.entries
  have h5:=h.seats
  have l1:zcE K0 ((s.2.1.length:Int),0,s.1,0,s.2.1,0,s.2.2.1,s.2.2.1.length,s.2.2.2.1,s.2.2.2.2.1,s.2.2.2.2.2.1,[],0,[],0,[],[],[]) = some (s,()) :=
    vA (α:=Unit) (B:=zcD) (len:=s.2.1.length) (by omega) (fun i _=>((s.2.1.length:Int),i,s.1,0,s.2.1,i.toNat,s.2.2.1,s.2.2.1.length,s.2.2.2.1,s.2.2.2.2.1,s.2.2.2.2.2.1,[],0,[],0,[],[],[])) (fun _ _=>some (s,())) (fun _ _=>True) (fun k i _ hi _ hk=>by
      have hx:=h.shelf _ (zV (d:=zf) hi)
      have e1:=hx.rooms
      have e2:=hx.exits
      have e3:=hx.items
      have e4:=hx.mails
      have e5:=hx.trades
      have e6:=hx.purses
      have e7:=hx.places
      have hk':=hk () trivial
      have hw:wI ((i:Int) + 1) = (i:Int) + 1:=zBp hi (by omega)
      simp only [zcD]
      rw [ltT hi,zk hi,zG]
      simp only [Int.toNat_natCast,Nat.le_refl,decide_true,cond_true]
      rw [zJx (by omega),zJy (by omega),zpF (by omega),zJz (by omega),znG (by omega),zNq (by omega),zLy (by omega)]
      simp only [Option.bind_some]
      rw [zk hi]
      refine Eq.trans ?_ hk'
      have hs:List.set s.2.1 i (s.2.1.getD i zf) = s.2.1:=zKg hi
      have ht:(wI ((i:Int) + 1)).toNat = i + 1:=by rw [hw]; omega
      rw [ht]
      exact congrArg (fun l=>k ((s.2.1.length:Int),wI ((i:Int) + 1),s.1,0,l,i + 1,s.2.2.1,s.2.2.1.length,s.2.2.2.1,s.2.2.2.2.1,s.2.2.2.2.2.1,[],0,[],0,[],[],[])) hs) (fun k _ _=>by
      simp only [zcD]
      rw [ltF]
      simp only [Int.toNat_natCast,decide_true,cond_true,cond_false]) () trivial
  have l0:zkv K0 ((s.2.2.1.length:Int),0,s.1,s.2.1,0,s.2.2.1,0,s.2.2.2.1,s.2.2.2.2.1,s.2.2.2.2.2.1,[],0,[],0,[],[],[]) = some (s,()) :=
    vA (α:=Unit) (B:=fun k0=>zar (zcE K0) k0) (len:=s.2.2.1.length) (by omega) (fun i _=>((s.2.2.1.length:Int),i,s.1,s.2.1,0,s.2.2.1,i.toNat,s.2.2.2.1,s.2.2.2.2.1,s.2.2.2.2.2.1,[],0,[],0,[],[],[])) (fun _ _=>some (s,())) (fun _ _=>True) (fun k i _ hi _ hk=>by
      have hx:=h.rank _ (zV (d:=([]:List Int)) hi)
      have hk':=hk () trivial
      have hw:wI ((i:Int) + 1) = (i:Int) + 1:=zBp hi (by omega)
      simp only [zar]
      rw [ltT hi,zk hi]
      simp only [Int.toNat_natCast,Nat.le_refl,decide_true,cond_true]
      rw [zzf (by omega)]
      simp only [Option.bind_some]
      rw [zk hi]
      refine Eq.trans ?_ hk'
      have hs:List.set s.2.2.1 i (s.2.2.1.getD i []) = s.2.2.1:=zKg hi
      have ht:(wI ((i:Int) + 1)).toNat = i + 1:=by rw [hw]; omega
      rw [ht,hs]) (fun k _ _=>by
      simp only [zar]
      rw [ltF,zGT (by omega)]
      simp only [Int.toNat_natCast,Option.bind_some,cond_false]
      exact l1) () trivial
  simp only [yp,zi1]
  rw [zvl (by omega),zGS (by omega),zzf (by omega),zJw (by omega)]
  simp only [Option.bind_some]
  exact l0
end Go.Proofs.YtejbgeokcpillaaGreatDoor
end
section
namespace Go.Proofs.YtejbgeokcpillaaGreatDoor
open Go.Ev
structure At (s:zb) (i w:Int):Prop where
  hi:0 ≤ i ∧ i < (s.2.1.length:Int)
  hw:0 ≤ w ∧ w < (((ix zf s.2.1 i).2.2.2.2.2.1.length:Nat):Int)
theorem zFD {s:zb} {i:Int} (hi:0 ≤ i ∧ i < (s.2.1.length:Int)):ix zf s.2.1 i ∈ s.2.1:=zV (by omega)
theorem zQZ {r:ze} {s:zb} (h:ql r s = true) {i w:Int} (hi:zaH r i = true) (hw:jL r w = true):At s i w:=by
  obtain ⟨hb,hz,-⟩:=y9 h
  have sz:=zfg hb hz
  have hsl:=sz.shelves
  simp only [zaH,jL,decide_eq_true_eq] at hi hw
  have h1:0 ≤ i ∧ i < (s.2.1.length:Int):=by omega
  have h2:=(sz.shelf _ (zFD h1)).2.2.2.2.2.1
  exact ⟨h1,by omega⟩
theorem zQO {r:ze} (hb:qZ r = true) {x:pMe} (hm:qE r x = true):zaH r x.2.1 = true:=by
  simp only [qZ,zm5,Bool.and_eq_true,decide_eq_true_eq,List.all_eq_true] at hb
  simp only [qE,Bool.and_eq_true,decide_eq_true_eq,beq_iff_eq] at hm
  have:=hb.2.1.2 _ (zV (d:=(0:Int)) (i:=x.1.toNat) (by omega))
  rw [← hm.2.1] at this
  simp only [zaH,decide_eq_true_eq]
  exact this
theorem zQ0 {r:ze} {s:zb} (h:ql r s = true) {x:pMe} (hm:qE r x = true):At s x.2.1 x.2.2.1:=by
  have hw:jL r x.2.2.1 = true:=by
    simp only [qE,Bool.and_eq_true] at hm; exact hm.2.2
  exact zQZ h (zQO (y9 h).1 hm) hw
end Go.Proofs.YtejbgeokcpillaaGreatDoor
end
section
namespace Go.Proofs.YtejbgeokcpillaaGreatDoor
open Go.Ev
theorem bnd {α β:Type} {x:Option α} {a:α} {f:α→Option β} (h:x = some a):Option.bind x f = f a:=by rw [h]; rfl
theorem cT {α:Type} {b:Bool} {x y:α} (h:b = true):cond b x y = x:=by rw [h]; rfl
theorem cF {α:Type} {b:Bool} {x y:α} (h:b = false):cond b x y = y:=by rw [h]; rfl
abbrev upd (s:zb) (i:Int) (h:zp):zb:=u1 s (List.set s.2.1 (Int.toNat i) h)
theorem getD_set_ne {α:Type} {l:List α} {i j:Nat} {x d:α} (h:i ≠ j):(List.set l i x).getD j d = l.getD j d:=by
  rw [List.getD_eq_getElem?_getD,List.getElem?_set_ne h,List.getD_eq_getElem?_getD]
theorem zOV {s:zb} {i:Int} {h:zp} (hl:s.2.1.length ≤ lim) (hi:0 ≤ i ∧ i < (s.2.1.length:Int)):vZ (s,i,h,()) = some (upd s i h,()):=by
  simp only [vZ]
  refine (cT (decide_eq_true (by simpa using hl))).trans ?_
  exact ixR hi
def zMp (x:zp):Bool:=decide (x.1.length ≤ 2000000) && (decide (x.2.1.length ≤ 2000000) && (decide (x.2.2.1.length ≤ 2000000) && (decide (x.2.2.2.1.length ≤ 2000000) && (decide (x.2.2.2.2.1.length ≤ 2000000) && (decide (x.2.2.2.2.2.1.length ≤ 2000000) && decide (x.2.2.2.2.2.2.1.length ≤ 2000000))))))
def zHC (s:zb):Bool:=decide (s.2.1.length ≤ 2000000) && (decide (s.2.2.1.length ≤ 2000000) && (decide (s.2.2.2.1.length ≤ 2000000) && (decide (s.2.2.2.2.1.length ≤ 2000000) && (decide (s.2.2.2.2.2.1.length ≤ 2000000) && (s.2.1.all zMp && s.2.2.1.all fun l=>decide (l.length ≤ 2000000))))))
theorem zPH {s:zb} (h:zHC s = true):zgw s:=by
  simp only [zHC,Bool.and_eq_true,decide_eq_true_eq,List.all_eq_true] at h
  obtain ⟨h1,h2,h3,h4,h5,h6,h7⟩:=h
  refine ⟨h1,h2,h3,h4,h5,fun x hx=>?_,h7⟩
  have:=h6 x hx
  simp only [zMp,Bool.and_eq_true,decide_eq_true_eq] at this
  obtain ⟨a,b,c,d,e,f,g⟩:=this
  exact ⟨a,b,c,d,e,f,g⟩
noncomputable def zOW (x:zb × Unit):Option (zb × Unit):=bif zHC x.1 then some x else yp x
theorem zPI:yp = zOW:=by
  funext ⟨s,u⟩
  cases u
  unfold zOW
  cases h:zHC s with
  | true=>exact zjm (zPH h)
  | false=>rfl
theorem zL2 {x:zp} (h:zxM x):zKc x:=by
  have hm:2000000 ≤ Go.maxLen:=by unfold Go.maxLen; omega
  exact ⟨Nat.le_trans h.rooms hm,Nat.le_trans h.exits hm,Nat.le_trans h.items hm,Nat.le_trans h.mails hm,Nat.le_trans h.trades hm,Nat.le_trans h.purses hm,Nat.le_trans h.places hm⟩
theorem zOX {s:zb} (h:zgw s):zQN s:=by
  have hm:2000000 ≤ Go.maxLen:=by unfold Go.maxLen; omega
  exact ⟨Nat.le_trans h.shelves hm,Nat.le_trans h.ranks hm,Nat.le_trans h.orders hm,Nat.le_trans h.entries hm,Nat.le_trans h.seats hm,fun x hx=>zL2 (h.shelf x hx),fun l hl=>Nat.le_trans (h.rank l hl) hm⟩
theorem zPJ {s:zb} (h:zgw s) {i:Int} {x:zp} (hx:zxM x):zgw (upd s i x):=by
  refine ⟨by show (List.set _ _ _).length ≤ _; rw [List.length_set]; exact h.shelves,h.ranks,h.orders,h.entries,h.seats,fun y hy=>?_,h.rank⟩
  rcases List.mem_or_eq_of_mem_set hy with hy | rfl
  · exact h.shelf y hy
  · exact hx
theorem zEX {s:zb} (h:zgw s) (i:Int):zxM (ix zf s.2.1 i):=by
  by_cases hi:i.toNat < s.2.1.length
  · exact h.shelf _ (zV hi)
  · have e:ix zf s.2.1 i = zf:=by
      show List.getD _ _ _ = _
      rw [List.getD_eq_getElem?_getD,List.getElem?_eq_none (by omega)]; rfl
    rw [e]
    exact ⟨Nat.zero_le _,Nat.zero_le _,Nat.zero_le _,Nat.zero_le _,Nat.zero_le _,Nat.zero_le _,Nat.zero_le _⟩
theorem zAH:zgw (0,[],[],[],[],[],()):=⟨Nat.zero_le _,Nat.zero_le _,Nat.zero_le _,Nat.zero_le _,Nat.zero_le _,fun x hx=>(by cases hx),fun x hx=>(by cases hx)⟩
theorem wf_u64 {x:Int} (h:(Lit.int .u64 x).wf = true):zgP x:=by
  unfold Lit.wf at h
  simp only [Bool.and_eq_true,decide_eq_true_eq] at h
  have e1:IntKind.min .u64 = 0:=by decide
  have e2:IntKind.max .u64 = 18446744073709551615:=by decide
  rw [e1,e2] at h
  exact ⟨h.1,Int.lt_of_le_of_lt h.2 (by decide)⟩
theorem realmIn {r:ze} (h:InR zw r):z9 r:=by
  obtain ⟨hl,h2⟩:=h
  refine ⟨fun a ha=>?_,h2.2.2.1.1,h2.2.2.2.1.1⟩
  have h3:(Lit.int .u64 a.2.1).wf = true:=(hl.2 a ha).2.1
  exact wf_u64 h3
theorem zKh {a:List Int} (h:InR (.arr 4 tU) a):zt7 a:=fun x hx=>wf_u64 (h.2 x hx)
theorem zMq {x:zj8} (h:InR zd0 x):zgP x.2.1:=wf_u64 (show (Lit.int .u64 x.2.1).wf = true from h.2.1)
theorem zQj {x:zp} (h:InR zy x):ztj x:=by
  obtain ⟨-,-,-,-,h5,h6,-,h8,h9,-⟩:=h
  refine ⟨fun t ht=>?_,fun a ha=>zKh (h6.2 a ha),zKh h8,zKh h9⟩
  obtain ⟨-,-,-,g1,g2,-⟩:=h5.2 t ht
  exact ⟨zMq g1,zMq g2⟩
theorem zQk {x:zu} (h:InR zr x):zh0 x:=by
  obtain ⟨-,-,-,-,-,-,h7,h8,h9,-⟩:=h
  exact ⟨wf_u64 h7,wf_u64 h8,wf_u64 h9⟩
theorem zQl {x:zJ} (h:InR zA x):zop x:=by
  obtain ⟨-,-,-,-,-,-,-,h8,h9,-⟩:=h
  exact ⟨wf_u64 h8,wf_u64 h9⟩
theorem stateIn {s:zb} (h:InR zn s):qJ s:=by
  obtain ⟨-,h2,-,h4,h5,-⟩:=h
  exact ⟨fun x hx=>zQj (h2.2 x hx),fun x hx=>zQk (h4.2 x hx),fun x hx=>zQl (h5.2 x hx)⟩
theorem zOY {τ:Ty} (h:∀ x:τ.I,1 ≤ bkI τ x):∀ l:List τ.I,l.length ≤ (l.map (bkI τ)).sum
  | []=>Nat.zero_le _
  | x :: l=>by
    have h1:=zOY h l
    have h2:=h x
    simp only [List.length_cons,List.map_cons,List.sum_cons]; omega
theorem zOZ {τ:Ty} {x:τ.I}:∀ {l:List τ.I},x ∈ l→bkI τ x ≤ (l.map (bkI τ)).sum
  | y :: l,h=>by
    simp only [List.map_cons,List.sum_cons]
    rcases List.mem_cons.1 h with rfl | h
    · omega
    · have:=zOZ h; omega
theorem zh2 {τ:Ty} (h:∀ x:τ.I,1 ≤ bkI τ x) (l:List τ.I):l.length ≤ bkI (.sl τ) l:=Nat.le_succ_of_le (zOY h l)
theorem zPT {τ:Ty} {x:τ.I} {l:List τ.I} (h:x ∈ l):bkI τ x ≤ bkI (.sl τ) l:=Nat.le_succ_of_le (zOZ h)
theorem zO0 (k:IntKind) (x:Int):1 ≤ bkI (.int k) x:=Nat.le_refl 1
theorem zQP {n:Nat} {a:Ty} (x:List a.I):1 ≤ bkI (.arr n a) x:=Nat.le_add_left 1 _
theorem zQQ {a:Ty} (x:List a.I):1 ≤ bkI (.sl a) x:=Nat.le_add_left 1 _
theorem zO1 {x:zp} {n:Nat} (h:bkI zy x ≤ n) (hn:n ≤ 2000000):zxM x:=by
  have e:bkI zy x = (bkI (.sl qk) x.1 + (bkI (.sl zU) x.2.1 + (bkI (.sl zi) x.2.2.1 + (bkI (.sl zY) x.2.2.2.1 + (bkI (.sl zz) x.2.2.2.2.1 + (bkI (.sl (.arr 4 tU)) x.2.2.2.2.2.1 + (bkI (.sl zv) x.2.2.2.2.2.2.1 + (bkI (.arr 4 tU) x.2.2.2.2.2.2.2.1 + (bkI (.arr 4 tU) x.2.2.2.2.2.2.2.2.1 + 0))))))))) + 1:=rfl
  have h1:=zh2 (τ:=qk) (fun y=>Nat.le_add_left 1 _) x.1
  have h2:=zh2 (τ:=zU) (fun y=>Nat.le_add_left 1 _) x.2.1
  have h3:=zh2 (τ:=zi) (fun y=>Nat.le_add_left 1 _) x.2.2.1
  have h4:=zh2 (τ:=zY) (fun y=>Nat.le_add_left 1 _) x.2.2.2.1
  have h5:=zh2 (τ:=zz) (fun y=>Nat.le_add_left 1 _) x.2.2.2.2.1
  have h6:=zh2 (τ:=.arr 4 tU) (fun y=>zQP (n:=4) (a:=tU) y) x.2.2.2.2.2.1
  have h7:=zh2 (τ:=zv) (fun y=>Nat.le_add_left 1 _) x.2.2.2.2.2.2.1
  exact ⟨by omega,by omega,by omega,by omega,by omega,by omega,by omega⟩
theorem zQm {s:zb} {n:Nat} (h:bkI zn s ≤ n) (hn:n ≤ 2000000):zgw s:=by
  have e:bkI zn s = (1 + (bkI (.sl zy) s.2.1 + (bkI (.sl (.sl tI)) s.2.2.1 + (bkI (.sl zr) s.2.2.2.1 + (bkI (.sl zA) s.2.2.2.2.1 + (bkI (.sl tI) s.2.2.2.2.2.1 + 0)))))) + 1:=rfl
  have h1:=zh2 (τ:=zy) (fun y=>Nat.le_add_left 1 _) s.2.1
  have h2:=zh2 (τ:=.sl tI) (fun y=>zQQ (a:=tI) y) s.2.2.1
  have h3:=zh2 (τ:=zr) (fun y=>Nat.le_add_left 1 _) s.2.2.2.1
  have h4:=zh2 (τ:=zA) (fun y=>Nat.le_add_left 1 _) s.2.2.2.2.1
  have h5:=zh2 (τ:=tI) (fun y=>zO0 .i64 y) s.2.2.2.2.2.1
  refine ⟨by omega,by omega,by omega,by omega,by omega,fun x hx=>?_,fun l hl=>?_⟩
  · have:=zPT (τ:=zy) hx
    exact zO1 (n:=n) (by omega) hn
  · have h6:=zPT (τ:=.sl tI) hl
    have h7:=zh2 (τ:=tI) (fun y=>zO0 .i64 y) l
    omega
def zKi:zb:=(0,[],[],[],[],[],())
theorem zlt {n:Nat} (h:n ≤ 2000000):n ≤ lim:=by unfold lim; omega
theorem zhi {n:Nat} (h:n ≤ 2000000):n ≤ Go.maxLen:=by unfold Go.maxLen; omega
theorem zMr {r:ze} {s:zb} (h:ql r s = true):zgw s:=by
  obtain ⟨hb,hz,hp⟩:=y9 h
  have ok:=vM hb
  have sz:=zfg hb hz
  have h1:=ok.labels
  have h2:=ok.lines
  have h3:=ok.accounts
  have h4:=sz.shelves
  have h5:=sz.orders
  have h6:=sz.entries
  have h7:=sz.people
  have h8:=ok.guilds
  have hh:ziJ r s.2.2.1 = true:=by simp only [zgl,Bool.and_eq_true] at hp; exact hp.1
  have hr:=zPG hh
  refine ⟨by omega,by omega,by omega,by omega,by omega,fun x hx=>?_,fun l hl=>?_⟩
  · have:=sz.shelf x hx
    exact ⟨by omega,by omega,by omega,by omega,by omega,by omega,by omega⟩
  · obtain ⟨i,hi,rfl⟩:=List.mem_iff_getElem.1 hl
    have:=hr.2 i (by omega)
    rw [List.getD_eq_getElem?_getD,List.getElem?_eq_getElem hi] at this
    have this:(s.2.2.1[i]).length = _:=this
    omega
end Go.Proofs.YtejbgeokcpillaaGreatDoor
end
section
namespace Go.Proofs.YtejbgeokcpillaaGreatDoor
open Go.Ev
abbrev zEY (l:List zh):Option zcn:=some (l,some qT,())
theorem zmH {l:List zh} (hl:l.length ≤ lim):zdS (l,()) = some (zEY l,()):=by
  simp only [zdS,zkz]
  rw [zpF hl]; rfl
theorem zMs (x:zh):qT (x,()) = some (x.1,()):=(zF x.1).symm
theorem zrU (l:List zh):zcv (zEY l,()) = some (true,()):=rfl
def zlu (l:List zh) (i:Int):Bool:=decide (0 ≤ i ∧ i < (l.length:Int)) && (ix zj l i).1
theorem zMt {l:List zh} {i:Int} (h:zlu l i = true):0 ≤ i ∧ i < (l.length:Int):=by
  simp only [zlu,Bool.and_eq_true,decide_eq_true_eq] at h; exact h.1
theorem zNM (l:List zh) (i:Int):zhC (zEY l,i,()) = some (zlu l i,()):=by
  rw [zF]
  simp only [zhC]
  refine (bnd (zrU l)).trans ?_
  refine (cT rfl).trans ?_
  unfold zlu
  by_cases h:0 ≤ i ∧ i < (l.length:Int)
  · rw [decide_eq_true h,Bool.true_and]
    refine (cT (decide_eq_true (show i ≥ 0 from h.1))).trans ?_
    refine (bnd (a:=(l,some qT,())) rfl).trans ?_
    refine (cT (decide_eq_true (show i < (l.length:Int) from h.2))).trans ?_
    refine (bnd (a:=(l,some qT,())) rfl).trans ?_
    refine (bnd (a:=(l,some qT,())) rfl).trans ?_
    refine (ixR h).trans ?_
    refine (bnd (a:=qT) rfl).trans ?_
    refine (bnd (zMs _)).trans ?_
    cases (ix zj l i).1 <;> rfl
  · rw [decide_eq_false h,Bool.false_and]
    by_cases h0:i ≥ 0
    · refine (cT (decide_eq_true h0)).trans ?_
      refine (bnd (a:=(l,some qT,())) rfl).trans ?_
      exact cF (decide_eq_false (show ¬ i < (l.length:Int) by omega))
    · exact cF (decide_eq_false h0)
theorem zud {l:List zh} (hl:l.length ≤ lim) {i:Int} (hi:0 ≤ i ∧ i < (l.length:Int)) (x:zh):za9 (zEY l,i,x,()) = some (List.set l i.toNat x,0,()):=by
  simp only [za9]
  refine (bnd (zrU l)).trans ?_
  refine (cT rfl).trans ?_
  refine (cF (decide_eq_false (by omega))).trans ?_
  refine (bnd (a:=(l,some qT,())) rfl).trans ?_
  refine (cF (decide_eq_false (show ¬ i ≥ (l.length:Int) by omega))).trans ?_
  refine (bnd (a:=(l,some qT,())) rfl).trans ?_
  refine (bnd (zpF hl)).trans ?_
  exact ixR hi
def zfT (l:List zh):Int:=jf (fun x=>!x.1) l 0
theorem zMu {α:Type} {p:α→Bool}:∀ (l:List α) (i:Int),0 ≤ i→jf p l i = -1 ∨ (i ≤ jf p l i ∧ jf p l i < i + l.length)
  | [],_,_=>.inl rfl
  | x :: l,i,h=>by
    simp only [jf]
    cases p x with
    | true=>right; simp only [cond_true,List.length_cons]; omega
    | false =>
      simp only [cond_false,List.length_cons]
      rcases zMu (p:=p) l (i + 1) (by omega) with e | e
      · exact .inl e
      · right; omega
theorem zKj {l:List zh} (hl:l.length ≤ Go.maxLen):zfF (zEY l,()) = some (bif decide (zfT l < 0) then (0,8,()) else (zfT l,0,())):=by
  simp only [zfF]
  refine (bnd (zrU l)).trans ?_
  refine (cT rfl).trans ?_
  refine (bnd (a:=(l,some qT,())) rfl).trans ?_
  refine (bnd (zpD (p:=fun x=>!x.1) hl fun x _=>?_)).trans ?_
  · show Option.bind (qT (x,())) (fun q3=>bif q3.1 then some (false,()) else some (true,())) = some (!x.1,())
    refine (bnd (zMs x)).trans ?_
    cases x.1 <;> rfl
  · show (bif decide (zfT l < 0) then some (0,8,()) else some (zfT l,0,())) = _
    cases decide (zfT l < 0) <;> rfl
def zEZ (l:List zh) (x:zh):List zh × Int × Int × Unit:=bif decide (zfT l < 0) then ([],0,8,()) else (List.set l (zfT l).toNat x,zfT l,0,())
theorem zQn {l:List zh} (h:¬ zfT l < 0):0 ≤ zfT l ∧ zfT l < (l.length:Int):=by
  have hr:=zMu (p:=fun x:zh=>!x.1) l 0 (Int.le_refl 0)
  unfold zfT at h ⊢
  omega
theorem zNN {l:List zh} (hl:l.length ≤ 2000000) (x:zh):zhK (zEY l,x,()) = some (zEZ l x):=by
  simp only [zhK]
  refine (bnd (zKj (zhi hl))).trans ?_
  unfold zEZ
  by_cases h:zfT l < 0
  · rw [decide_eq_true h]; rfl
  · rw [decide_eq_false h]
    refine (cF rfl).trans ?_
    exact bnd (zud (zlt hl) (zQn h) x)
def toV (x:zh) (h:qS):zh:=(x.1,x.2.1,h.1,h.2.1,h.2.2.1,())
abbrev ofV (x:zh):qS:=(x.2.2.1,x.2.2.2.1,x.2.2.2.2.1,())
abbrev inH (who:Int):qS:=(1,who,(0,0,()),())
abbrev y4 (r:qy):qS:=(2,0,r,())
def hOk (h:qS):Bool:=zfR h.1 h.2.1 h.2.2.1
theorem zhj (who:Int):hOk (inH who) = qn who:=by
  show ((true && (qn who && true)) || (false && ((who:Int) == 0 && zd9 (0,0,())))) = qn who
  cases qn who <;> rfl
theorem zKk (r:qy):hOk (y4 r) = zd9 r:=by
  show ((false && (qn 0 && eqI zv r (zd zv))) || (true && (true && zd9 r))) = zd9 r
  cases zd9 r <;> rfl
theorem zC9 (x:zh):zhv (x,()) = some (ofV x,()):=rfl
theorem zDa (x:zh) (h:qS):zn9 (x,h,()) = some (toV x h,()):=rfl
theorem zjH (w:Int):j4 (w,()) = some (inH w,()):=rfl
theorem zAI (r:qy):zeo (r,()) = some (y4 r,()):=rfl
def jM (l:List zh) (i:Int) (f g:qS):List zh × Int × Unit:=bif l.all qb then bif hOk f then bif hOk g then bif zlu l i then bif eqI qm (ofV (ix zj l i)) f then (List.set l i.toNat (toV (ix zj l i) g),0,()) else ([],3,()) else ([],3,()) else ([],1,()) else ([],1,()) else ([],1,())
theorem zlv {l:List zh} (hl:l.length ≤ 2000000) (i:Int) (f g:qS):zbJ (l,i,f,g,()) = some (jM l i f g):=by
  simp only [zbJ]
  refine (bnd (znK (zhi hl))).trans ?_
  unfold jM
  cases l.all qb with
  | false=>rfl
  | true =>
    refine (cT rfl).trans ?_
    refine (bnd (zlp f)).trans ?_
    show cond (hOk f) _ _ = _
    cases hOk f with
    | false=>rfl
    | true =>
      refine (cT rfl).trans ?_
      refine (bnd (zlp g)).trans ?_
      show cond (hOk g) _ _ = _
      cases hOk g with
      | false=>rfl
      | true =>
        refine (cT rfl).trans ?_
        refine (bnd (zmH (zlt hl))).trans ?_
        refine (bnd (zNM l i)).trans ?_
        cases h:zlu l i with
        | false=>rfl
        | true =>
          have hi:=zMt h
          refine (cT rfl).trans ?_
          refine (ixR hi).trans ?_
          refine (bnd (zC9 _)).trans ?_
          show cond (!eqI qm (ofV (ix zj l i)) f) _ _ = _
          cases eqI qm (ofV (ix zj l i)) f with
          | false=>rfl
          | true =>
            refine (cF rfl).trans ?_
            refine (bnd (zmH (zlt hl))).trans ?_
            refine (ixR hi).trans ?_
            refine (bnd (zDa _ _)).trans ?_
            exact bnd (zud (zlt hl) hi _)
def zm9 (l:List zh) (i w:Int):List zh × Int × Unit:=bif (jM l i (inH w) (inH w)).2.1 != 0 then ([],(jM l i (inH w) (inH w)).2.1,()) else (List.set l i.toNat (zd zi),0,())
theorem zQo {l:List zh} {i:Int} {f g:qS} (h:((jM l i f g).2.1 != 0) = false):l.all qb = true ∧ hOk f = true ∧ hOk g = true ∧ zlu l i = true ∧ eqI qm (ofV (ix zj l i)) f = true ∧ jM l i f g = (List.set l i.toNat (toV (ix zj l i) g),0,()):=by
  unfold jM at h ⊢
  cases h1:l.all qb with
  | false=>rw [h1] at h; cases h
  | true =>
    cases h2:hOk f with
    | false=>rw [h1,h2] at h; cases h
    | true =>
      cases h3:hOk g with
      | false=>rw [h1,h2,h3] at h; cases h
      | true =>
        cases h4:zlu l i with
        | false=>rw [h1,h2,h3,h4] at h; cases h
        | true =>
          cases h5:eqI qm (ofV (ix zj l i)) f with
          | false=>rw [h1,h2,h3,h4,h5] at h; cases h
          | true=>exact ⟨rfl,rfl,rfl,rfl,rfl,rfl⟩
theorem zHo {l:List zh} (hl:l.length ≤ 2000000) (i w:Int):zjf (l,i,w,()) = some (zm9 l i w):=by
  simp only [zjf]
  refine (bnd (zjH w)).trans ?_
  refine (bnd (zjH w)).trans ?_
  refine (bnd (zlv hl i _ _)).trans ?_
  unfold zm9
  cases h:(jM l i (inH w) (inH w)).2.1 != 0 with
  | true=>exact cT rfl
  | false =>
    refine (cF rfl).trans ?_
    refine (bnd (zmH (zlt hl))).trans ?_
    exact bnd (zud (zlt hl) (zMt (zQo h).2.2.2.1) _)
theorem zKl {l:List zh} (hl:l.length ≤ 2000000) (i w:Int) (r:qy):zle (l,i,w,r,()) = some (jM l i (inH w) (y4 r)):=by
  simp only [zle]
  refine (bnd (zjH w)).trans ?_
  refine (bnd (zAI r)).trans ?_
  exact bnd (zlv hl i _ _)
theorem zKm {l:List zh} (hl:l.length ≤ 2000000) (i w:Int) (r:qy):zlf (l,i,w,r,()) = some (jM l i (y4 r) (inH w)):=by
  simp only [zlf]
  refine (bnd (zAI r)).trans ?_
  refine (bnd (zjH w)).trans ?_
  exact bnd (zlv hl i _ _)
theorem zKn {l:List zh} (hl:l.length ≤ 2000000) (i w v:Int):zlg (l,i,w,v,()) = some (jM l i (inH w) (inH v)):=by
  simp only [zlg]
  refine (bnd (zjH w)).trans ?_
  refine (bnd (zjH v)).trans ?_
  exact bnd (zlv hl i _ _)
def zPK (s:ByteArray) (w:Int):zh:=(true,s,1,w,(0,0,()),())
def zaZ (l:List zh) (s:ByteArray) (w:Int):List zh × Int × Int × Unit:=bif l.all qb then bif qn w then bif zd8 s then zEZ l (zPK s w) else ([],0,2,()) else ([],0,1,()) else ([],0,1,())
theorem zKo {l:List zh} (hl:l.length ≤ 2000000) (s:ByteArray) (w:Int):zk8 (l,s,w,()) = some (zaZ l s w):=by
  simp only [zk8]
  refine (bnd (znK (zhi hl))).trans ?_
  unfold zaZ
  cases l.all qb with
  | false=>rfl
  | true =>
    refine (cT rfl).trans ?_
    refine (bnd (zlp (inH w))).trans ?_
    show cond (hOk (inH w)) _ _ = _
    rw [zhj]
    cases qn w with
    | false=>rfl
    | true =>
      refine (cT rfl).trans ?_
      refine (bnd (zll s)).trans ?_
      cases zd8 s with
      | false=>rfl
      | true =>
        refine (cT rfl).trans ?_
        refine (bnd (zmH (zlt hl))).trans ?_
        refine (bnd (zDa _ _)).trans ?_
        exact bnd (zNN hl _)
end Go.Proofs.YtejbgeokcpillaaGreatDoor
end
section
namespace Go.Proofs.YtejbgeokcpillaaGreatDoor
open Go.Ev
theorem zna (l:List zh) (i:Int) (f g:qS):jM l i f g = bif l.all qb then bif hOk f then bif hOk g then bif zlu l i && eqI qm (ofV (ix zj l i)) f then (List.set l i.toNat (toV (ix zj l i) g),0,()) else ([],3,()) else ([],1,()) else ([],1,()) else ([],1,()):=by
  unfold jM
  cases zlu l i <;> rfl
theorem zue (a b:qS):eqI qm a b = ((a.1:Int) == b.1 && ((a.2.1:Int) == b.2.1 && eqI zv a.2.2.1 b.2.2.1)):=by
  show cond ((a.1:Int) == b.1) (cond ((a.2.1:Int) == b.2.1) (cond (eqI zv a.2.2.1 b.2.2.1) true false) false) false = _
  cases ((a.1:Int) == b.1) <;> cases ((a.2.1:Int) == b.2.1) <;> cases eqI zv a.2.2.1 b.2.2.1 <;> rfl
theorem zO2 {x:zh} (h:qb x = true) (hu:x.1 = true) (hk:(x.2.2.1:Int) = 1):eqI zv x.2.2.2.2.1 (0,0,()) = true:=by
  unfold qb at h
  rw [hu,cond_true] at h
  simp only [zfR,Bool.and_eq_true,Bool.or_eq_true] at h
  rcases h.2 with h2 | h2
  · exact h2.2.2
  · have:(x.2.2.1:Int) = 2:=by simpa using h2.1
    omega
theorem zO3 {x:zh} (h:qb x = true) (hu:x.1 = true) (hk:(x.2.2.1:Int) = 2):(x.2.2.2.1:Int) = 0:=by
  unfold qb at h
  rw [hu,cond_true] at h
  simp only [zfR,Bool.and_eq_true,Bool.or_eq_true] at h
  rcases h.2 with h2 | h2
  · rcases h2.1 with h3 | h3
    · have:(x.2.2.1:Int) = 1:=by simpa using h3
      omega
    · have:(x.2.2.1:Int) = 3:=by simpa using h3
      omega
  · have:=h2.2.1; simpa using this
theorem zQp {x:zh} (h:qb x = true) (hu:x.1 = true) (w:Int):eqI qm (ofV x) (inH w) = ((x.2.2.1:Int) == 1 && (x.2.2.2.1:Int) == w):=by
  rw [zue]
  show ((x.2.2.1:Int) == 1 && ((x.2.2.2.1:Int) == w && eqI zv x.2.2.2.2.1 (0,0,()))) = _
  by_cases hk:(x.2.2.1:Int) = 1
  · rw [zO2 h hu hk,Bool.and_true]
  · rw [beq_eq_false_iff_ne.2 hk]; rfl
theorem zMv {x:zh} (h:qb x = true) (hu:x.1 = true) (r:qy):eqI qm (ofV x) (y4 r) = ((x.2.2.1:Int) == 2 && eqI zv x.2.2.2.2.1 r):=by
  rw [zue]
  show ((x.2.2.1:Int) == 2 && ((x.2.2.2.1:Int) == 0 && eqI zv x.2.2.2.2.1 r)) = _
  by_cases hk:(x.2.2.1:Int) = 2
  · rw [zO3 h hu hk]; rfl
  · rw [beq_eq_false_iff_ne.2 hk]; rfl
theorem zMw {l:List zh} (h:l.all qb = true) {i:Int} (hi:0 ≤ i ∧ i < (l.length:Int)):qb (ix zj l i) = true:=List.all_eq_true.1 h _ (zV (by omega))
def yk (l:List zh) (i w:Int):Bool:=decide (0 ≤ i ∧ i < (l.length:Int)) && ((ix zj l i).1 && (((ix zj l i).2.2.1:Int) == 1 && ((ix zj l i).2.2.2.1:Int) == w))
theorem zx7 {l:List zh} (h:l.all qb = true) (i w:Int):(zlu l i && eqI qm (ofV (ix zj l i)) (inH w)) = yk l i w:=by
  unfold zlu yk
  by_cases hi:0 ≤ i ∧ i < (l.length:Int)
  · rw [decide_eq_true hi,Bool.true_and,Bool.true_and]
    cases hu:(ix zj l i).1 with
    | false=>rfl
    | true=>rw [zQp (zMw h hi) hu]
  · rw [decide_eq_false hi]; rfl
theorem zfc (l:List zh) (i w:Int):vH (l,i,w,()) = some (yk l i w,()):=by
  rw [zF]
  simp only [vH]
  unfold yk
  by_cases h:0 ≤ i ∧ i < (l.length:Int)
  · rw [decide_eq_true h,Bool.true_and]
    refine (cT (decide_eq_true (show i ≥ 0 from h.1))).trans ?_
    refine (cT (decide_eq_true (show i < (l.length:Int) from h.2))).trans ?_
    refine (ixR h).trans ?_
    cases (ix zj l i).1 with
    | false=>rfl
    | true =>
      refine (cT rfl).trans ?_
      refine (ixR h).trans ?_
      cases ((ix zj l i).2.2.1:Int) == 1 with
      | false=>rfl
      | true =>
        refine (cT rfl).trans ?_
        refine (ixR h).trans ?_
        cases ((ix zj l i).2.2.2.1:Int) == w <;> rfl
  · rw [decide_eq_false h,Bool.false_and]
    by_cases h0:i ≥ 0
    · refine (cT (decide_eq_true h0)).trans ?_
      exact cF (decide_eq_false (show ¬ i < (l.length:Int) by omega))
    · exact cF (decide_eq_false h0)
theorem zE0 {l:List zh} {i w:Int} (h:yk l i w = true):(0 ≤ i ∧ i < (l.length:Int)) ∧ (ix zj l i).1 = true:=by
  simp only [yk,Bool.and_eq_true,decide_eq_true_eq] at h
  exact ⟨h.1,h.2.1⟩
theorem ziK {l:List zh} (hl:l.length ≤ 2000000) {i:Int} (hi:0 ≤ i ∧ i < (l.length:Int)) (x:zh):za4 (l,i,x,()) = some (List.set l i.toNat x,()):=by
  have:=zlt hl
  simp only [za4]
  refine (cT (decide_eq_true (by simpa using this))).trans ?_
  show inR i (l.length:Int) (some (List.set l i.toNat x,())) = _
  exact ixR hi
theorem zKp {l:List zh} (hl:l.length ≤ 2000000) (i w:Int) (r:qy):zkR (l,i,w,r,()) = some (jM l i (inH w) (y4 r)):=by
  simp only [zkR]
  refine (bnd (zcc (zhi hl))).trans ?_
  rw [zna,zhj,zKk]
  cases ha:l.all qb with
  | false=>rfl
  | true =>
    refine (cT rfl).trans ?_
    refine (bnd (zdT w)).trans ?_
    cases qn w with
    | false=>rfl
    | true =>
      refine (cT rfl).trans ?_
      refine (bnd (zjj r)).trans ?_
      cases zd9 r with
      | false=>rfl
      | true =>
        refine (cT rfl).trans ?_
        refine (bnd (zfc l i w)).trans ?_
        rw [zx7 ha]
        cases h:yk l i w with
        | false=>rfl
        | true =>
          obtain ⟨hi,hu⟩:=zE0 h
          refine (cT rfl).trans ?_
          refine (ixR hi).trans ?_
          refine (bnd (ziK hl hi _)).trans ?_
          show _ = some (List.set l i.toNat (toV (ix zj l i) (y4 r)),0,())
          unfold toV
          rw [hu]; rfl
theorem zKq {l:List zh} (hl:l.length ≤ 2000000) (i w v:Int):zkT (l,i,w,1,v,()) = some (jM l i (inH w) (inH v)):=by
  simp only [zkT]
  refine (bnd (zcc (zhi hl))).trans ?_
  rw [zna,zhj,zhj]
  cases ha:l.all qb with
  | false=>rfl
  | true =>
    refine (cT rfl).trans ?_
    refine (bnd (zdT w)).trans ?_
    cases qn w with
    | false=>rfl
    | true =>
      refine (cT rfl).trans ?_
      refine (bnd (zdT v)).trans ?_
      cases qn v with
      | false=>rfl
      | true =>
        refine (cT rfl).trans ?_
        refine (bnd (zfc l i w)).trans ?_
        rw [zx7 ha]
        cases h:yk l i w with
        | false=>rfl
        | true =>
          obtain ⟨hi,hu⟩:=zE0 h
          refine (cT rfl).trans ?_
          refine (ixR hi).trans ?_
          refine (bnd (ziK hl hi _)).trans ?_
          show _ = some (List.set l i.toNat (toV (ix zj l i) (inH v)),0,())
          unfold toV
          rw [hu]; rfl
theorem zHp {l:List zh} (hl:l.length ≤ 2000000) (i w:Int):zi5 (l,i,w,()) = some (zm9 l i w):=by
  simp only [zi5]
  refine (bnd (zcc (zhi hl))).trans ?_
  unfold zm9
  rw [zna,zhj]
  cases ha:l.all qb with
  | false=>rfl
  | true =>
    refine (cT rfl).trans ?_
    refine (bnd (zdT w)).trans ?_
    cases qn w with
    | false=>rfl
    | true =>
      refine (cT rfl).trans ?_
      refine (bnd (zfc l i w)).trans ?_
      rw [zx7 ha]
      cases h:yk l i w with
      | false=>rfl
      | true =>
        obtain ⟨hi,hu⟩:=zE0 h
        refine (cT rfl).trans ?_
        exact bnd (ziK hl hi _)
theorem zKr {l:List zh} (hl:l.length ≤ 2000000) (i w:Int) (r:qy):zkS (l,i,w,r,()) = some (jM l i (y4 r) (inH w)):=by
  simp only [zkS]
  refine (bnd (zcc (zhi hl))).trans ?_
  rw [zna,zhj,zKk]
  cases ha:l.all qb with
  | false=>rfl
  | true =>
    refine (cT rfl).trans ?_
    refine (bnd (zdT w)).trans ?_
    cases qn w with
    | false=>cases zd9 r <;> rfl
    | true =>
      refine (cT rfl).trans ?_
      refine (bnd (zjj r)).trans ?_
      cases zd9 r with
      | false=>rfl
      | true =>
        refine (cT rfl).trans ?_
        unfold zlu
        by_cases hi:0 ≤ i ∧ i < (l.length:Int)
        · rw [decide_eq_true hi]
          refine (cF (decide_eq_false (by omega))).trans ?_
          refine (cF (decide_eq_false (show ¬ i ≥ (l.length:Int) by omega))).trans ?_
          refine (ixR hi).trans ?_
          cases hu:(ix zj l i).1 with
          | false=>rfl
          | true =>
            refine (cT rfl).trans ?_
            refine (ixR hi).trans ?_
            rw [zMv (zMw ha hi) hu]
            by_cases hk:((ix zj l i).2.2.1:Int) = 2
            · rw [beq_iff_eq.2 hk]
              refine (cF (show (((ix zj l i).2.2.1:Int) != 2) = false by rw [hk]; rfl)).trans ?_
              refine (ixR hi).trans ?_
              cases eqI zv (ix zj l i).2.2.2.2.1 r with
              | false=>rfl
              | true =>
                refine (cF rfl).trans ?_
                refine (ixR hi).trans ?_
                refine (bnd (ziK hl hi _)).trans ?_
                show _ = some (List.set l i.toNat (toV (ix zj l i) (inH w)),0,())
                unfold toV
                rw [hu]; rfl
            · rw [beq_eq_false_iff_ne.2 hk]
              exact cT (show (((ix zj l i).2.2.1:Int) != 2) = true from bne_iff_ne.2 hk)
        · rw [decide_eq_false hi]
          by_cases h0:i < 0
          · exact cT (decide_eq_true h0)
          · refine (cF (decide_eq_false h0)).trans ?_
            exact cT (decide_eq_true (show i ≥ (l.length:Int) by omega))
theorem zKs {l:List zh} (hl:l.length ≤ 2000000) (s:ByteArray) (w:Int):zkQ (l,s,w,()) = some (zaZ l s w):=by
  simp only [zkQ,zkP]
  refine (bnd (zcc (zhi hl))).trans ?_
  unfold zaZ
  cases l.all qb with
  | false=>rfl
  | true =>
    refine (cT rfl).trans ?_
    refine (bnd (zdT w)).trans ?_
    cases qn w with
    | false=>rfl
    | true =>
      refine (cT rfl).trans ?_
      refine (bnd (zji s)).trans ?_
      cases zd8 s with
      | false=>rfl
      | true =>
        refine (cT rfl).trans ?_
        show _ = some (zEZ l (zPK s w))
        have:=vA (α:=Unit) (B:=zeU) (zhi hl) (fun i _=>(l,s,w,i)) (fun i _=>some (bif decide (jf (fun x:zh=>!x.1) (l.drop i) (i:Int) < 0) then ([],0,8,()) else (List.set l (jf (fun x:zh=>!x.1) (l.drop i) (i:Int)).toNat (zPK s w),jf (fun x:zh=>!x.1) (l.drop i) (i:Int),0,()))) (fun _ _=>True) (fun k i _ hi _ hk=>by
          have hk':=hk () trivial
          have e:((i + 1:Nat):Int) = (i:Int) + 1:=by omega
          rw [e] at hk'
          simp only [zeU]
          rw [ltT hi,zk hi,zG,jC zj hi]
          simp only [cond_true,jf]
          by_cases h:(l.getD i zj).1 = true
          · simp only [h,cond_true,Bool.not_true,cond_false]
            exact hk'
          · simp only [Bool.not_eq_true] at h
            simp only [h,cond_false,Bool.not_false,cond_true]
            refine (bnd (ziK hl (i:=(i:Int)) ⟨by omega,by omega⟩ _)).trans ?_
            rw [decide_eq_false (by omega)]
            rfl) (fun k _ _=>by
          simp only [zeU]
          rw [ltF,List.drop_of_length_le (Nat.le_refl _)]
          rfl) () trivial
        exact this
end Go.Proofs.YtejbgeokcpillaaGreatDoor
end
section
namespace Go.Proofs.YtejbgeokcpillaaGreatDoor
open Go.Ev
abbrev qa (s:zb) (me:pMe):List zh:=(ix zf s.2.1 me.2.1).2.2.1
abbrev zjZ (s:zb) (i w:Int):qy:=List.getD (ix zf s.2.1 i).2.2.2.2.2.2.1 (Int.toNat w) (zd zv)
abbrev qo (s:zb) (me:pMe):qy:=zjZ s me.2.1 me.2.2.1
structure Ctx (r:ze) (s:zb) (me:pMe):Prop where
  rs:ql r s = true
  im:qE r me = true
theorem Ctx.hi {r:ze} {s:zb} {me:pMe} (x:Ctx r s me):0 ≤ me.2.1 ∧ me.2.1 < (s.2.1.length:Int):=(zQ0 x.rs x.im).hi
theorem Ctx.shelf {r:ze} {s:zb} {me:pMe} (x:Ctx r s me):(ix zf s.2.1 me.2.1).2.2.1.length ≤ 12 ∧ (ix zf s.2.1 me.2.1).2.2.2.2.2.2.1.length = r.2.2.1.length:=by
  obtain ⟨hb,hz,-⟩:=y9 x.rs
  have h:=(zfg hb hz).shelf _ (zFD x.hi)
  exact ⟨h.2.2.1,h.2.2.2.2.2.2⟩
theorem Ctx.small {r:ze} {s:zb} {me:pMe} (x:Ctx r s me):(qa s me).length ≤ 2000000:=Nat.le_trans x.shelf.1 (by omega)
theorem Ctx.who {r:ze} {s:zb} {me:pMe} (x:Ctx r s me):jL r me.2.2.1 = true:=by
  have:=x.im
  simp only [qE,Bool.and_eq_true] at this; exact this.2.2
theorem Ctx.place {r:ze} {s:zb} {me:pMe} (x:Ctx r s me) {w:Int} (hw:jL r w = true):0 ≤ w ∧ w < ((ix zf s.2.1 me.2.1).2.2.2.2.2.2.1.length:Int):=by
  simp only [jL,decide_eq_true_eq] at hw
  rw [x.shelf.2]; exact hw
theorem Ctx.slots {r:ze} {s:zb} {me:pMe} (x:Ctx r s me):(qa s me).all qb = true:=by
  have h:=x.rs
  have hi:=x.hi
  simp only [ql,Bool.and_eq_true,qL] at h
  have:=(h.2.2.2.1 me.2.1.toNat (Nat.zero_le _) (by omega)).1.1
  simp only [jc,Bool.and_eq_true] at this
  exact this.2.2.1
theorem zMx {r:ze} (hb:qZ r = true) {w:Int} (hw:jL r w = true):qn w = true:=by
  have:=(vM hb).accounts
  simp only [jL,qn,decide_eq_true_eq] at hw ⊢
  omega
theorem znN {r:ze} {s:zb} {me:pMe} (x:Ctx r s me):zb6 (s,me,()) = some (qa s me,()):=by
  simp only [zb6]
  exact ixR x.hi
theorem zgd {r:ze} {s:zb} {me:pMe} (x:Ctx r s me) {y:pMe} (hy:y.2.1 = me.2.1) (hw:jL r y.2.2.1 = true):yn (s,y,()) = some (zjZ s me.2.1 y.2.2.1,()):=by
  simp only [yn]
  rw [hy]
  refine (ixR x.hi).trans ?_
  exact ixR (x.place hw)
theorem zpS {r:ze} {s:zb} {me:pMe} (x:Ctx r s me):zep (s,me,()) = some (qo s me,()):=by
  simp only [zep]
  refine (ixR x.hi).trans ?_
  exact ixR (x.place x.who)
def zE1 (e:Int):zb × Int × Unit:=(zKi,e,())
def zfU (s:zb) (me:pMe) (v:List zh × Int × Unit):zb × Int × Unit:=bif v.2.1 != 0 then zE1 v.2.1 else (upd s me.2.1 (u2 (ix zf s.2.1 me.2.1) v.1),0,())
theorem zDb {r:ze} {s:zb} {me:pMe} {g:List zh × Unit→Option (List zh × Int × Unit)} {v:List zh × Int × Unit} (hr:z9 r) (hs:qJ s) (hg:Ctx r s me→g (qa s me,()) = some v):zam (r,s,me,some g,()) = some (bif ql r s && qE r me then zfU s me v else zE1 1):=by
  simp only [zam]
  refine (bnd (zhh hr hs me)).trans ?_
  cases h:ql r s && qE r me with
  | false=>rfl
  | true =>
    simp only [Bool.and_eq_true] at h
    have x:Ctx r s me:=⟨h.1,h.2⟩
    refine (cT rfl).trans ?_
    refine (bnd (znN x)).trans ?_
    refine (bnd (a:=g) rfl).trans ?_
    refine (bnd (hg x)).trans ?_
    show _ = some (zfU s me v)
    unfold zfU
    cases he:v.2.1 != 0 with
    | true=>exact cT rfl
    | false =>
      refine (cF rfl).trans ?_
      refine (bnd (zjm (zMr x.rs))).trans ?_
      exact ixR x.hi
theorem zHq {r:ze} {s:zb} {me:pMe} (hr:z9 r) (hs:qJ s) (i:Int):zca (r,s,me,i,()) = some (bif ql r s && qE r me then zfU s me (zm9 (qa s me) i me.2.2.1) else zE1 1):=by
  simp only [zca]
  refine (bnd (zDb (v:=zm9 (qa s me) i me.2.2.1) hr hs fun x=>?_)).trans rfl
  simp only [zlh]
  refine (bnd (a:=i) rfl).trans ?_
  refine (bnd (a:=me) rfl).trans ?_
  exact bnd (zHo x.small i me.2.2.1)
theorem zKt {r:ze} {s:zb} {me:pMe} (hr:z9 r) (hs:qJ s) (i:Int):ze9 (r,s,me,i,()) = some (bif ql r s && qE r me then zfU s me (jM (qa s me) i (inH me.2.2.1) (y4 (qo s me))) else zE1 1):=by
  simp only [ze9]
  refine (bnd (zDb (v:=jM (qa s me) i (inH me.2.2.1) (y4 (qo s me))) hr hs fun x=>?_)).trans rfl
  simp only [zl8]
  refine (bnd (a:=i) rfl).trans ?_
  refine (bnd (a:=me) rfl).trans ?_
  refine (bnd (a:=s) rfl).trans ?_
  refine (bnd (a:=me) rfl).trans ?_
  refine (bnd (zgd x rfl x.who)).trans ?_
  exact bnd (zKl x.small i me.2.2.1 (qo s me))
theorem zKu {r:ze} {s:zb} {me:pMe} (hr:z9 r) (hs:qJ s) (i:Int):zbO (r,s,me,i,()) = some (bif ql r s && qE r me then zfU s me (jM (qa s me) i (y4 (qo s me)) (inH me.2.2.1)) else zE1 1):=by
  simp only [zbO]
  refine (bnd (zDb (v:=jM (qa s me) i (y4 (qo s me)) (inH me.2.2.1)) hr hs fun x=>?_)).trans rfl
  simp only [zl9]
  refine (bnd (a:=i) rfl).trans ?_
  refine (bnd (a:=me) rfl).trans ?_
  refine (bnd (a:=s) rfl).trans ?_
  refine (bnd (a:=me) rfl).trans ?_
  refine (bnd (zgd x rfl x.who)).trans ?_
  exact bnd (zKm x.small i me.2.2.1 (qo s me))
def zrh (r:ze) (s:zb) (me:pMe) (i w:Int):List zh × Int × Unit:=bif jL r w && w != me.2.2.1 then bif yk (qa s me) i me.2.2.1 then bif eqI zv (zjZ s me.2.1 w) (qo s me) then jM (qa s me) i (inH me.2.2.1) (inH w) else ((jM (qa s me) i (inH me.2.2.1) (inH w)).1,5,()) else ([],3,()) else ([],1,())
theorem zO4 {r:ze} {s:zb} {me:pMe} (x:Ctx r s me) {w:Int} (hw:jL r w = true) (i:Int):jM (qa s me) i (inH me.2.2.1) (inH w) = bif yk (qa s me) i me.2.2.1 then (List.set (qa s me) i.toNat (toV (ix zj (qa s me) i) (inH w)),0,()) else ([],3,()):=by
  have hb:=(y9 x.rs).1
  rw [zna,x.slots,zhj,zhj,zMx hb x.who,zMx hb hw,zx7 x.slots]; rfl
theorem zKv {r:ze} {s:zb} {me:pMe} (hr:z9 r) (hs:qJ s) (i w:Int):zbP (r,s,me,i,w,()) = some (bif ql r s && qE r me then zfU s me (zrh r s me i w) else zE1 1):=by
  simp only [zbP]
  refine (bnd (zDb (v:=zrh r s me i w) hr hs fun x=>?_)).trans rfl
  have him:∀ u:Unit,qE r (me.1,me.2.1,w,u) = jL r w:=fun u=>by
    have:=x.im
    simp only [qE,Bool.and_eq_true] at this ⊢
    rw [this.1,this.2.1,Bool.true_and,Bool.true_and]
  simp only [zma]
  refine (bnd (a:=me) rfl).trans ?_
  refine (bnd (a:=me) rfl).trans ?_
  refine (bnd (a:=w) rfl).trans ?_
  refine (bnd (a:=w) rfl).trans ?_
  refine (bnd (a:=me) rfl).trans ?_
  unfold zrh
  by_cases hne:w = me.2.2.1
  · refine (cT (beq_iff_eq.2 hne)).trans ?_
    have:(w != me.2.2.1) = false:=by rw [hne]; simp
    rw [this,Bool.and_false]; rfl
  · refine (cF (beq_eq_false_iff_ne.2 hne)).trans ?_
    rw [bne_iff_ne.2 hne,Bool.and_true]
    refine (bnd (a:=r) rfl).trans ?_
    refine (bnd (a:=s) rfl).trans ?_
    refine (bnd (zhh hr hs _)).trans ?_
    rw [x.rs,him,Bool.true_and]
    cases hw:jL r w with
    | false=>rfl
    | true =>
      refine (cT rfl).trans ?_
      refine (bnd (a:=i) rfl).trans ?_
      refine (bnd (a:=me) rfl).trans ?_
      refine (bnd (a:=w) rfl).trans ?_
      refine (bnd (zKn x.small i me.2.2.1 w)).trans ?_
      rw [zO4 x hw i]
      cases yk (qa s me) i me.2.2.1 with
      | false=>rfl
      | true =>
        refine (cT rfl).trans ?_
        refine (bnd (a:=s) rfl).trans ?_
        refine (bnd (zgd x (y:=(me.1,me.2.1,w,(zd tMe).2.2.2)) rfl hw)).trans ?_
        refine (bnd (a:=s) rfl).trans ?_
        refine (bnd (a:=me) rfl).trans ?_
        refine (bnd (zgd x rfl x.who)).trans ?_
        show cond (!eqI zv (zjZ s me.2.1 w) (qo s me)) _ _ = _
        cases eqI zv (zjZ s me.2.1 w) (qo s me) <;> rfl
end Go.Proofs.YtejbgeokcpillaaGreatDoor
end
section
namespace Go.Proofs.YtejbgeokcpillaaGreatDoor
open Go.Ev
def yi (h:qS) (x:zh):Bool:=x.1 && eqI qm (ofV x) h
theorem zvs {l:List zh} (hl:l.length ≤ 1000000) (h:qS):zi2 (l,h,()) = some (z5 (yi h) 0 l,()):=by
  have hl':l.length ≤ Go.maxLen:=by unfold Go.maxLen; omega
  have:=vA (B:=zcQ) (α:=List Int) hl' (fun i o=>(l,(l.length:Int),i,h,o)) (fun i o=>some (o ++ z5 (yi h) i (l.drop i),())) (fun i o=>o.length ≤ i) (fun k i o hi hI hk=>by
    simp only [zcQ]
    rw [ltT hi,zk hi,zG,zgp,jC zj hi]
    simp only [cond_true,z5,yi]
    cases hu:(l.getD i zj).1 with
    | false=>exact hk o (by omega)
    | true =>
      simp only [cond_true,Bool.true_and]
      refine (bnd (zC9 _)).trans ?_
      show cond (eqI qm (ofV (l.getD i zj)) h) _ _ = _
      cases eqI qm (ofV (l.getD i zj)) h with
      | false=>exact hk o (by omega)
      | true =>
        refine (cT rfl).trans ?_
        refine (cT (zxF (by simp; omega))).trans ?_
        refine (hk _ (by simp; omega)).trans ?_
        simp [z5]) (fun k o _=>by
    simp only [zcQ]
    rw [ltF,List.drop_of_length_le (Nat.le_refl _)]
    simp [z5]) [] (Nat.le_refl _)
  exact this
theorem zKw {l:List zh} (hl:l.length ≤ 1000000) (w:Int):zkU (l,w,()) = some (z5 (yi (inH w)) 0 l,()):=by
  simp only [zkU]
  refine (bnd (zjH w)).trans ?_
  exact bnd (zvs hl _)
theorem zHr {l:List zh} (hl:l.length ≤ 1000000) (r:qy):zi6 (l,r,()) = some (z5 (yi (y4 r)) 0 l,()):=by
  simp only [zi6]
  refine (bnd (zAI r)).trans ?_
  exact bnd (zvs hl _)
theorem zKx {l:List zh} (hl:l.length ≤ 1000000) (w:Int):zph (l,w,()) = some (z5 (yi (inH w)) 0 l,()):=by
  have hl':l.length ≤ Go.maxLen:=by unfold Go.maxLen; omega
  have:=vA (B:=zeN) (α:=List Int) hl' (fun i o=>(l,w,i,o)) (fun i o=>some (o ++ z5 (yi (inH w)) i (l.drop i),())) (fun i o=>o.length ≤ i) (fun k i o hi hI hk=>by
    have e:yk l (i:Int) w = ((l.getD i zj).1 && (((l.getD i zj).2.2.1:Int) == 1 && ((l.getD i zj).2.2.2.1:Int) == w)):=by
      unfold yk
      rw [decide_eq_true (p:=0 ≤ (i:Int) ∧ (i:Int) < (l.length:Int)) (by omega),Bool.true_and,zG]
    have e2:yi (inH w) (l.getD i zj) = ((l.getD i zj).1 && ((((l.getD i zj).2.2.1:Int) == 1 && ((l.getD i zj).2.2.2.1:Int) == w) && eqI zv (l.getD i zj).2.2.2.2.1 (zd zv))):=by
      unfold yi
      rw [zue,Bool.and_assoc]; rfl
    simp only [zeN]
    rw [ltT hi,zgp,jC zj hi]
    simp only [cond_true,z5]
    refine (bnd (zfc l (i:Int) w)).trans ?_
    rw [e,e2]
    generalize (l.getD i zj).1 = c1
    generalize (((l.getD i zj).2.2.1:Int) == 1) = c2
    generalize (((l.getD i zj).2.2.2.1:Int) == w) = c3
    cases hc:c1 && (c2 && c3) with
    | false =>
      have:(c1 && ((c2 && c3) && eqI zv (l.getD i zj).2.2.2.2.1 (zd zv))) = false:=by
        rw [← Bool.and_assoc,hc]; rfl
      rw [this]
      exact hk o (by omega)
    | true =>
      have:(c1 && ((c2 && c3) && eqI zv (l.getD i zj).2.2.2.2.1 (zd zv))) = eqI zv (l.getD i zj).2.2.2.2.1 (zd zv):=by
        rw [← Bool.and_assoc,hc]; rfl
      rw [this]
      refine (cT rfl).trans ?_
      rw [zk hi,zG]
      cases eqI zv (l.getD i zj).2.2.2.2.1 (zd zv) with
      | false=>exact hk o (by omega)
      | true =>
        refine (cT rfl).trans ?_
        refine (cT (zxF (by simp; omega))).trans ?_
        refine (hk _ (by simp; omega)).trans ?_
        simp) (fun k o _=>by
    simp only [zeN]
    rw [ltF,List.drop_of_length_le (Nat.le_refl _)]
    simp [z5]) [] (Nat.le_refl _)
  exact this
def zKy (s:zb) (me:pMe):List Int:=z5 (yi (inH me.2.2.1)) 0 (qa s me)
theorem zL3 {r:ze} {s:zb} (hr:z9 r) (hs:qJ s) (me:pMe):ziH (r,s,me,()) = some (bif ql r s && qE r me then (zKy s me,0,()) else ([],1,())):=by
  simp only [ziH]
  refine (bnd (zhh hr hs me)).trans ?_
  cases h:ql r s && qE r me with
  | false=>rfl
  | true =>
    simp only [Bool.and_eq_true] at h
    have x:Ctx r s me:=⟨h.1,h.2⟩
    refine (cT rfl).trans ?_
    refine (bnd (znN x)).trans ?_
    exact bnd (zKw (Nat.le_trans x.shelf.1 (by omega)) me.2.2.1)
theorem zrV {r:ze} {s:zb} (hr:z9 r) (hs:qJ s) (me:pMe):zgj (r,s,me,()) = some (ql r s && qE r me,()):=by
  rw [zF]
  simp only [zgj,zHm hr hs,zJ6,Option.bind_some]
  grind
theorem zL4 {r:ze} {s:zb} (hr:z9 r) (hs:qJ s) (me:pMe):zmE (r,s,me,()) = some (bif ql r s && qE r me then (zKy s me,0,()) else ([],1,())):=by
  simp only [zmE]
  refine (bnd (zrV hr hs me)).trans ?_
  cases h:ql r s && qE r me with
  | false=>rfl
  | true =>
    simp only [Bool.and_eq_true] at h
    have x:Ctx r s me:=⟨h.1,h.2⟩
    refine (cT rfl).trans ?_
    refine (ixR x.hi).trans ?_
    exact bnd (zKx (l:=qa s me) (Nat.le_trans x.shelf.1 (by omega)) me.2.2.1)
def zpT (i:Int) (l:List Int):List qy:=l.map fun z=>(i,z,())
def vN (r:ze) (j:Int) (at':qy):Nat→List zp→List qy
  | _,[]=>[]
  | i,x :: l=>(bif zik r i j then zpT i (z5 (yi (y4 at')) 0 x.2.2.1) else []) ++ vN r j at' (i + 1) l
theorem Ctx.items {r:ze} {s:zb} {me:pMe} (x:Ctx r s me) {i:Nat} (hi:i < s.2.1.length):(s.2.1.getD i zf).2.2.1.length ≤ 12 ∧ (s.2.1.getD i zf).2.2.1.all qb = true:=by
  obtain ⟨hb,hz,-⟩:=y9 x.rs
  have h:=(zfg hb hz).shelf _ (zV (d:=zf) hi)
  have h':=x.rs
  simp only [ql,Bool.and_eq_true,qL] at h'
  have:=(h'.2.2.2.1 i (Nat.zero_le _) (by omega)).1.1
  simp only [jc,Bool.and_eq_true] at this
  exact ⟨h.2.2.1,this.2.2.1⟩
theorem Ctx.count {r:ze} {s:zb} {me:pMe} (x:Ctx r s me):s.2.1.length ≤ 8:=by
  obtain ⟨hb,hz,-⟩:=y9 x.rs
  have h1:=(zfg hb hz).shelves
  have h2:=(vM hb).labels
  omega
theorem zE2 {r:ze} {s:zb} (hr:z9 r) (hs:qJ s) (me:pMe):ze8 (r,s,me,()) = some (bif ql r s && qE r me then (vN r me.2.1 (qo s me) 0 s.2.1,0,()) else ([],1,())):=by
  simp only [ze8,zhT]
  refine (bnd (zhh hr hs me)).trans ?_
  cases h:ql r s && qE r me with
  | false=>rfl
  | true =>
    simp only [Bool.and_eq_true] at h
    have x:Ctx r s me:=⟨h.1,h.2⟩
    have hc:=x.count
    refine (cT rfl).trans ?_
    have:=vA (B:=fun k0=>y0 (zfP K0 k0) k0) (α:=List qy) (len:=s.2.1.length) (by unfold Go.maxLen; omega) (fun i o=>(s.2.1,(s.2.1.length:Int),i,r,s,me,o)) (fun i o=>some (o ++ vN r me.2.1 (qo s me) i (s.2.1.drop i),0,())) (fun i o=>o.length ≤ i * 12) (fun k i o hi hI hk=>by
      obtain ⟨h12,hok⟩:=x.items hi
      simp only [y0]
      rw [ltT hi,zk hi,zG,jC zf hi]
      simp only [cond_true,vN]
      refine (bnd (zLZ hr (y9 x.rs).1 _ _)).trans ?_
      cases zik r (i:Int) me.2.1 with
      | false=>exact hk o (by omega)
      | true =>
        refine (cT rfl).trans ?_
        refine (bnd (zgd x rfl x.who)).trans ?_
        refine (bnd (zHr (Nat.le_trans h12 (by omega)) _)).trans ?_
        have hsl:=zfS (p:=yi (y4 (qo s me))) (s.2.1.getD i zf).2.2.1 0
        simp only [cond_true]
        generalize z5 (yi (y4 (qo s me))) 0 (s.2.1.getD i zf).2.2.1 = L at *
        have inner:=vA (B:=fun k1=>zbN k k1) (α:=List qy) (len:=L.length) (by unfold Go.maxLen; omega) (fun j o=>((i:Int),s.2.1,(s.2.1.length:Int),(i:Int),L,(L.length:Int),j,r,s,me,o)) (fun j o=>some (o ++ (zpT (i:Int) (L.drop j) ++ vN r me.2.1 (qo s me) (i + 1) (s.2.1.drop (i + 1))),0,())) (fun j o=>o.length ≤ i * 12 + j) (fun k1 j o hj hJ hk1=>by
          simp only [zbN]
          rw [ltT hj,zk hj,zG,zgp,jC (0:Int) hj]
          refine (cT rfl).trans ?_
          refine (cT (zxF (by simp; omega))).trans ?_
          refine (hk1 _ (by simp; omega)).trans ?_
          simp only [zpT,List.map_cons,List.append_assoc,List.cons_append,List.nil_append]) (fun k1 o hJ=>by
          simp only [zbN]
          rw [ltF,List.drop_of_length_le (Nat.le_refl _)]
          refine (cF rfl).trans ?_
          exact hk o (by omega)) o (by omega)
        exact inner) (fun k o _=>by
      simp only [y0]
      rw [ltF,List.drop_of_length_le (Nat.le_refl _)]
      simp [vN]) [] (Nat.zero_le _)
    exact this
theorem zE3 {r:ze} {s:zb} (hr:z9 r) (hs:qJ s) (me:pMe):zhS (r,s,me,()) = some (bif ql r s && qE r me then (vN r me.2.1 (qo s me) 0 s.2.1,0,()) else ([],1,())):=by
  simp only [zhS,zhR]
  refine (bnd (zrV hr hs me)).trans ?_
  cases h:ql r s && qE r me with
  | false=>rfl
  | true =>
    simp only [Bool.and_eq_true] at h
    have x:Ctx r s me:=⟨h.1,h.2⟩
    have hc:=x.count
    refine (cT rfl).trans ?_
    have := vA (B:=fun k0=>yZ (zfO K0 k0) k0) (α:=List qy) (len:=s.2.1.length) (by unfold Go.maxLen; omega) (fun i o=>(i,r,s,me,o)) (fun i o=>some (o ++ vN r me.2.1 (qo s me) i (s.2.1.drop i),0,())) (fun i o=>o.length ≤ i * 12) (fun k i o hi hI hk=>by
      obtain ⟨h12,hok⟩:=x.items hi
      have eS:ix zf s.2.1 (i:Int) = s.2.1.getD i zf:=zG
      simp only [yZ]
      rw [ltT hi,jC zf hi]
      simp only [cond_true,vN]
      generalize hL:(s.2.1.getD i zf).2.2.1 = L at *
      have inner:=vA (B:=fun k1=>zbL k k1) (α:=List qy) (len:=L.length) (by unfold Go.maxLen; omega) (fun j o=>((i:Int),j,r,s,me,o)) (fun j o=>some (o ++ ((bif zik r (i:Int) me.2.1 then zpT (i:Int) (z5 (yi (y4 (qo s me))) j (L.drop j)) else []) ++ vN r me.2.1 (qo s me) (i + 1) (s.2.1.drop (i + 1))),0,())) (fun j o=>o.length ≤ i * 12 + j) (fun k1 j o hj hJ hk1=>by
        have hit:qb (L.getD j zj) = true:=List.all_eq_true.1 hok _ (zV hj)
        simp only [zbL]
        rw [zk hi,eS,hL,ltT hj]
        refine (cT rfl).trans ?_
        rw [zk hi,zk hj,Int.toNat_natCast,zgp,jC zj hj]
        simp only [z5]
        have hkO:=hk1 o (by omega)
        have hp:yi (y4 (qo s me)) (L.getD j zj) = ((L.getD j zj).1 && (((L.getD j zj).2.2.1:Int) == 2 && eqI zv (L.getD j zj).2.2.2.2.1 (qo s me))):=by
          unfold yi
          cases hu:(L.getD j zj).1 with
          | false=>rfl
          | true=>rw [zMv hit hu]
        have skip:yi (y4 (qo s me)) (L.getD j zj) = false→k1 ((i:Int),wI (j + 1),r,s,me,o) = some (o ++ ((bif zik r (i:Int) me.2.1 then zpT (i:Int) (bif yi (y4 (qo s me)) (L.getD j zj) then (j:Int) :: z5 (yi (y4 (qo s me))) (j + 1) (L.drop (j + 1)) else z5 (yi (y4 (qo s me))) (j + 1) (L.drop (j + 1))) else []) ++ vN r me.2.1 (qo s me) (i + 1) (s.2.1.drop (i + 1))),0,()):=fun e=>by
          rw [e]; exact hkO
        cases hu:(L.getD j zj).1 with
        | false=>exact skip (by rw [hp,hu]; rfl)
        | true =>
          refine (cT rfl).trans ?_
          cases h2:((L.getD j zj).2.2.1:Int) == 2 with
          | false=>exact skip (by rw [hp,hu,h2]; rfl)
          | true =>
            refine (cT rfl).trans ?_
            refine (bnd (zpS x)).trans ?_
            show cond (eqI zv (L.getD j zj).2.2.2.2.1 (qo s me)) _ _ = _
            cases h3:eqI zv (L.getD j zj).2.2.2.2.1 (qo s me) with
            | false=>exact skip (by rw [hp,hu,h2,h3]; rfl)
            | true =>
              refine (cT rfl).trans ?_
              refine (bnd (zrS hr _ _)).trans ?_
              have hp':yi (y4 (qo s me)) (L.getD j zj) = true:=by rw [hp,hu,h2,h3]; rfl
              rw [hp']
              cases hl:zik r (i:Int) me.2.1 with
              | false =>
                rw [hl] at hkO
                exact hkO
              | true =>
                refine (cT rfl).trans ?_
                refine (cT (zxF (by simp; omega))).trans ?_
                have hk2:=hk1 (o ++ [((i:Int),(j:Int),())]) (by simp; omega)
                rw [hl] at hk2
                refine hk2.trans ?_
                simp only [zpT,cond_true,List.map_cons,List.append_assoc,List.cons_append,List.nil_append]) (fun k1 o hJ=>by
        simp only [zbL]
        rw [zk hi,eS,hL,ltF,List.drop_of_length_le (Nat.le_refl _)]
        refine (cF rfl).trans ?_
        refine (hk o (by omega)).trans ?_
        cases zik r (i:Int) me.2.1 <;> rfl) o (by omega)
      exact inner) (fun k o _=>by
      simp only [yZ]
      rw [ltF,List.drop_of_length_le (Nat.le_refl _)]
      simp [vN]) [] (Nat.zero_le _)
    exact this
theorem zNO {a b:List qy} (hl:a.length ≤ Go.maxLen):zfB (a,b,()) = some (eqL zv a b,()):=za5 (p:=eqI zv) fun h=>by
  have:=yh (B:=zag) zzE (eqI zv) (fun i=>(a,b,i)) hl h (fun k i hi=>by
    simp only [zag]
    rw [ltT hi,zk hi,zk (by omega),zG,zG,zpR]; rfl) (fin:=true) (fun k=>by simp only [zag]; rw [ltF]; rfl)
  rw [Bool.and_true] at this; exact this
theorem zQR {a b:List Int} (hl:a.length ≤ Go.maxLen):zku (a,b,()) = some (eqL tI a b,()):=za5 (p:=eqI tI) fun h=>by
  have:=yh (B:=zeD) (0:Int) (eqI tI) (fun i=>(a,b,i)) hl h (fun k i hi=>by
    simp only [zeD]
    rw [ltT hi,zk hi,zk (by omega),zG,zG,zPF]; rfl) (fin:=true) (fun k=>by simp only [zeD]; rw [ltF]; rfl)
  rw [Bool.and_true] at this; exact this
end Go.Proofs.YtejbgeokcpillaaGreatDoor
end
section
namespace Go.Proofs.YtejbgeokcpillaaGreatDoor
open Go.Ev
def zoi (s:zb) (me:pMe) (v:List zh × Int × Int × Unit):zb × Int × Int × Unit:=bif v.2.2.1 != 0 then (zKi,0,v.2.2.1,()) else (upd s me.2.1 (u2 (ix zf s.2.1 me.2.1) v.1),v.2.1,0,())
theorem zPL {l:List zh} {nm:ByteArray} {w:Int} (h:((zaZ l nm w).2.2.1 != 0) = true):(zaZ l nm w).2.1 = 0:=by
  revert h
  unfold zaZ zEZ
  cases l.all qb <;> cases qn w <;> cases zd8 nm <;> cases decide (zfT l < 0) <;> intro h <;> first | rfl | cases h
theorem zKz {r:ze} {s:zb} {me:pMe} (hr:z9 r) (hs:qJ s) (nm:ByteArray):ze7 (r,s,me,nm,()) = some (bif ql r s && qE r me then zoi s me (zaZ (qa s me) nm me.2.2.1) else (zKi,0,1,())):=by
  simp only [ze7]
  refine (bnd (zhh hr hs me)).trans ?_
  cases h:ql r s && qE r me with
  | false=>rfl
  | true =>
    simp only [Bool.and_eq_true] at h
    have x:Ctx r s me:=⟨h.1,h.2⟩
    refine (cT rfl).trans ?_
    refine (bnd (znN x)).trans ?_
    refine (bnd (zKo x.small nm me.2.2.1)).trans ?_
    show _ = some (zoi s me (zaZ (qa s me) nm me.2.2.1))
    unfold zoi
    cases he:(zaZ (qa s me) nm me.2.2.1).2.2.1 != 0 with
    | true =>
      refine (cT rfl).trans ?_
      show some (_,(zaZ (qa s me) nm me.2.2.1).2.1,_,()) = _
      rw [zPL he]; rfl
    | false =>
      refine (cF rfl).trans ?_
      refine (bnd (zjm (zMr x.rs))).trans ?_
      exact ixR x.hi
def zDc (v:zb × Int × Unit):zb × Int × Int × Unit:=(v.1,0,v.2.1,())
def zuf (r:ze) (s:zb) (me:pMe) (k i w:Int):List zh × Int × Unit:=bif k == 2 then zm9 (qa s me) i me.2.2.1 else bif k == 3 then jM (qa s me) i (inH me.2.2.1) (y4 (qo s me)) else bif k == 4 then jM (qa s me) i (y4 (qo s me)) (inH me.2.2.1) else zrh r s me i w
def zE4 (r:ze) (s:zb) (me:pMe) (k i w:Int) (nm:ByteArray):zb × Int × Int × Unit:=bif ql r s && qE r me then bif k == 1 then zoi s me (zaZ (qa s me) nm me.2.2.1) else zDc (zfU s me (zuf r s me k i w)) else (zKi,0,1,())
theorem zRc {r:ze} {s:zb} {me:pMe} (hr:z9 r) (hs:qJ s) (x:zaL):zoe (r,s,me,x,()) = some (zE4 r s me x.1 x.2.1 x.2.2.1 x.2.2.2.1):=by
  simp only [zoe]
  rw [zKz hr hs,zHq hr hs,zKt hr hs,zKu hr hs,zKv hr hs]
  simp only [Option.bind_some]
  unfold zE4 zuf
  cases ql r s && qE r me with
  | false=>cases ((x.1:Int) == 1) <;> cases ((x.1:Int) == 2) <;> cases ((x.1:Int) == 3) <;> cases ((x.1:Int) == 4) <;> rfl
  | true=>cases ((x.1:Int) == 1) <;> cases ((x.1:Int) == 2) <;> cases ((x.1:Int) == 3) <;> cases ((x.1:Int) == 4) <;> rfl
theorem zQ1 {r:ze} {s:zb} {me:pMe} (hr:z9 r) (hs:qJ s) (k i w:Int) (nm:ByteArray):zmD (r,s,me,k,i,w,nm,()) = some (zE4 r s me k i w nm):=by
  simp only [zmD]
  refine (bnd (zrV hr hs me)).trans ?_
  unfold zE4
  cases h:ql r s && qE r me with
  | false=>rfl
  | true =>
    simp only [Bool.and_eq_true] at h
    have x:Ctx r s me:=⟨h.1,h.2⟩
    have hl:s.2.1.length ≤ lim:=zlt (Nat.le_trans x.count (by omega))
    refine (cT rfl).trans ?_
    refine (ixR x.hi).trans ?_
    show _ = some (bif k == 1 then zoi s me (zaZ (qa s me) nm me.2.2.1) else zDc (zfU s me (zuf r s me k i w)))
    have go:∀ v:List zh × Int × Unit,(bif v.2.1 != 0 then some (zKi,(0:Int),v.2.1,()) else Option.bind (vZ (s,me.2.1,u2 (ix zf s.2.1 me.2.1) v.1,())) fun q=>some (q.1,(0:Int),(0:Int),())) = some (zDc (zfU s me v)):=fun v=>by
      unfold zfU
      cases v.2.1 != 0 with
      | true=>rfl
      | false=>exact bnd (zOV hl x.hi)
    cases h1:k == 1 with
    | true =>
      refine (cT rfl).trans ?_
      refine (bnd (zKs x.small nm me.2.2.1)).trans ?_
      show _ = some (zoi s me (zaZ (qa s me) nm me.2.2.1))
      unfold zoi
      cases he:(zaZ (qa s me) nm me.2.2.1).2.2.1 != 0 with
      | true=>exact cT rfl
      | false =>
        refine (cF rfl).trans ?_
        exact bnd (zOV hl x.hi)
    | false =>
      refine (cF rfl).trans ?_
      show _ = some (zDc (zfU s me (zuf r s me k i w)))
      unfold zuf
      cases h2:k == 2 with
      | true =>
        refine (cT rfl).trans ?_
        refine (bnd (zHp x.small i me.2.2.1)).trans ?_
        exact go _
      | false =>
        refine (cF rfl).trans ?_
        cases h3:k == 3 with
        | true =>
          refine (cT rfl).trans ?_
          refine (bnd (zpS x)).trans ?_
          refine (bnd (zKp x.small i me.2.2.1 (qo s me))).trans ?_
          exact go _
        | false =>
          refine (cF rfl).trans ?_
          cases h4:k == 4 with
          | true =>
            refine (cT rfl).trans ?_
            refine (bnd (zpS x)).trans ?_
            refine (bnd (zKr x.small i me.2.2.1 (qo s me))).trans ?_
            exact go _
          | false =>
            refine (cF rfl).trans ?_
            show _ = some (zDc (zfU s me (zrh r s me i w)))
            unfold zrh
            by_cases hw0:w < 0
            · refine (cT (decide_eq_true hw0)).trans ?_
              have:jL r w = false:=decide_eq_false (by omega)
              rw [this]; rfl
            · refine (cF (decide_eq_false hw0)).trans ?_
              by_cases hw1:w ≥ (r.2.2.1.length:Int)
              · refine (cT (decide_eq_true hw1)).trans ?_
                have:jL r w = false:=decide_eq_false (by omega)
                rw [this]; rfl
              · refine (cF (decide_eq_false hw1)).trans ?_
                have hw:jL r w = true:=decide_eq_true (by omega)
                rw [hw,Bool.true_and]
                by_cases hne:w = me.2.2.1
                · refine (cT (beq_iff_eq.2 hne)).trans ?_
                  have:(w != me.2.2.1) = false:=by rw [hne]; simp
                  rw [this]; rfl
                · refine (cF (beq_eq_false_iff_ne.2 hne)).trans ?_
                  rw [bne_iff_ne.2 hne]
                  refine (bnd (zfc (qa s me) i me.2.2.1)).trans ?_
                  cases yk (qa s me) i me.2.2.1 with
                  | false=>rfl
                  | true =>
                    refine (cT rfl).trans ?_
                    refine (ixR (x.place hw)).trans ?_
                    refine (ixR (x.place x.who)).trans ?_
                    show cond (!eqI zv (zjZ s me.2.1 w) (qo s me)) _ _ = _
                    cases eqI zv (zjZ s me.2.1 w) (qo s me) with
                    | false=>rfl
                    | true =>
                      refine (cF rfl).trans ?_
                      refine (bnd (zKq x.small i me.2.2.1 w)).trans ?_
                      exact go _
theorem zO5:zjh () = some (true,()):=by
  simp only [zjh,ze7,ze9,zbO,zbP,zca,zam,zPI]
  kernel_rfl
theorem zKA {s:zb} (h:zgw s) {i:Int} {l:List zh} (hl:l.length ≤ 2000000):zgw (upd s i (u2 (ix zf s.2.1 i) l)):=by
  have a:=zEX h i
  exact zPJ h ⟨a.rooms,a.exits,hl,a.mails,a.trades,a.purses,a.places⟩
theorem zAJ (l:List zh) (i:Int) (f g:qS):(jM l i f g).1.length ≤ l.length:=by
  unfold jM
  cases l.all qb <;> cases hOk f <;> cases hOk g <;> cases zlu l i <;> cases eqI qm (ofV (ix zj l i)) f <;> simp
theorem zPM (l:List zh) (nm:ByteArray) (w:Int):(zaZ l nm w).1.length ≤ l.length:=by
  unfold zaZ zEZ
  cases l.all qb <;> cases qn w <;> cases zd8 nm <;> cases decide (zfT l < 0) <;> simp
theorem zPN (r:ze) (s:zb) (me:pMe) (k i w:Int):(zuf r s me k i w).1.length ≤ (qa s me).length:=by
  unfold zuf
  cases k == 2 with
  | true =>
    simp only [cond_true]
    unfold zm9
    cases (jM (qa s me) i (inH me.2.2.1) (inH me.2.2.1)).2.1 != 0 <;> simp
  | false =>
    cases k == 3 with
    | true=>exact zAJ _ _ _ _
    | false =>
      cases k == 4 with
      | true=>exact zAJ _ _ _ _
      | false =>
        show (zrh r s me i w).1.length ≤ _
        unfold zrh
        have:=zAJ (qa s me) i (inH me.2.2.1) (inH w)
        cases jL r w && w != me.2.2.1 <;> cases yk (qa s me) i me.2.2.1 <;> cases eqI zv (zjZ s me.2.1 w) (qo s me) <;> first | exact Nat.zero_le _ | exact this
theorem zPO {r:ze} {s:zb} (h:zgw s) (me:pMe) (k i w:Int) (nm:ByteArray):zgw (zE4 r s me k i w nm).1:=by
  have hf:=(zEX h me.2.1).items
  unfold zE4
  cases ql r s && qE r me with
  | false=>exact zAH
  | true =>
    cases k == 1 with
    | true =>
      show zgw (zoi s me (zaZ (qa s me) nm me.2.2.1)).1
      unfold zoi
      cases (zaZ (qa s me) nm me.2.2.1).2.2.1 != 0 with
      | true=>exact zAH
      | false=>exact zKA h (Nat.le_trans (zPM _ _ _) hf)
    | false =>
      show zgw (zfU s me (zuf r s me k i w)).1
      unfold zfU
      cases (zuf r s me k i w).2.1 != 0 with
      | true=>exact zAH
      | false=>exact zKA h (Nat.le_trans (zPN _ _ _ _ _ _) hf)
theorem zQq (s:zb) (me:pMe):(zKy s me).length ≤ (qa s me).length:=zfS _ _
theorem zDd {r:ze} {j:Int} {a:qy}:∀ (l:List zp) (i:Nat),(∀ x ∈ l,x.2.2.1.length ≤ 12)→(vN r j a i l).length ≤ l.length * 12
  | [],_,_=>Nat.le_refl _
  | x :: l,i,h=>by
    have h1:=zDd (r:=r) (j:=j) (a:=a) l (i + 1) fun y hy=>h y (List.mem_cons_of_mem _ hy)
    have h2:=h x List.mem_cons_self
    have h3:=zfS (p:=yi (y4 a)) x.2.2.1 0
    have h4:(bif zik r (i:Int) j then zpT (i:Int) (z5 (yi (y4 a)) 0 x.2.2.1) else []).length ≤ 12:=by
      cases zik r (i:Int) j with
      | false=>exact Nat.zero_le _
      | true=>show (List.map _ _).length ≤ _; rw [List.length_map]; omega
    simp only [vN,List.length_append,List.length_cons]
    omega
theorem zKB {r:ze} {s:zb} (hr:z9 r) (hs:qJ s) (hf:zgw s) {me:pMe} {x:zaL}:zdB (r,s,me,x,()) = some (true,()):=by
  have hS:∀ t:zb,zgw t→zeY (t,t,()) = some (true,()):=fun t ht=>by rw [zKe (zOX ht),zNL]
  have hfa:=zPO (r:=r) hf me x.1 x.2.1 x.2.2.1 x.2.2.2.1
  have hb:∀ z:Int,(z == z) = true:=fun z=>beq_self_eq_true (α:=Int) z
  simp only [zdB]
  refine (bnd (zjm hf)).trans ?_
  refine (bnd (zRc hr hs x)).trans ?_
  refine (bnd (zQ1 hr hs x.1 x.2.1 x.2.2.1 x.2.2.2.1)).trans ?_
  refine (bnd (zL3 hr hs me)).trans ?_
  refine (bnd (zL4 hr hs me)).trans ?_
  refine (bnd (zE2 hr hs me)).trans ?_
  refine (bnd (zE3 hr hs me)).trans ?_
  refine (bnd zO5).trans ?_
  refine (cT rfl).trans ?_
  refine (bnd (hS _ hfa)).trans ?_
  refine (cT rfl).trans ?_
  refine (cT (hb _)).trans ?_
  refine (cT (hb _)).trans ?_
  have e1:zku ((bif ql r s && qE r me then (zKy s me,(0:Int),()) else ([],1,())).1,(bif ql r s && qE r me then (zKy s me,(0:Int),()) else ([],1,())).1,()) = some (true,()):=by
    have hl:=zQq s me
    have hi:=(zEX hf me.2.1).items
    rw [zQR (zhi (n:=_) ?_),y3 (τ:=tI) rfl]
    cases ql r s && qE r me with
    | false=>exact Nat.zero_le _
    | true=>exact Nat.le_trans hl hi
  have e2:zfB ((bif ql r s && qE r me then (vN r me.2.1 (qo s me) 0 s.2.1,(0:Int),()) else ([],1,())).1,(bif ql r s && qE r me then (vN r me.2.1 (qo s me) 0 s.2.1,(0:Int),()) else ([],1,())).1,()) = some (true,()):=by
    rw [zNO (zhi (n:=_) ?_),y3 (τ:=zv) rfl]
    cases h:ql r s && qE r me with
    | false=>exact Nat.zero_le _
    | true =>
      simp only [Bool.and_eq_true] at h
      have c:Ctx r s me:=⟨h.1,h.2⟩
      obtain ⟨hb,hz,-⟩:=y9 c.rs
      have:=zDd (r:=r) (j:=me.2.1) (a:=qo s me) s.2.1 0 fun y hy=>((zfg hb hz).shelf y hy).2.2.1
      have:=c.count
      show (vN r me.2.1 (qo s me) 0 s.2.1).length ≤ 2000000
      omega
  refine (bnd e1).trans ?_
  refine (cT rfl).trans ?_
  refine (cT (hb _)).trans ?_
  refine (bnd e2).trans ?_
  refine (cT rfl).trans ?_
  refine (cT (hb _)).trans ?_
  refine (bnd (hS s hf)).trans ?_
  rfl
theorem zNP {r:ze} {s:zb} {m:pMe} {x:zaL} {n:Nat} (h:bkI zgV (r,s,m,x,()) ≤ n) (hn:n ≤ 2000000):zgw s:=by
  have e:bkI zgV (r,s,m,x,()) = bkI zw r + (bkI zn s + (bkI tMe m + (bkI jb x + 0))):=rfl
  exact zQm (n:=n) (by omega) hn
end Go.Proofs.YtejbgeokcpillaaGreatDoor
end
section
namespace Go.Proofs.YtejbgeokcpillaaGreatDoor.fnGoodsTells
open Go.ChangeShapes Go.WideShapes Go.ChangeAt Go.RowKit Go.Ev
theorem own:ownKnob Tryz.prog.godebug = none:=by kernel_rfl
def zO6:List Int→List Value:=List.map (Value.int .u8)
theorem zQ2:∀ f add,Ev.look ext f = some add→ExtOk Tryz.prog f add:=by
  intro f add h
  have h':(Nat.beq 292 f = true ∧ add = false) ∨ (Nat.beq 322 f = true ∧ add = true):=by
    simp only [ext,Ev.look] at h
    cases h1:Nat.beq 292 f with
    | true=>rw [h1] at h; exact .inl ⟨rfl,(Option.some.inj h).symm⟩
    | false =>
      rw [h1] at h
      cases h2:Nat.beq 322 f with
      | true=>rw [h2] at h; exact .inr ⟨rfl,(Option.some.inj h).symm⟩
      | false=>rw [h2] at h; cases h
  rcases h' with ⟨h1,rfl⟩ | ⟨h1,rfl⟩
  · obtain rfl:=Nat.eq_of_beq_eq_true h1
    intro x y w hx hy hy2
    obtain ⟨m,rfl⟩:=Int.eq_ofNat_of_zero_le hx
    obtain ⟨n,rfl⟩:=Int.eq_ofNat_of_zero_le hy
    rw [run_callFunc_extern (P:=Tryz.prog) (f:=292) Tryz.func292 (by kernel_rfl) (by kernel_rfl) (by kernel_rfl) (e:=sub64Entry) (by kernel_rfl)]
    have h0:(sub64Entry #[.int .u64 (m:Int),.int .u64 (n:Int),.int .u64 0]).run Tryz.prog w = .ok (.tuple #[.int .u64 (((m + 18446744073709551616 - n - 0) % 18446744073709551616:Nat):Int),.int .u64 ((if m < n + 0 then 1 else 0:Nat):Int)]) w:=run_sub64 m n 0 (by omega) w
    have e1:extA false (m:Int) (n:Int) = (((m + 18446744073709551616 - n - 0) % 18446744073709551616:Nat):Int):=by
      show ((m:Int) - (n:Int)) % 18446744073709551616 = _
      omega
    have e2:extB false (m:Int) (n:Int) = ((if m < n + 0 then 1 else 0:Nat):Int):=by
      show cond (decide ((m:Int) < (n:Int))) 1 0 = _
      by_cases h:m < n
      · rw [decide_eq_true (by omega),if_pos (by omega)]; rfl
      · rw [decide_eq_false (by omega),if_neg (by omega)]; rfl
    rw [h0,e1,e2]
    rfl
  · obtain rfl:=Nat.eq_of_beq_eq_true h1
    intro x y w hx hy hy2
    rw [run_callFunc_extern (P:=Tryz.prog) (f:=322) Tryz.func322 (by kernel_rfl) (by kernel_rfl) (by kernel_rfl) (e:=add64Entry) (by kernel_rfl),run_add64 x y 0 hx hy (by omega) (by omega),Int.add_zero]
    rfl
theorem env {W:World} (hL:laidMetH Tryz.prog Rows.goodsTellsUptoRow.laid W):EnvOk Tryz.prog (FH.of W) E0:=by
  exact EnvOk.nil (by kernel_rfl) (fun g v hv=>by cases hv) zQ2
mutual
theorem zQS {H:Type}:∀ d:DataW H,dbk d ≤ Rows.uptoBulk d
  | .slice e s=>by have:=zri e; simp only [dbk,Rows.uptoBulk]; omega
  | .agg p=>by have:=zri p; simp only [dbk,Rows.uptoBulk]; omega
  | .lit l=>by cases l <;> simp [dbk,Rows.uptoBulk]
  | .nil=>by simp [dbk,Rows.uptoBulk]
  | .ptr d=>by simp [dbk,Rows.uptoBulk]
  | .iface t d=>by simp [dbk,Rows.uptoBulk]
  | .map es=>by simp [dbk,Rows.uptoBulk]
  | .held h=>by simp [dbk,Rows.uptoBulk]
theorem zri {H:Type}:∀ l:List (DataW H),dbkAll l ≤ Rows.uptoBulkAll l
  | []=>Nat.zero_le _
  | d :: l=>by have h1:=zQS d; have h2:=zri l; simp only [dbkAll,Rows.uptoBulkAll]; omega
end
theorem zPP {H:Type} (l r:List (DataW H)):Rows.uptoBulkAll (l ++ r) = Rows.uptoBulkAll l + Rows.uptoBulkAll r:=by
  induction l with
  | nil=>simp [Rows.uptoBulkAll]
  | cons x l ih=>simp only [List.cons_append,Rows.uptoBulkAll,ih]; omega
theorem small {H:Type} {n:Nat} {ds gs:List (DataW H)} (h:n ≤ dbkAll ds) (hk:Rows.uptoSmall H (ds ++ gs) = true):n ≤ 1048576:=by
  have h1:=zri ds
  have h2:=zPP ds gs
  have h3:Rows.uptoBulkAll (ds ++ gs) ≤ 1048576:=of_decide_eq_true hk
  omega
set_option maxRecDepth 100000 in
theorem zPQ (H:Type) (enc:TypeId × Value→H) (W:World) (base:Nat) (args:Array Value) (ds gs:List (DataW H)) (before:List MemPlace)
    (hval:∀ (j:Nat) t v,Tryz.f3.params[j]? = some t→args[j]? = some v→Value.okWide Tryz.prog W .any base t v)
    (hW:DataW.Whole enc Tryz.prog Tryz.f3.params.toList Rows.goodsTellsSpec.vars false W args.toList ds gs before) (hL:laidMetH Tryz.prog Rows.goodsTellsUptoRow.laid W) (hk:Rows.uptoSmall H (ds ++ gs) = true) :
    Calls Tryz.prog 3 args W fun e W'=>∃ v,e = .returned v ∧ Rows.goodsTellsSpec.post enc Tryz.prog Tryz.f3 false true false false W args v W':=by
  refine law_contract (a:=zgV) (tb:=4) (by kernel_rfl) (by decide +kernel) (by kernel_rfl) (by kernel_rfl) (by kernel_rfl) rfl (fun ds hd=>?_) hval hW fun x hx hbk hr=>?_
  · have:Tryz.f3.params.size = 4:=by kernel_rfl
    rw [this] at hd
    match ds,hd with
    | [d1,d2,d3,d4],_=>rfl
  · have hs:=zxD (FH.of W) (env hL)
    have he:zdB x = some (true,()):=by
      obtain ⟨r,s,m,d,⟨⟩⟩:=x
      exact zKB (realmIn hx.1) (stateIn hx.2.1) (zNP (small hbk hk) (by omega))
    have hc:=hs.2 x (true,()) he (FH.of W) W args.toList (FH.le.refl _) (FH.of_ok W) hr
    refine hc.mono fun e W' he=>?_
    obtain ⟨us,F',h1,h2,_,_,h3⟩:=he
    refine ⟨?_,h2⟩
    obtain ⟨v,r,hus,hv,hva,hnil⟩:=(show RepA Tryz.prog F' (.pair .bool .unit) (true,()) us from h3)
    have hr0:r = []:=hnil
    subst hr0
    have hv':v.cells.toList = [.bool true]:=hv
    rw [h1,hus]
    have hva':isAggV v = false:=hva
    have:v = .bool true:=by
      cases v <;> first | (simp [isAggV] at hva'; done) | (simp [Value.cells] at hv'; exact congrArg _ hv') | (simp [Value.cells] at hv')
    rw [this]
    rfl
def zQT (l:List Value):Obj→Obj
  | .cells _ t frozen=>.cells l.toArray t frozen
  | o=>o
noncomputable def laidWorld (os:Os):World :=
  { World.holding Tryz.prog os ⟨#[],#[],[]⟩ with heap:=((World.holding Tryz.prog os ⟨#[],#[],[]⟩).heap.modify 0 (zQT (zO6 (Pinned.utf8FirstZ.map fun n:Nat=>(n:Int))))).modify 1 (zQT (zO6 [128,191,160,191,128,159,144,191,128,143,0,0,0,0,0,0,0,0,0,0,0,0,0,0,0,0,0,0,0,0,0,0])) }
def arg0:Value:=.agg #[.slice none 0 0,.slice none 0 0,.slice none 0 0,.slice none 0 0,.slice none 0 0,.int .i64 0,.int .i64 0,.int .i64 0,.int .i64 0]
def zNQ:Value:=.agg #[.int .u64 0,.slice none 0 0,.slice none 0 0,.slice none 0 0,.slice none 0 0,.slice none 0 0]
def zNR:Value:=.agg #[.int .i64 0,.int .i64 0,.int .i64 0]
def zNS:Value:=.agg #[.int .i64 0,.int .i64 0,.int .i64 0,.string ⟨#[]⟩]
theorem laid_met (os:Os):laidMet Tryz.prog Rows.goodsTellsUptoRow.laid ((laidWorld os).forCall (fun _ _=>0) ⟨#[],#[arg0,zNQ,zNR,zNS],[]⟩).memory :=
  laidMet_of_run' 8 (by kernel_rfl) (by kernel_rfl)
theorem reads (os:Os) {H:Type} (enc:TypeId × Value→H):∃ places,DataW.whole enc Tryz.prog ((laidWorld os).forCall (fun _ _=>0) ⟨#[],#[arg0,zNQ,zNR,zNS],[]⟩).memory Tryz.f3.params.toList Rows.goodsTellsSpec.vars false #[arg0,zNQ,zNR,zNS].toList 8 = some ([.agg [.nil,.nil,.nil,.nil,.nil,.lit (.int .i64 0),.lit (.int .i64 0),.lit (.int .i64 0),.lit (.int .i64 0)],.agg [.lit (.int .u64 0),.nil,.nil,.nil,.nil,.nil],.agg [.lit (.int .i64 0),.lit (.int .i64 0),.lit (.int .i64 0)],.agg [.lit (.int .i64 0),.lit (.int .i64 0),.lit (.int .i64 0),.lit (.string [])]],[],places) :=
  ⟨[],by kernel_rfl⟩
set_option maxRecDepth 100000 in
theorem lifted (os:Os) (started:os.Started) (H:Type) (enc:TypeId × Value→H) (F:Stop.Interp) :
    ReturnsInHanded {} Tryz.checked os 3 .any ((Rows.OpenSpec.upto Rows.goodsTellsSpec).preRow enc Tryz.prog Tryz.f3 Rows.goodsTellsUptoRow.domain false Rows.goodsTellsUptoRow.laid) (((Rows.OpenSpec.upto Rows.goodsTellsSpec).at F).post enc Tryz.prog Tryz.f3 false true false false):=by
  obtain ⟨places,hx⟩:=reads os enc
  refine returnsInHanded_of_row (C:=Tryz.checked) (s:=Rows.OpenSpec.upto Rows.goodsTellsSpec) own started (by kernel_rfl) Tryz.func3
    (witness_row_at (enc:=enc) (C:=Tryz.checked) false (laidWorld os) #[arg0,zNQ,zNR,zNS] rfl (by kernel_rfl) (by kernel_rfl) (by kernel_rfl)
      (OpenSpec.preRow_of_cond 8 hx (by kernel_rfl) (fun k hk=>by cases hk; kernel_rfl) (by kernel_rfl) (laid_met os))) ?_
  intro W base args ds gs before hval hW _ hcond _ hL _ _
  exact zPQ H enc W base args ds gs before hval hW hL (hcond _ rfl)
end Go.Proofs.YtejbgeokcpillaaGreatDoor.fnGoodsTells
end
section
namespace Go.Proofs.YtejbgeokcpillaaGreatDoor.fnGoodsTells
open Go.ChangeShapes Go.WideShapes Go.ChangeAt Go.RowKit Go.Ev
theorem k2:laidOutB Tryz.prog = true:=by kernel_rfl
theorem k3:mapsRowed Tryz.prog = true:=by kernel_rfl
theorem k10:(Rows.goodsTellsUptoRow.inPlace == Tryz.prog.inPlace 3) = true:=by kernel_rfl
theorem k11:(Rows.goodsTellsUptoRow.unfollowed == Tryz.prog.unfollowed 3) = true:=by kernel_rfl
theorem k12:(Rows.goodsTellsUptoRow.recurses == Tryz.prog.recurses 3) = true:=by kernel_rfl
theorem k13:(Rows.goodsTellsUptoRow.named == Tryz.prog.varsNamed 3) = true:=by kernel_rfl
theorem k23:(Rows.goodsTellsUptoRow.plainKeys == Tryz.prog.plainKeys) = true:=by kernel_rfl
theorem k24:Tryz.prog.stopsHeard = true:=by kernel_rfl
theorem k25:Tryz.prog.mayEnter = true:=by kernel_rfl
theorem k26:(Rows.goodsTellsUptoRow.lifted == Tryz.prog.liftsFinal) = true:=by kernel_rfl
theorem k27:(Tryz.prog.make == some Rows.goodsTellsUptoRow.make) = true:=by kernel_rfl
theorem zQr:joinedFacts Tryz.prog 3 Tryz.f3 (Rows.OpenSpec.upto Rows.goodsTellsSpec).bare Rows.goodsTellsUptoRow = true:=by
  unfold joinedFacts
  rw [k2,k3,k10,k11,k12,k13,k23,k24,k25,k26,k27]
  kernel_rfl
theorem peq:Tryz.pinned.checked.prog = Tryz.prog:=by kernel_rfl
theorem closed:joinedFacts Tryz.pinned.checked.prog 3 Tryz.f3 (Rows.OpenSpec.upto Rows.goodsTellsSpec).bare Rows.goodsTellsUptoRow = true:=by
  rw [peq]; exact zQr
end Go.Proofs.YtejbgeokcpillaaGreatDoor.fnGoodsTells
end
