import Derived.Test.YtejbgeokcpillaaGreatDoorGse
import Derived.Shelf.Spec.BitsCarry
import Derived.Test.YtejbgeokcpillaaGreatDoorCards
import Derived.Test.YtejbgeokcpillaaGreatDoorTie
import Derived.ProofKit
import Derived.OpenShut
import Derived.Deep.DeepHandedRow
set_option linter.unusedVariables false
set_option linter.unusedSimpArgs false
section
namespace Go.Proofs.YtejbgeokcpillaaGreatDoor
open Go.Ev
theorem zNK (o:List (Int × Int)) (x z v:Int):jK tI (jP tI o x v) z = (jK tI o z || z == x):=by
  induction o with
  | nil=>simp only [jP,jK]; show (bif z == x then true else false) = (false || z == x); cases z == x <;> rfl
  | cons e o ih =>
    obtain ⟨e1,e2⟩:=e
    have hx:∀ y:Int,eqI tI y e1 = (y == e1):=fun y=>rfl
    simp only [jP,jK,hx]
    cases h:x == e1 with
    | true =>
      have:=eq_of_beq h
      subst this
      simp only [cond_true,jK,hx]
      cases z == x <;> simp
    | false =>
      simp only [cond_false,jK,ih,hx]
      cases z == e1 <;> rfl
theorem zFC (o:List (Int × Int)) (x v:Int):(jP tI o x v).length = o.length + (bif jK tI o x then 0 else 1):=by
  induction o with
  | nil=>rfl
  | cons e o ih =>
    simp only [jP,jK]
    cases h:eqI tI x e.1 with
    | true=>simp only [cond_true,List.length_cons,Nat.add_zero]
    | false =>
      simp only [cond_false,List.length_cons,ih]
      generalize (bif jK tI o x then 0 else 1) = n
      omega
def zrM:List Int→List (Int × Int)→Nat
  | [],o=>o.length
  | x :: l,o=>zrM l (jP tI o x (wI (zaQ tI (0:Int) o x + 1)))
theorem zMw:∀ (l:List Int) (o:List (Int × Int)),zrM l o ≤ o.length + l.length
  | [],o=>Nat.le_refl _
  | x :: l,o=>by
    have h:=zMw l (jP tI o x (wI (zaQ tI (0:Int) o x + 1)))
    rw [zFC] at h
    simp only [zrM,List.length_cons]
    cases hm:jK tI o x <;> (rw [hm] at h; simp only [cond_true,cond_false] at h; omega)
theorem zMx:∀ (l:List Int) (o:List (Int × Int)),zrM l o = o.length + l.length ↔ (l.Pairwise (· ≠ ·) ∧ ∀ x ∈ l,jK tI o x = false)
  | [],o=>by simp [zrM]
  | x :: l,o=>by
    have h:=zMw l (jP tI o x (wI (zaQ tI (0:Int) o x + 1)))
    have ih:=zMx l (jP tI o x (wI (zaQ tI (0:Int) o x + 1)))
    rw [zFC] at h ih
    simp only [zrM,List.length_cons,List.pairwise_cons]
    cases hm:jK tI o x with
    | true =>
      rw [hm] at h
      simp only [cond_true] at h
      constructor
      · intro h1; omega
      · rintro ⟨-,h1⟩
        have:=h1 x (by simp)
        rw [hm] at this; cases this
    | false =>
      rw [hm] at ih
      simp only [cond_false] at ih
      rw [show o.length + (l.length + 1) = o.length + 1 + l.length by omega,ih]
      simp only [zNK]
      constructor
      · rintro ⟨h1,h2⟩
        refine ⟨⟨fun z hz=>?_,h1⟩,fun z hz=>?_⟩
        · have:=h2 z hz
          simp only [Bool.or_eq_false_iff,beq_eq_false_iff_ne] at this
          exact fun e=>this.2 e.symm
        · rcases List.mem_cons.1 hz with rfl | hz
          · exact hm
          · have:=h2 z hz
            simp only [Bool.or_eq_false_iff] at this
            exact this.1
      · rintro ⟨⟨h1,h2⟩,h3⟩
        refine ⟨h2,fun z hz=>?_⟩
        simp only [Bool.or_eq_false_iff,beq_eq_false_iff_ne]
        exact ⟨h3 z (by simp [hz]),fun e=>h1 z hz e.symm⟩
def zgl (l:List zu):Bool:=l.all zmc && zrM (zrL l) [] == (zrL l).length
theorem zJY {l:List zu} (hl:l.length ≤ 1000000) (h:∀ x ∈ l,zh0 x):zpq (l,()) = some (zgl l,()):=by
  have hloop:=j5 (B:=ze5) (l:=l) (α:=Nat × List (Int × Int)) zK (fun i s=>s.1 ≤ i) (fun i s=>((s.1:Int),l,(l.length:Int),i,s.2))
    (fun rest s=>some (rest.all zmc && zrM (zrL rest) s.2 == s.1 + (zrL rest).length,())) (by unfold Go.maxLen; omega) (fun k i x rest s hi hI hx hm hr hk=>by
      obtain ⟨n,o⟩:=s
      simp only [ze5]
      have hn:n ≤ i:=hI
      have hw:wI ((n:Int) + 1) = ((n + 1:Nat):Int):=by
        unfold wI
        rw [IntWalk.i64_in _ (by omega)]; rfl
      rw [ltT hi,zk hi]
      simp only [zG,hx,cond_true,zNJ (h x hm),Option.bind_some,hw,zrL,zmb,List.all_cons,zmc]
      cases hlive:x.1 with
      | false =>
        simp only [cond_false]
        have:=hk (n,o) (by show n ≤ i + 1; omega)
        cases eqI zr x (zd zr) with
        | false=>rfl
        | true=>exact this
      | true =>
        simp only [cond_true,List.map_cons,zrM,List.length_cons]
        have:=hk (n + 1,jP tI o x.2.2.2.2.2.2.2.2.2.1 (wI (zaQ tI (0:Int) o x.2.2.2.2.2.2.2.2.2.1 + 1))) (by show n + 1 ≤ i + 1; omega)
        cases zjD x with
        | false=>rfl
        | true =>
          refine this.trans ?_
          simp only [zrL,Bool.true_and]
          rw [show n + 1 + (List.map (fun x:zu=>x.2.2.2.2.2.2.2.2.2.1) (List.filter (fun x=>x.1) rest)).length = n + ((List.map (fun x:zu=>x.2.2.2.2.2.2.2.2.2.1) (List.filter (fun x=>x.1) rest)).length + 1) by omega]) (fun k s _=>by
      obtain ⟨n,o⟩:=s
      simp only [ze5]
      rw [ltF]
      simp only [cond_false,zrL,List.filter_nil,List.map_nil,zrM,List.length_nil,List.all_nil,Bool.true_and,Nat.add_zero]
      rw [zOU]
      cases o.length == n <;> rfl) (0,[]) (Nat.le_refl _)
  refine hloop.trans ?_
  unfold zgl
  rw [Nat.zero_add]
theorem zLZ {l:List zu} (hl:l.length ≤ Go.maxLen) (n:Nat) (hn:n ≤ l.length) (b:Int):zms (l,(n:Int),b,()) = some (!zW (fun j=>!((l.getD j zK).1 && ((l.getD j zK).2.2.2.2.2.2.2.2.2.1:Int) == b)) 0 (n - 0),()):=by
  have hloop:=z8 (B:=zf0) (i0:=0) (n:=n) (p:=fun j=>!((l.getD j zK).1 && ((l.getD j zK).2.2.2.2.2.2.2.2.2.1:Int) == b)) (fin:=some (false,())) (bad:=some (true,())) (by omega) (Nat.zero_le _) (fun i=>(l,(n:Int),b,i)) (fun k i h1 h2=>by
    simp only [zf0]
    rw [ltT h2]
    simp only [zk (show i < l.length by omega),zG,cond_true]
    grind) (fun k=>by simp only [zf0]; rw [ltF]; rfl)
  refine hloop.trans ?_
  cases zW (fun j=>!((l.getD j zK).1 && ((l.getD j zK).2.2.2.2.2.2.2.2.2.1:Int) == b)) 0 (n - 0) <;> rfl
theorem zNL {l:List zu}:(zrL l).Pairwise (· ≠ ·) ↔ ∀ i j:Nat,i < j→j < l.length→(l.getD i zK).1 = true→(l.getD j zK).1 = true→(l.getD i zK).2.2.2.2.2.2.2.2.2.1 ≠ (l.getD j zK).2.2.2.2.2.2.2.2.2.1:=by
  unfold zrL
  rw [List.pairwise_map,List.pairwise_filter,List.pairwise_iff_getElem]
  have e:∀ i (h:i < l.length),l.getD i zK = l[i]:=fun i h=>by simp [List.getD,h]
  constructor
  · intro h i j hij hj h1 h2
    rw [e i (by omega)] at h1 ⊢
    rw [e j hj] at h2 ⊢
    exact h i j (by omega) hj hij h1 h2
  · intro h i j hi hj hij h1 h2
    have:=h i j hij hj (by rw [e i hi]; exact h1) (by rw [e j hj]; exact h2)
    rw [e i hi,e j hj] at this
    exact this
theorem zNM (l:List zu):zgl l = zW (fun i=>zmc (l.getD i zK) && (!(l.getD i zK).1 || zW (fun j=>!((l.getD j zK).1 && ((l.getD j zK).2.2.2.2.2.2.2.2.2.1:Int) == (l.getD i zK).2.2.2.2.2.2.2.2.2.1)) 0 (i - 0))) 0 (l.length - 0):=by
  rw [Bool.eq_iff_iff,qL]
  unfold zgl
  have hc:=zMx (zrL l) []
  simp only [List.length_nil,Nat.zero_add] at hc
  simp only [Bool.and_eq_true,List.all_eq_true,beq_iff_eq,hc,zNL]
  constructor
  · rintro ⟨h1,h2,-⟩ i _ hi
    refine ⟨h1 _ (zV (by omega)),?_⟩
    cases hlive:(l.getD i zK).1 with
    | false=>rfl
    | true =>
      simp only [Bool.not_true,Bool.false_or,qL]
      intro j _ hj
      cases hj1:(l.getD j zK).1 with
      | false=>rfl
      | true =>
        have:=h2 j i (by omega) (by omega) hj1 hlive
        simp only [Bool.true_and,Bool.not_eq_true',beq_eq_false_iff_ne]
        exact this
  · intro h
    refine ⟨fun x hx=>?_,fun i j hij hj h1 h2=>?_,fun x _=>rfl⟩
    · obtain ⟨i,hi,rfl⟩:=List.mem_iff_getElem.1 hx
      have e:l.getD i zK = l[i]:=by simp [List.getD,hi]
      rw [← e]
      exact (h i (by omega) (by omega)).1
    · have:=(h j (by omega) (by omega)).2
      rw [h2] at this
      simp only [Bool.not_true,Bool.false_or,qL] at this
      have:=this i (by omega) (by omega)
      rw [h1] at this
      simp only [Bool.true_and,Bool.not_eq_true',beq_eq_false_iff_ne] at this
      exact this
theorem zHb {l:List zu} (hl:l.length ≤ Go.maxLen) (h:∀ x ∈ l,zh0 x):znu (l,()) = some (zgl l,()):=by
  rw [zF,zNM]
  exact z8 (B:=zc7) (i0:=0) hl (Nat.zero_le _) (fun i=>(l,i)) (fun k i h1 h2=>by
    simp only [zc7]
    rw [ltT h2]
    simp only [zk h2,zG,cond_true]
    rw [zLY (h _ (zV h2)),zLZ hl i (by omega)]
    simp only [Option.bind_some,zmc]
    grind) (fun k=>by simp only [zc7]; rw [ltF]; rfl)
structure zom (x:zJ):Prop where
  amount:zgP x.2.2.2.2.2.2.2.1
  price:zgP x.2.2.2.2.2.2.2.2.1
def zh1 (x:zJ):Bool:=(decide (x.1 ≤ M62) && (qn x.2.1 && (qn x.2.2.1 && (qn x.2.2.2.1 && qn x.2.2.2.2.2.2.2.2.2.1)))) && bif (x.2.2.2.2.1:Int) == 3 then ((x.2.2.2.2.2.1:Int) == 0 && (x.2.2.2.2.2.2.1:Int) == 0) && ((x.2.2.2.2.2.2.2.1:Int) == 0 && (x.2.2.2.2.2.2.2.2.1:Int) == 0)
  else ((zlq x.2.2.2.2.1 x.2.2.2.2.2.2.2.1 x.2.2.2.2.2.2.2.2.1).2.1 == 0 && (x.2.2.2.2.2.2.2.2.2.1:Int) == 0) && ((x.2.2.2.2.2.1:Int) != x.2.2.2.2.2.2.1 && (qH x.2.2.2.2.2.1 && qH x.2.2.2.2.2.2.1))
theorem zOZ (x:zJ):eqI zA x (x.1,x.2.1,x.2.2.1,x.2.2.2.1,x.2.2.2.2.1,(zd zA).2.2.2.2.2.1,(zd zA).2.2.2.2.2.2.1,(zd zA).2.2.2.2.2.2.2.1,(zd zA).2.2.2.2.2.2.2.2.1,x.2.2.2.2.2.2.2.2.2.1,(zd zA).2.2.2.2.2.2.2.2.2.2) = (((x.2.2.2.2.2.1:Int) == 0 && (x.2.2.2.2.2.2.1:Int) == 0) && ((x.2.2.2.2.2.2.2.1:Int) == 0 && (x.2.2.2.2.2.2.2.2.1:Int) == 0)):=by
  show cond ((x.1:Int) == x.1) (cond ((x.2.1:Int) == x.2.1) (cond ((x.2.2.1:Int) == x.2.2.1) (cond ((x.2.2.2.1:Int) == x.2.2.2.1) (cond ((x.2.2.2.2.1:Int) == x.2.2.2.2.1) (cond ((x.2.2.2.2.2.1:Int) == 0) (cond ((x.2.2.2.2.2.2.1:Int) == 0) (cond ((x.2.2.2.2.2.2.2.1:Int) == 0) (cond ((x.2.2.2.2.2.2.2.2.1:Int) == 0) (cond ((x.2.2.2.2.2.2.2.2.2.1:Int) == x.2.2.2.2.2.2.2.2.2.1) true false) false) false) false) false) false) false) false) false) false = _
  simp only [beq_self_eq_true,cond_true]
  cases ((x.2.2.2.2.2.1:Int) == 0) <;> cases ((x.2.2.2.2.2.2.1:Int) == 0) <;> cases ((x.2.2.2.2.2.2.2.1:Int) == 0) <;> cases ((x.2.2.2.2.2.2.2.2.1:Int) == 0) <;> rfl
theorem zL0 {x:zJ} (h:zom x):zmz (x,()) = some (zh1 x,()):=by
  rw [zF]
  simp only [zmz,zzk h.amount h.price,zNI,zbT,Option.bind_some,zh1]
  rw [zOZ x]
  generalize zlq x.2.2.2.2.1 x.2.2.2.2.2.2.2.1 x.2.2.2.2.2.2.2.2.1 = n
  unfold M62
  grind
theorem zL1 {x:zJ} (h:zom x):zmx (x,()) = some (zh1 x,()):=by
  rw [zF]
  simp only [zmx,zxK h.amount h.price,zLX,Option.bind_some,zh1]
  have hz:(x.2.2.2.2.2.2.2.2.2.1:Int) == 0→qn x.2.2.2.2.2.2.2.2.2.1 = true:=fun h=>by unfold qn; grind
  generalize zlq x.2.2.2.2.1 x.2.2.2.2.2.2.2.1 x.2.2.2.2.2.2.2.2.1 = n
  unfold M62 qH
  grind
def zC7 (a b:zJ):Int:=orV (zlj a.1 b.1) (zlj a.2.1 b.2.1)
theorem zHc (a b:zJ):zi2 (a,b,()) = some (zC7 a b,()):=by
  simp only [zi2,zvj,zpC,Option.bind_some]
  show Option.bind (zej ([zlj a.1 b.1,zlj a.2.1 b.2.1],())) _ = _
  rw [zQO]; rfl
theorem zEV (a b:zJ):zhx (a,b,()) = some (!decide (zC7 b a ≥ 0),()):=by
  rw [zF]
  simp only [zhx,zC7,orV,zlj]
  grind
def zjE (l:List zJ):Bool:=zW (fun i=>zh1 (l.getD i vU) && (decide (i = 0) || !decide (zC7 (l.getD (i - 1) vU) (l.getD i vU) ≥ 0))) 0 (l.length - 0)
theorem zHd {l:List zJ} (hl:l.length ≤ Go.maxLen) (h:∀ x ∈ l,zom x):zny (l,()) = some (zjE l,()):=by
  rw [zF]
  exact z8 (B:=zdc) (i0:=0) hl (Nat.zero_le _) (fun i=>(l,l,(l.length:Int),i)) (fun k i h1 h2=>by
    simp only [zdc]
    rw [ltT h2,zk h2,zG,zL0 (h _ (zV h2))]
    by_cases h0:i = 0
    · subst h0
      simp only [cond_true,Option.bind_some]
      grind
    · rw [zjN (by omega) (by omega),zk (by omega),Int.toNat_natCast,zHc]
      simp only [cond_true,Option.bind_some]
      grind) (fun k=>by simp only [zdc]; rw [ltF]; rfl)
theorem zHe {l:List zJ} (hl:l.length ≤ Go.maxLen) (h:∀ x ∈ l,zom x):znw (l,()) = some (zjE l,()):=by
  rw [zF]
  exact z8 (B:=zc9) (i0:=0) hl (Nat.zero_le _) (fun i=>(l,i)) (fun k i h1 h2=>by
    simp only [zc9]
    rw [ltT h2,zk h2,zG,zL1 (h _ (zV h2))]
    by_cases h0:i = 0
    · subst h0
      simp only [cond_true,Option.bind_some]
      grind
    · rw [zjN (by omega) (by omega),zk h2,zk (by omega),Int.toNat_natCast,zEV]
      simp only [cond_true,Option.bind_some]
      grind) (fun k=>by simp only [zc9]; rw [ltF]; rfl)
end Go.Proofs.YtejbgeokcpillaaGreatDoor
end
section
namespace Go.Proofs.YtejbgeokcpillaaGreatDoor
open Go.Ev
def zt2 (a:List Int):Prop:=∀ x ∈ a,zgP x
theorem zbU {a:List Int} (h:zt2 a) (i:Nat):zgP (a.getD i 0):=by
  by_cases hi:i < a.length
  · exact h _ (zV hi)
  · rw [List.getD_eq_getElem?_getD,List.getElem?_eq_none (by omega)]
    unfold zgP U64; decide
structure zte (x:zp):Prop where
  trades:∀ t ∈ x.2.2.2.2.1,zhX t
  purses:∀ a ∈ x.2.2.2.2.2.1,zt2 a
  made:zt2 x.2.2.2.2.2.2.2.1
  spent:zt2 x.2.2.2.2.2.2.2.2.1
structure qJ (s:zb):Prop where
  shelves:∀ x ∈ s.2.1,zte x
  orders:∀ x ∈ s.2.2.2.1,zh0 x
  entries:∀ x ∈ s.2.2.2.2.1,zom x
def zjX (r:zf) (x:zp) (q:zbn):Bool:=((decide ((x.1.length:Int) = q.1) && decide ((x.2.1.length:Int) = q.2.1)) && (decide ((x.2.2.1.length:Int) = q.2.2.1) && decide ((x.2.2.2.1.length:Int) = q.2.2.2.1))) && (decide ((x.2.2.2.2.1.length:Int) = q.2.2.2.2.1) && (decide (x.2.2.2.2.2.1.length = r.2.2.1.length) && decide (x.2.2.2.2.2.2.1.length = r.2.2.1.length)))
def zhd (r:zf) (s:zb):Bool:=(decide (s.2.1.length = r.1.length) && (decide ((s.2.2.2.1.length:Int) = r.2.2.2.2.2.1) && decide ((s.2.2.2.2.1.length:Int) ≤ r.2.2.2.2.2.2.1))) && ((decide (s.2.2.2.2.2.1.length = r.2.1.length) && decide (s.1 ≤ M62)) && zW (fun i=>zjX r (s.2.1.getD i ze) (r.2.2.2.2.1.getD i qt)) 0 (s.2.1.length - 0))
theorem neI (a b:Int):(a != b) = !decide (a = b):=by
  rw [Bool.eq_iff_iff]; simp
theorem zHf {r:zf} (hr:z9 r) (s:zb):zcc ((r,s,()),()) = some (qZ r && zhd r s,()):=by
  rw [zF]
  simp only [zcc,zjd,znH r hr,Option.bind_some]
  cases hb:qZ r with
  | false=>rfl
  | true =>
    have ok:=vN hb
    have ok1:=ok.labels
    have ok2:=ok.quotas
    rw [ziP,ziP]
    unfold zhd M62
    by_cases hn:s.2.1.length = r.1.length
    · have hloop:zla K0 ((r.2.2.1.length:Int),s.2.1,(s.2.1.length:Int),0,(r,s,())) = bif zW (fun i=>zjX r (s.2.1.getD i ze) (r.2.2.2.2.1.getD i qt)) 0 (s.2.1.length - 0) then some (true,()) else some (false,()) :=
        z8 (i0:=0) (n:=s.2.1.length) (by unfold Go.maxLen; omega) (Nat.zero_le _) (fun i=>((r.2.2.1.length:Int),s.2.1,(s.2.1.length:Int),i,(r,s,()))) (fun k i h1 h2=>by
          simp only [zgN]
          rw [ltT h2,zk h2,zk (by omega)]
          simp only [zG,neI,cond_true,zjX]
          generalize s.2.1.getD i ze = x
          generalize r.2.2.2.2.1.getD i qt = q
          generalize k _ = kk
          grind (splits:=30)) (fun k=>by simp only [zgN]; rw [ltF]; rfl)
      rw [hloop]
      grind
    · grind
theorem zHg {r:zf} (hb:qZ r = true) (s:zb):ziX (r,s,()) = some (zhd r s,()):=by
  rw [zF]
  simp only [ziX,ziW]
  have ok:=vN hb
  have ok1:=ok.labels
  have ok2:=ok.quotas
  rw [ziP,ziP]
  unfold zhd M62
  by_cases hn:s.2.1.length = r.1.length
  · have hloop:zks K0 (0,r,s) = bif zW (fun i=>zjX r (s.2.1.getD i ze) (r.2.2.2.2.1.getD i qt)) 0 (s.2.1.length - 0) then some (true,()) else some (false,()) :=
      z8 (i0:=0) (n:=s.2.1.length) (by unfold Go.maxLen; omega) (Nat.zero_le _) (fun i=>(i,r,s)) (fun k i h1 h2=>by
        simp only [zgB]
        rw [ltT h2,zk h2,zk (by omega)]
        simp only [zG,neI,cond_true,zjX]
        generalize s.2.1.getD i ze = x
        generalize r.2.2.2.2.1.getD i qt = q
        generalize k _ = kk
        grind (splits:=30)) (fun k=>by simp only [zgB]; rw [ltF]; rfl)
    rw [hloop]
    grind
  · grind
structure zfe (r:zf) (s:zb):Prop where
  shelves:s.2.1.length = r.1.length
  orders:s.2.2.2.1.length ≤ 24
  entries:s.2.2.2.2.1.length ≤ 48
  people:s.2.2.2.2.2.1.length = r.2.1.length
  shelf:∀ x ∈ s.2.1,x.1.length ≤ 12 ∧ x.2.1.length ≤ 12 ∧ x.2.2.1.length ≤ 12 ∧ x.2.2.2.1.length ≤ 12 ∧ x.2.2.2.2.1.length ≤ 12 ∧ x.2.2.2.2.2.1.length = r.2.2.1.length ∧ x.2.2.2.2.2.2.1.length = r.2.2.1.length
theorem zJZ:∀ (l:List zbn) (n:Int),zll n l = true→∀ q ∈ l,zta q = true
  | [],_,_,q,h=>by cases h
  | a :: l,n,h,q,hq=>by
    simp only [zll,Bool.and_eq_true] at h
    rcases List.mem_cons.1 hq with rfl | hq
    · exact h.1
    · exact zJZ l _ h.2.2 q hq
theorem zfj {r:zf} {s:zb} (hb:qZ r = true) (h:zhd r s = true):zfe r s:=by
  have ok:=vN hb
  simp only [qZ,Bool.and_eq_true] at hb
  obtain ⟨-,-,-,-,h5,h6⟩:=hb
  simp only [zhU,zx5,zT,Bool.and_eq_true,decide_eq_true_eq] at h5 h6
  simp only [zhd,Bool.and_eq_true,decide_eq_true_eq,qL] at h
  obtain ⟨⟨h7,h8,h9⟩,⟨h10,-⟩,h11⟩:=h
  refine ⟨h7,by omega,by omega,h10,fun x hx=>?_⟩
  obtain ⟨i,hi,rfl⟩:=List.mem_iff_getElem.1 hx
  have h12:=h11 i (by omega) (by omega)
  have e:s.2.1.getD i ze = s.2.1[i]:=by simp [List.getD,hi]
  rw [e] at h12
  have hq:=zJZ _ _ h5.2.2.2 (r.2.2.2.2.1.getD i qt) (zV (by have:=ok.quotas; omega))
  simp only [zta,zT,Bool.and_eq_true,decide_eq_true_eq] at hq
  simp only [zjX,Bool.and_eq_true,decide_eq_true_eq] at h12
  omega
def jb (x:zp):Bool:=(x.1.all zln) && (zC2 x.2.1 && (x.2.2.1.all qb && (x.2.2.2.1.all zlp && x.2.2.2.2.1.all zhY)))
theorem zC8 {x:zp} (h:x.1.length ≤ 12 ∧ x.2.1.length ≤ 12 ∧ x.2.2.1.length ≤ 12 ∧ x.2.2.2.1.length ≤ 12 ∧ x.2.2.2.2.1.length ≤ 12):zgK (x,()) = some (jb x,()):=by
  rw [zF]
  have hm:12 ≤ Go.maxLen:=by unfold Go.maxLen; omega
  simp only [zgK]
  rw [zJL (by omega),zJN (by omega),znI (by omega),zJQ (by omega),zG6 (by omega)]
  simp only [Option.bind_some,jb]
  grind
theorem zHh {r:zf} {s:zb} (ok:zhZ r) (sz:zfe r s):zcd ((r,s,()),()) = some (s.2.1.all jb,()):=by
  rw [zF]
  simp only [zcd]
  have h1:=ok.labels
  have h2:=sz.shelves
  rw [zLB (p:=jb) (by unfold Go.maxLen; omega) fun x hx=>zC8 (by have:=sz.shelf x hx; omega)]
  simp only [Option.bind_some]
def jL (r:zf) (x:Int):Bool:=decide (0 ≤ x ∧ x < (r.2.2.1.length:Int))
def zaJ (r:zf) (x:Int):Bool:=decide (0 ≤ x ∧ x < (r.1.length:Int))
theorem zaA (r:zf) (s:zb) (x:Int):qX ((r,s,()),x,()) = some (jL r x,()):=by simp only [qX,jL]; grind
theorem zvm (r:zf) (s:zb) (x:Int):zb9 ((r,s,()),x,()) = some (zaJ r x,()):=by simp only [zb9,zaJ]; grind
theorem zdX (r:zf) (x:Int):jY (r,x,()) = some (jL r x,()):=by simp only [jY,jL]; grind
def zpH (s:zb) (x:qy):Bool:=decide (0 ≤ x.1 ∧ x.1 < (s.2.1.length:Int)) && (decide (0 ≤ x.2.1 ∧ x.2.1 < ((s.2.1.getD x.1.toNat ze).1.length:Int)) && ((s.2.1.getD x.1.toNat ze).1.getD x.2.1.toNat zhs).1)
theorem zvn (s:zb) (x:qy):zfW (s,x,()) = some (zpH s x,()):=by
  rw [zF]
  simp only [zfW,zpH,ix]
  by_cases h1:0 ≤ x.1 ∧ x.1 < (s.2.1.length:Int)
  · rw [ixR h1,ixR h1]
    by_cases h2:0 ≤ x.2.1 ∧ x.2.1 < ((s.2.1.getD x.1.toNat ze).1.length:Int)
    · rw [ixR h2]
      grind
    · grind
  · grind
theorem zvo (s:zb) (x:qy):zf1 (s,x,()) = some (zpH s x,()):=by
  rw [zF]
  simp only [zf1,zpH,ix]
  by_cases h1:0 ≤ x.1 ∧ x.1 < (s.2.1.length:Int)
  · rw [ixR h1,ixR h1]
    by_cases h2:0 ≤ x.2.1 ∧ x.2.1 < ((s.2.1.getD x.1.toNat ze).1.length:Int)
    · rw [ixR h2]
      grind
    · grind
  · grind
def zmd (r:zf) (s:zb) (x:zu):Bool:=!x.1 || (zaJ r x.2.1 && (jL r x.2.2.1 && decide (x.2.2.2.2.2.2.2.2.2.1 < (s.2.2.2.2.1.length:Int))))
def zme (r:zf) (s:zb) (x:zJ):Bool:=decide (x.2.1 < (r.2.1.length:Int)) && ((x.2.2.1:Int) == r.2.1.getD x.2.1.toNat 0 && (jL r x.2.2.2.1 && decide (x.1 ≤ s.1)))
def zon (r:zf) (x:Int):Bool:=x == -1 || jL r x
theorem zNN (r:zf) (s:zb) (x:zu):zfF (x,some (r,s,()),()) = some (zmd r s x,()):=by
  rw [zF]
  simp only [zfF,zaA,zvm,Option.bind_some,zmd]
  grind
theorem zNO (r:zf) (s:zb) {x:zJ} (h:zh1 x = true):zbr (x,some (r,s,()),()) = some (zme r s x,()):=by
  rw [zF]
  simp only [zbr,zaA,Option.bind_some,zme,ix]
  have:0 ≤ x.2.1:=by unfold zh1 qn at h; grind
  by_cases h1:x.2.1 < (r.2.1.length:Int)
  · rw [ixR ⟨this,h1⟩]
    grind
  · grind
theorem zNP (r:zf) (s:zb) (x:Int):vu (x,some (r,s,()),()) = some (zon r x,()):=by
  rw [zF]
  simp only [vu,zaA,Option.bind_some,zon]
  grind
def zgm (r:zf) (s:zb):Bool:=ziI r s.2.2.1 && (zgl s.2.2.2.1 && (zjE s.2.2.2.2.1 && (zpH s (zd zv) && (s.2.2.2.1.all (zmd r s) && (s.2.2.2.2.1.all (zme r s) && s.2.2.2.2.2.1.all (zon r))))))
theorem zxL {l:List zJ} (h:zjE l = true):∀ x ∈ l,zh1 x = true:=by
  intro x hx
  simp only [zjE,qL,Bool.and_eq_true] at h
  obtain ⟨i,hi,rfl⟩:=List.mem_iff_getElem.1 hx
  have e:l.getD i vU = l[i]:=by simp [List.getD,hi]
  rw [← e]
  exact (h i (by omega) (by omega)).1
theorem zL2 {l:List zu} (h:zgl l = true):∀ x ∈ l,zmc x = true:=by
  intro x hx
  simp only [zgl,Bool.and_eq_true,List.all_eq_true] at h
  exact h.1 x hx
theorem zEW {r:zf} {s:zb} (hr:z9 r) (hb:qZ r = true) (hs:qJ s) (sz:zfe r s):zbh ((r,s,()),()) = some (zgm r s,()):=by
  rw [zF]
  have ok:=vN hb
  have h1:=ok.lines
  have h2:=sz.orders
  have h3:=sz.entries
  have h4:=sz.people
  have hm:48 ≤ Go.maxLen:=by unfold Go.maxLen; omega
  simp only [zbh,zJX hr,hb,Bool.true_and,Option.bind_some]
  unfold zgm
  cases ziI r s.2.2.1 with
  | false=>rfl
  | true =>
    rw [zJY (by omega) hs.orders,zHd (by omega) hs.entries,zvn]
    simp only [Option.bind_some,cond_true]
    cases zgl s.2.2.2.1 with
    | false=>rfl
    | true =>
      cases he:zjE s.2.2.2.2.1 with
      | false=>rfl
      | true =>
        rw [zLC (p:=zmd r s) (by omega) fun x _=>zNN r s x,zLD (p:=zme r s) (by omega) fun x hx=>zNO r s (zxL he x hx),zOR (p:=zon r) (by omega) fun x _=>zNP r s x]
        simp only [Option.bind_some,cond_true]
        grind
theorem zEX {r:zf} {s:zb} (hr:z9 r) (hb:qZ r = true) (hs:qJ s) (sz:zfe r s):zhP (r,s,()) = some (zgm r s,()):=by
  rw [zF]
  have ok:=vN hb
  have h1:=ok.lines
  have h2:=sz.orders
  have h3:=sz.entries
  have h4:=sz.people
  have hm:48 ≤ Go.maxLen:=by unfold Go.maxLen; omega
  simp only [zhP,zhO,zHa hr,hb,Bool.true_and,Option.bind_some]
  unfold zgm
  cases ziI r s.2.2.1 with
  | false=>rfl
  | true =>
    rw [zHb (by omega) hs.orders,zHe (by omega) hs.entries,zvo]
    simp only [Option.bind_some,cond_true]
    cases ho:zgl s.2.2.2.1 with
    | false=>rfl
    | true =>
      cases he:zjE s.2.2.2.2.1 with
      | false=>rfl
      | true =>
        cases zpH s (zd zv) with
        | false=>rfl
        | true =>
          simp only [cond_true,Bool.true_and]
          have l2:zbI K0 (0,r,s) = bif s.2.2.2.2.2.1.all (zon r) then some (true,()) else some (false,()) :=
            jF (l:=s.2.2.2.2.2.1) (0:Int) (fun i=>(i,r,s)) (by omega) (fun k i x hi hx _=>by
              simp only [zfO]
              rw [ltT hi]
              simp only [zk hi,zG,hx,zdX,Option.bind_some,cond_true,zon]
              grind) (fun k=>by simp only [zfO]; rw [ltF]; rfl)
          have l1:zbK K0 (0,r,s) = bif s.2.2.2.2.1.all (zme r s) then zbI K0 (0,r,s) else some (false,()) :=
            jF (l:=s.2.2.2.2.1) vU (fun i=>(i,r,s)) (by omega) (fun k i x hi hx hmem=>by
              have hok:=zxL he x hmem
              have h0:0 ≤ x.2.1:=by unfold zh1 qn at hok; grind
              simp only [zbJ]
              rw [ltT hi]
              simp only [zk hi,zG,hx,zdX,Option.bind_some,cond_true,zme]
              by_cases h1:x.2.1 < (r.2.1.length:Int)
              · rw [ixR ⟨h0,h1⟩]
                grind
              · grind) (fun k=>by simp only [zbJ]; rw [ltF]; rfl)
          have l0:zjC K0 (0,r,s) = bif s.2.2.2.1.all (zmd r s) then zbK K0 (0,r,s) else some (false,()) :=
            jF (l:=s.2.2.2.1) zK (fun i=>(i,r,s)) (by omega) (fun k i x hi hx hmem=>by
              have hok:=zL2 ho x hmem
              have h0:x.1 = true→0 ≤ x.2.1:=fun h=>by unfold zmc zjD qn at hok; grind
              simp only [zbL]
              rw [ltT hi]
              simp only [zk hi,zG,hx,zdX,Option.bind_some,cond_true,zmd,zaJ]
              grind) (fun k=>by simp only [zbL]; rw [ltF]; rfl)
          rw [l0,l1,l2]
          grind
end Go.Proofs.YtejbgeokcpillaaGreatDoor
end
section
namespace Go.Proofs.YtejbgeokcpillaaGreatDoor
open Go.Ev
def zij (r:zf) (a b:Int):Bool:=zaJ r a && (zaJ r b && zET (r.1.getD a.toNat jh) (r.1.getD b.toNat jh))
theorem ztf {r:zf} (hr:z9 r) (a:Int) (h:zaJ r a = true):zpF (r.1.getD a.toNat jh):=by
  simp only [zaJ,decide_eq_true_eq] at h
  exact hr.labels _ (zV (by omega))
theorem zzl {r:zf} (hr:z9 r) (s:zb) (a b:Int):ziC ((r,s,()),a,b,()) = some (zij r a b,()):=by
  rw [zF]
  simp only [ziC,zvm,Option.bind_some,zij,ix]
  cases ha:zaJ r a with
  | false=>rfl
  | true =>
    cases hb:zaJ r b with
    | false=>rfl
    | true =>
      rw [zzi (ztf hr a ha) (ztf hr b hb)]
      simp only [zaJ,decide_eq_true_eq] at ha hb
      rw [ixR ha,ixR hb]
      simp only [Option.bind_some]
      grind
theorem zrN {r:zf} (hr:z9 r) (a b:Int):zgj (r,a,b,()) = some (zij r a b,()):=by
  rw [zF]
  simp only [zgj,zij,ix]
  cases ha:zaJ r a with
  | false=>unfold zaJ at ha; grind
  | true =>
    cases hb:zaJ r b with
    | false=>unfold zaJ at ha hb; grind
    | true =>
      rw [zLP (ztf hr a ha) (ztf hr b hb)]
      simp only [zaJ,decide_eq_true_eq] at ha hb
      rw [ixR ha,ixR hb]
      simp only [Option.bind_some]
      grind
def zdH (r:zf) (s:zb) (i:Int) (x:qy):Bool:=zpH s x && zij r x.1 i
theorem zlr {r:zf} (hr:z9 r) (s:zb) (i:Int) (x:qy):ye (x,some (r,s,()),some i,()) = some (zdH r s i x,()):=by
  rw [zF]
  simp only [ye,zvn,zzl hr,Option.bind_some,zdH]
  grind
theorem znK {r:zf} (hr:z9 r) (s:zb) (i:Int) (x:qy):zaH (r,s,x,i,()) = some (zdH r s i x,()):=by
  rw [zF]
  simp only [zaH,zvo,zrN hr,Option.bind_some,zdH]
  grind
def zhe (r:zf) (s:zb) (i:Int) (x:qe):Bool:=!x.1 || (zdH r s i x.2.1 && zdH r s i x.2.2.1)
def zhf (r:zf) (s:zb) (i:Int) (x:zh):Bool:=(x.2.2.1:Int) != 2 || zdH r s i x.2.2.2.2.1
def ztg (r:zf) (s:zb) (i:Int) (x:zp):Bool:=x.2.1.all (zhe r s i) && (x.2.2.1.all (zhf r s i) && x.2.2.2.2.2.2.1.all (zdH r s i))
theorem zO0 {r:zf} (hr:z9 r) (s:zb) (i:Int) (x:qe):zgz (x,some (some fun z=>ye (z.1,some (r,s,()),some i,())),()) = some (zhe r s i x,()):=by
  rw [zF]
  simp only [zgz,zlr hr,Option.bind_some,zhe]
  grind
theorem zO1 {r:zf} (hr:z9 r) (s:zb) (i:Int) (x:zh):zcu (x,some (some fun z=>ye (z.1,some (r,s,()),some i,())),()) = some (zhf r s i x,()):=by
  rw [zF]
  simp only [zcu,zlr hr,Option.bind_some,zhf]
  grind
theorem zHi {r:zf} {s:zb} (hr:z9 r) (ok:zhZ r) (sz:zfe r s):zf7 ((r,s,()),()) = some (zW (fun i=>ztg r s (i:Int) (s.2.1.getD i ze)) 0 (s.2.1.length - 0),()):=by
  rw [zF]
  have h1:=ok.labels
  have h2:=sz.shelves
  have h3:=ok.accounts
  exact z8 (B:=zde) (i0:=0) (n:=s.2.1.length) (by unfold Go.maxLen; omega) (Nat.zero_le _) (fun i=>(s.2.1,(s.2.1.length:Int),i,(r,s,()))) (fun k i _ h=>by
    have hm:12 ≤ Go.maxLen:=by unfold Go.maxLen; omega
    have hz:=sz.shelf _ (zV (d:=ze) h)
    simp only [zde]
    have hbelow:znr ((r,s,()),(i:Int),()) = some (some fun z=>ye (z.1,some (r,s,()),some (i:Int),()),()):=rfl
    rw [ltT h,zk h,zG,hbelow,Option.bind_some,zNy (p:=zhe r s i) (by omega) fun x _=>zO0 hr s i x,zCW (p:=zhf r s i) (by omega) fun x _=>zO1 hr s i x,zOS (p:=zdH r s i) (by omega) fun x _=>zlr hr s i x]
    simp only [Option.bind_some,cond_true]
    unfold ztg
    grind) (fun k=>by simp only [zde]; rw [ltF]; rfl)
theorem zL3 {σ ρ:Type} {B:(σ→Option ρ)→σ→Option ρ} {i0 n:Nat} (hn:n ≤ Go.maxLen) (h0:i0 ≤ n) {p:Nat→Bool} {fin bad:Option ρ} (st:Int→σ)
    (hin:∀ k (i:Nat),i0 ≤ i→i < n→B k (st i) = bif p i then k (st (wI (i + 1))) else bad) (hout:∀ k,B k (st n) = fin) (K:Nat) (hK:n - i0 < K):zg B K (st i0) = bif zW p i0 (n - i0) then fin else bad:=by
  have key:∀ (m i fuel:Nat),i0 ≤ i→i + m = n→m < fuel→zg B fuel (st i) = bif zW p i m then fin else bad:=by
    intro m
    induction m with
    | zero =>
      intro i fuel _ h1 h2
      obtain ⟨f,rfl⟩:∃ f,fuel = f + 1:=⟨fuel - 1,by omega⟩
      obtain rfl:i = n:=by omega
      exact hout _
    | succ m ih =>
      intro i fuel h1 h2 h3
      obtain ⟨f,rfl⟩:∃ f,fuel = f + 1:=⟨fuel - 1,by omega⟩
      show B (zg B f) (st i) = _
      rw [hin _ i h1 (by omega),wI,zBs (len:=n) (by omega) hn,show ((i:Int) + 1) = ((i + 1:Nat):Int) by omega,ih (i + 1) f (by omega) (by omega) (by omega)]
      simp only [zW]
      cases p i <;> rfl
  exact key (n - i0) i0 K (Nat.le_refl _) (by omega) hK
def zmf (r:zf) (x:zh):Bool:=(x.2.2.1:Int) != 1 || jL r x.2.2.2.1
def zmg (r:zf) (i:Int) (x:qr):Bool:=!x.1 || (zij r x.2.1 i && (jL r x.2.2.1 && jL r x.2.2.2.1))
def zmh (r:zf) (x:zx):Bool:=!x.1 || (jL r x.2.1 && jL r x.2.2.1)
def zgn (r:zf) (i:Int) (x:zp):Bool:=x.2.2.1.all (zmf r) && (x.2.2.2.1.all (zmg r i) && x.2.2.2.2.1.all (zmh r))
theorem zNQ (r:zf) (s:zb) (x:zh):zbs (x,some (r,s,()),()) = some (zmf r x,()):=by
  rw [zF]
  simp only [zbs,zaA,Option.bind_some,zmf]
  grind
theorem zNR {r:zf} (hr:z9 r) (s:zb) (i:Int) (x:qr):vw (x,some (r,s,()),some i,()) = some (zmg r i x,()):=by
  rw [zF]
  simp only [vw,zaA,zzl hr,Option.bind_some,zmg]
  grind
theorem zNS (r:zf) (s:zb) (x:zx):qM (x,some (r,s,()),()) = some (zmh r x,()):=by
  rw [zF]
  simp only [qM,zaA,Option.bind_some,zmh]
  grind
theorem zEY {r:zf} {s:zb} (hr:z9 r) (ok:zhZ r) (sz:zfe r s):zbf ((r,s,()),()) = some (zW (fun i=>zgn r (i:Int) (s.2.1.getD i ze)) 0 s.2.1.length,()):=by
  rw [zF]
  have h1:=ok.labels
  have h2:=sz.shelves
  have hm:12 ≤ Go.maxLen:=by unfold Go.maxLen; omega
  have step:∀ k (i:Nat),i < s.2.1.length→qY k (s.2.1,(s.2.1.length:Int),(i:Int),(r,s,())) = bif zgn r (i:Int) (s.2.1.getD i ze) then k (s.2.1,(s.2.1.length:Int),wI ((i:Int) + 1),(r,s,())) else some (false,()):=fun k i h=>by
    have hz:=sz.shelf _ (zV (d:=ze) h)
    simp only [qY]
    rw [ltT h,zk h,zG,zCW (p:=zmf r) (by omega) fun x _=>zNQ r s x,zNz (p:=zmg r i) (by omega) fun x _=>zNR hr s i x,zLE (p:=zmh r) (by omega) fun x _=>zNS r s x]
    simp only [Option.bind_some,cond_true]
    unfold zgn
    grind
  have hend:∀ k,qY k (s.2.1,(s.2.1.length:Int),(s.2.1.length:Int),(r,s,())) = some (true,()):=fun k=>by simp only [qY]; rw [ltF]; rfl
  have first:zbf ((r,s,()),()) = zBt (qY) (qY) K0 (s.2.1,(s.2.1.length:Int),((0:Nat):Int),(r,s,())):=rfl
  have hw:wI (((0:Nat):Int) + 1) = ((1:Nat):Int):=rfl
  obtain ⟨m,hK⟩:=zx3
  have hf:∀ (B0 B1:(vx→Option (Bool × Unit))→vx→Option (Bool × Unit)) (x:vx),zBt B0 B1 K0 x = B0 (zg B1 (m + 7)) x:=fun B0 B1 x=>by rw [hK]; rfl
  have rest:=zL3 (B:=qY) (i0:=1) (n:=s.2.1.length) (by unfold Go.maxLen; omega) (by omega) (p:=fun i=>zgn r (i:Int) (s.2.1.getD i ze)) (fun i=>(s.2.1,(s.2.1.length:Int),i,(r,s,()))) (fun k i _ h=>step k i h) hend (m + 7) (by unfold K0 Go.maxLen at hK; omega)
  rw [hf] at first
  rw [first,step _ 0 (by omega),hw]
  refine (congrArg (fun z=>bif zgn r ((0:Nat):Int) (s.2.1.getD 0 ze) then z else some (false,())) rest).trans ?_
  obtain ⟨n,hn⟩:∃ n,s.2.1.length = n + 1:=⟨s.2.1.length - 1,by omega⟩
  rw [hn]
  simp only [zW,Nat.add_sub_cancel]
  cases zgn r ((0:Nat):Int) (s.2.1.getD 0 ze) <;> rfl
theorem zJ0 {l:List zx} {g:zx × Unit→Option (Bool × Unit)} {p:zx→Bool} (hg:∀ x,g (x,()) = some (p x,())) (z:Int):yc (some (l,some g,()),z,()) = some (decide (0 ≤ z ∧ z < (l.length:Int)) && p (l.getD z.toNat zR),()):=by
  by_cases h:0 ≤ z ∧ z < (l.length:Int)
  · obtain ⟨n,rfl⟩:=Int.eq_ofNat_of_zero_le h.1
    rw [zzj hg (by omega),decide_eq_true h,Bool.true_and,Int.toNat_natCast]
  · rw [decide_eq_false h,Bool.false_and]
    simp only [yc,zxJ,Option.bind_some,cond_true]
    grind
theorem zC9 {α:Type} {p:α→Bool} (d:α) (L:List α) (q:Int→Bool):∀ (l:List α) (i:Nat),(∀ j,j < l.length→L.getD (i + j) d = l.getD j d)→(z6 p i l).all q = zW (fun j=>!p (L.getD j d) || q (j:Int)) i l.length
  | [],_,_=>rfl
  | x :: l,i,h=>by
    have ih:=zC9 (p:=p) d L q l (i + 1) fun j hj=>by
      have:=h (j + 1) (by simp; omega)
      rw [show i + 1 + j = i + (j + 1) by omega,this]; rfl
    have h0:L.getD i d = x:=h 0 (by simp)
    simp only [z6,List.length_cons,zW,h0]
    rw [← ih]
    cases p x <;> simp
def zjF (x:zp) (j:Nat) (t:zh):Bool:=(t.2.2.1:Int) != 3 || (decide (0 ≤ t.2.2.2.1 ∧ t.2.2.2.1 < (x.2.2.2.2.1.length:Int)) && ((x.2.2.2.2.1.getD (Int.toNat t.2.2.2.1) zR).1 && ((x.2.2.2.2.1.getD (Int.toNat t.2.2.2.1) zR).2.2.2.1.2.2.1:Int) == (j:Int)))
def zfk (x:zp) (j:Int) (t:zx):Bool:=(decide (t.2.2.2.1.2.2.1 < (x.2.2.1.length:Int)) && decide (t.2.2.2.2.1.2.2.1 < (x.2.2.1.length:Int))) && (decide (t.2.2.2.1.2.2.1 < 0) || (((x.2.2.1.getD (Int.toNat t.2.2.2.1.2.2.1) zj).2.2.1:Int) == 3 && ((x.2.2.1.getD (Int.toNat t.2.2.2.1.2.2.1) zj).2.2.2.1:Int) == j))
def zpI (x:zp):Bool:=zW (fun j=>zjF x j (x.2.2.1.getD j zj)) 0 (x.2.2.1.length - 0) && zW (fun j=>!(x.2.2.2.2.1.getD j zR).1 || zfk x (j:Int) (x.2.2.2.2.1.getD j zR)) 0 x.2.2.2.2.1.length
theorem zq9 (x:zx):vY (x,()) = some (x.1,()):=by
  rw [zF]; rfl
theorem zHj {r:zf} {s:zb} (ok:zhZ r) (sz:zfe r s):zf6 ((r,s,()),()) = some (zW (fun i=>zpI (s.2.1.getD i ze)) 0 (s.2.1.length - 0),()):=by
  rw [zF]
  have h1:=ok.labels
  have h2:=sz.shelves
  have hm:12 ≤ Go.maxLen:=by unfold Go.maxLen; omega
  have hlm:12 ≤ lim:=by unfold lim; omega
  have l2:∀ k0 (i:Nat) (x:zp),x.2.2.2.2.1.length ≤ 12→zc2 K0 k0 (s.2.1,(s.2.1.length:Int),(i:Int),z6 (fun t:zx=>t.1) 0 x.2.2.2.2.1,((z6 (fun t:zx=>t.1) 0 x.2.2.2.2.1).length:Int),0,x) = bif zW (fun j=>!(x.2.2.2.2.1.getD j zR).1 || zfk x (j:Int) (x.2.2.2.2.1.getD j zR)) 0 x.2.2.2.2.1.length then k0 (s.2.1,(s.2.1.length:Int),wI ((i:Int) + 1)) else some (false,()):=fun k0 i x hx=>by
    have hsl:=zfT (p:=fun t:zx=>t.1) x.2.2.2.2.1 0
    have hsm:=zof (p:=fun t:zx=>t.1) x.2.2.2.2.1 0
    have:=jF (B:=fun k2=>zc1 k0 k2) (l:=z6 (fun t:zx=>t.1) 0 x.2.2.2.2.1) (0:Int) (p:=fun z=>zfk x z (x.2.2.2.2.1.getD z.toNat zR)) (fin:=k0 (s.2.1,(s.2.1.length:Int),wI ((i:Int) + 1))) (bad:=some (false,())) (fun j=>(s.2.1,(s.2.1.length:Int),(i:Int),z6 (fun t:zx=>t.1) 0 x.2.2.2.2.1,((z6 (fun t:zx=>t.1) 0 x.2.2.2.2.1).length:Int),j,x)) (by omega) (fun k j z hj hz hmem=>by
      obtain ⟨n,rfl,-,hn⟩:=hsm z hmem
      simp only [zc1]
      rw [ltT hj,zk hj,zG,hz,zk (by omega),zk (by omega),Int.toNat_natCast]
      simp only [cond_true,zfk,neI]
      by_cases ha:(x.2.2.2.2.1.getD n zR).2.2.2.1.2.2.1 < (x.2.2.1.length:Int)
      · by_cases hb:0 ≤ (x.2.2.2.2.1.getD n zR).2.2.2.1.2.2.1
        · rw [ixR ⟨hb,ha⟩,ixR ⟨hb,ha⟩]
          grind
        · grind
      · grind) (fun k=>by simp only [zc1]; rw [ltF]; rfl)
    refine this.trans ?_
    rw [zC9 (p:=fun t:zx=>t.1) zR x.2.2.2.2.1 (fun z=>zfk x z (x.2.2.2.2.1.getD z.toNat zR)) x.2.2.2.2.1 0 fun j _=>by rw [Nat.zero_add]]
    simp only [Int.toNat_natCast]
  have l1:∀ k0 (i:Nat) (x:zp),x.2.2.1.length ≤ 12→x.2.2.2.2.1.length ≤ 12→zc3 K0 k0 (some (x.2.2.2.2.1,some vY,()),s.2.1,(s.2.1.length:Int),(i:Int),x.2.2.1,(x.2.2.1.length:Int),0,x) = bif zpI x then k0 (s.2.1,(s.2.1.length:Int),wI ((i:Int) + 1)) else some (false,()):=fun k0 i x hx hx2=>by
    have:=z8 (B:=fun k1=>zax (zc2 K0 k0) k0 k1) (i0:=0) (n:=x.2.2.1.length) (p:=fun j=>zjF x j (x.2.2.1.getD j zj)) (fin:=bif zW (fun j=>!(x.2.2.2.2.1.getD j zR).1 || zfk x (j:Int) (x.2.2.2.2.1.getD j zR)) 0 x.2.2.2.2.1.length then k0 (s.2.1,(s.2.1.length:Int),wI ((i:Int) + 1)) else some (false,())) (bad:=some (false,())) (by omega) (Nat.zero_le _) (fun j=>(some (x.2.2.2.2.1,some vY,()),s.2.1,(s.2.1.length:Int),(i:Int),x.2.2.1,(x.2.2.1.length:Int),j,x)) (fun k j _ hj=>by
      simp only [zax]
      rw [ltT hj,zk hj,zG,zJ0 zq9]
      simp only [cond_true,Option.bind_some,zjF,neI]
      by_cases ha:0 ≤ (x.2.2.1.getD j zj).2.2.2.1 ∧ (x.2.2.1.getD j zj).2.2.2.1 < (x.2.2.2.2.1.length:Int)
      · rw [ixR ha]
        grind
      · grind) (fun k=>by
      simp only [zax]
      rw [ltF,zvl (by omega) zq9,Option.bind_some]
      exact l2 k0 i x hx2)
    refine this.trans ?_
    unfold zpI
    cases zW (fun j=>zjF x j (x.2.2.1.getD j zj)) 0 (x.2.2.1.length - 0) <;> rfl
  exact z8 (B:=fun k0=>zay (zc3 K0 k0) k0) (i0:=0) (n:=s.2.1.length) (by omega) (Nat.zero_le _) (fun i=>(s.2.1,(s.2.1.length:Int),i)) (fun k i _ h=>by
    have hz:=sz.shelf _ (zV (d:=ze) h)
    simp only [zay]
    have hq:yT ((s.2.1.getD i ze).2.2.2.2.1,some vY,()) = some (some ((s.2.1.getD i ze).2.2.2.2.1,some vY,()),()):=by
      simp only [yT,zvi (show (s.2.1.getD i ze).2.2.2.2.1.length ≤ lim by omega),Option.bind_some]
      rfl
    rw [ltT h,zk h,zG,hq,Option.bind_some]
    exact l1 k i _ (by omega) (by omega)) (fun k=>by simp only [zay]; rw [ltF]; rfl)
end Go.Proofs.YtejbgeokcpillaaGreatDoor
end
section
namespace Go.Proofs.YtejbgeokcpillaaGreatDoor
open Go.Ev
def zoo (r:zf) (s:zb) (i:Int) (x:zp) (j:Nat) (t:zh):Bool:=!t.1 || bif (t.2.2.1:Int) == 1 then jL r t.2.2.2.1 else bif (t.2.2.1:Int) == 2 then zdH r s i t.2.2.2.2.1 else decide (t.2.2.2.1 < (x.2.2.2.2.1.length:Int)) && ((x.2.2.2.2.1.getD (Int.toNat t.2.2.2.1) zR).1 && ((x.2.2.2.2.1.getD (Int.toNat t.2.2.2.1) zR).2.2.2.1.2.2.1:Int) == (j:Int))
theorem zJ1 {r:zf} (hr:z9 r) {s:zb} {i j:Nat} (hi:i < s.2.1.length) (hj:j < (s.2.1.getD i ze).2.2.1.length) (hok:qb ((s.2.1.getD i ze).2.2.1.getD j zj) = true) :
    zk1 (r,s,(i:Int),(j:Int),()) = some (zoo r s i (s.2.1.getD i ze) j ((s.2.1.getD i ze).2.2.1.getD j zj),()):=by
  rw [zF]
  simp only [zk1]
  rw [zk hi,zG,zk hj,Int.toNat_natCast]
  simp only [zdX,znK hr,Option.bind_some,zoo]
  generalize s.2.1.getD i ze = x at *
  have ht:(x.2.2.1.getD j zj).1 = true→((x.2.2.1.getD j zj).2.2.1 == (1:Int)) = false→((x.2.2.1.getD j zj).2.2.1 == (2:Int)) = false→0 ≤ (x.2.2.1.getD j zj).2.2.2.1:=fun h1 h2 h3=>by
    unfold qb zfS qn at hok; grind
  generalize x.2.2.1.getD j zj = t at *
  cases h1:t.1 with
  | false=>rfl
  | true =>
    cases h2:(t.2.2.1:Int) == 1 with
    | true=>cases hw:jL r t.2.2.2.1 <;> rfl
    | false =>
      cases h3:(t.2.2.1:Int) == 2 with
      | true=>cases hw:zdH r s i t.2.2.2.2.1 <;> rfl
      | false =>
        have h0:=ht h1 h2 h3
        by_cases h4:t.2.2.2.1 < (x.2.2.2.2.1.length:Int)
        · rw [ixR ⟨h0,h4⟩,ixR ⟨h0,h4⟩]
          grind
        · grind
def zop (r:zf) (x:zp) (j:Nat) (t:zx):Bool:=!t.1 || ((jL r t.2.1 && jL r t.2.2.1) && ((decide (t.2.2.2.1.2.2.1 < (x.2.2.1.length:Int)) && decide (t.2.2.2.2.1.2.2.1 < (x.2.2.1.length:Int))) && (decide (t.2.2.2.1.2.2.1 < 0) || ((x.2.2.1.getD (Int.toNat t.2.2.2.1.2.2.1) zj).1 && (((x.2.2.1.getD (Int.toNat t.2.2.2.1.2.2.1) zj).2.2.1:Int) == 3 && ((x.2.2.1.getD (Int.toNat t.2.2.2.1.2.2.1) zj).2.2.2.1:Int) == (j:Int))))))
theorem zJ2 (r:zf) (x:zp) {j:Nat} (hj:j < x.2.2.2.2.1.length):zkC (r,x,(j:Int),()) = some (zop r x j (x.2.2.2.2.1.getD j zR),()):=by
  rw [zF]
  simp only [zkC]
  rw [zk hj,zG]
  simp only [zdX,Option.bind_some,zop]
  generalize x.2.2.2.2.1.getD j zR = t
  cases h1:t.1 with
  | false=>rfl
  | true =>
    by_cases ha:t.2.2.2.1.2.2.1 < (x.2.2.1.length:Int)
    · by_cases hb:0 ≤ t.2.2.2.1.2.2.1
      · rw [ixR ⟨hb,ha⟩]
        grind
      · grind
    · grind
def zt3 (r:zf) (s:zb) (i:Int) (x:zp):Bool:=x.2.1.all (zhe r s i) && (zW (fun j=>zoo r s i x j (x.2.2.1.getD j zj)) 0 (x.2.2.1.length - 0) && (zW (fun j=>zop r x j (x.2.2.2.2.1.getD j zR)) 0 (x.2.2.2.2.1.length - 0) && (x.2.2.2.1.all (zmg r i) && x.2.2.2.2.2.2.1.all (zdH r s i))))
theorem zEZ {r:zf} {s:zb} (hr:z9 r) (ok:zhZ r) (hs:qJ s) (sz:zfe r s) {i:Nat} (hi:i < s.2.1.length):zga (r,s,(i:Int),()) = some (jb (s.2.1.getD i ze) && zt3 r s i (s.2.1.getD i ze),()):=by
  rw [zF]
  have hm:12 ≤ Go.maxLen:=by unfold Go.maxLen; omega
  have hz:=sz.shelf _ (zV (d:=ze) hi)
  have hin:=hs.shelves _ (zV (d:=ze) hi)
  have h3:=ok.accounts
  simp only [zga,zja]
  have hitem:=fun (j:Nat) (hj:j < (s.2.1.getD i ze).2.2.1.length) (hok:qb ((s.2.1.getD i ze).2.2.1.getD j zj) = true)=>zJ1 hr hi hj hok
  rw [zk hi,zG]
  generalize s.2.1.getD i ze = x at *
  rw [zG1 (by omega),zG2 (by omega),zcg (by omega),zG4 (by omega),zG7 (by omega) hin.trades]
  simp only [Option.bind_some]
  unfold jb
  cases x.1.all zln with
  | false=>rfl
  | true =>
    cases zC2 x.2.1 with
    | false=>rfl
    | true =>
      cases hit:x.2.2.1.all qb with
      | false=>rfl
      | true =>
        cases x.2.2.2.1.all zlp with
        | false=>rfl
        | true =>
          cases x.2.2.2.2.1.all zhY with
          | false=>rfl
          | true =>
            have l4:zdk K0 ((i:Int),0,r,s,x) = bif x.2.2.2.2.2.2.1.all (zdH r s i) then some (true,()) else some (false,()) :=
              jF (l:=x.2.2.2.2.2.2.1) zzG (fun j=>((i:Int),j,r,s,x)) (by omega) (fun k j y hj hy _=>by
                simp only [zgI]
                rw [ltT hj,zk hj,zG,hy,znK hr]
                simp only [Option.bind_some,cond_true]) (fun k=>by simp only [zgI]; rw [ltF]; rfl)
            have l3:zdm K0 ((i:Int),0,r,s,x) = bif x.2.2.2.1.all (zmg r i) then zdk K0 ((i:Int),0,r,s,x) else some (false,()) :=
              jF (l:=x.2.2.2.1) zaS (fun j=>((i:Int),j,r,s,x)) (by omega) (fun k j y hj hy _=>by
                simp only [zdl]
                rw [ltT hj,zk hj,zG,hy,zrN hr]
                simp only [zdX,Option.bind_some,cond_true,zmg]
                grind) (fun k=>by simp only [zdl]; rw [ltF]; rfl)
            have l2:zdo K0 ((i:Int),0,r,s,x) = bif zW (fun j=>zop r x j (x.2.2.2.2.1.getD j zR)) 0 (x.2.2.2.2.1.length - 0) then zdm K0 ((i:Int),0,r,s,x) else some (false,()) :=
              z8 (i0:=0) (n:=x.2.2.2.2.1.length) (by omega) (Nat.zero_le _) (fun j=>((i:Int),j,r,s,x)) (fun k j _ hj=>by
                simp only [zdn]
                rw [ltT hj,zJ2 r x hj]
                simp only [Option.bind_some,cond_true]) (fun k=>by simp only [zdn]; rw [ltF]; rfl)
            have l1:zdq K0 ((i:Int),0,r,s,x) = bif zW (fun j=>zoo r s i x j (x.2.2.1.getD j zj)) 0 (x.2.2.1.length - 0) then zdo K0 ((i:Int),0,r,s,x) else some (false,()) :=
              z8 (i0:=0) (n:=x.2.2.1.length) (by omega) (Nat.zero_le _) (fun j=>((i:Int),j,r,s,x)) (fun k j _ hj=>by
                simp only [zdp]
                rw [ltT hj,hitem j hj (List.all_eq_true.1 hit _ (zV hj))]
                simp only [Option.bind_some,cond_true]) (fun k=>by simp only [zdp]; rw [ltF]; rfl)
            have l0:zk6 K0 ((i:Int),0,r,s,x) = bif x.2.1.all (zhe r s i) then zdq K0 ((i:Int),0,r,s,x) else some (false,()) :=
              jF (l:=x.2.1) qh (fun j=>((i:Int),j,r,s,x)) (by omega) (fun k j y hj hy _=>by
                simp only [zdr]
                rw [ltT hj,zk hj,zG,hy]
                simp only [znK hr,Option.bind_some,cond_true,zhe]
                grind) (fun k=>by simp only [zdr]; rw [ltF]; rfl)
            simp only [cond_true]
            rw [l0,l1,l2,l3,l4]
            unfold zt3
            grind
def zpJ (r:zf) (s:zb) (i:Int) (x:zp):Bool:=ztg r s i x && (zgn r i x && zpI x)
theorem zAG {α:Type} {d:α} {l:List α} {p:α→Bool}:l.all p = true ↔ ∀ j,j < l.length→p (l.getD j d) = true:=by
  rw [List.all_eq_true]
  constructor
  · exact fun h j hj=>h _ (zV hj)
  · intro h x hx
    obtain ⟨i,hi,rfl⟩:=List.mem_iff_getElem.1 hx
    have:=h i hi
    simpa [List.getD,hi] using this
theorem zFD {t:zh} (h:qb t = true) (h1:t.1 = false):t.2.2.1 = 0:=by
  unfold qb at h
  rw [h1,cond_false] at h
  have e:eqI zi t (zd zi) = cond (t.1 == false) (cond (ByteArray.toList t.2.1 == ByteArray.toList (zd zi).2.1) (cond ((t.2.2.1:Int) == 0) (cond ((t.2.2.2.1:Int) == 0) (cond (eqI zv t.2.2.2.2.1 (zd zv)) true false) false) false) false) false:=rfl
  rw [e] at h
  cases hk:(t.2.2.1:Int) == 0 with
  | true=>exact eq_of_beq hk
  | false =>
    rw [hk] at h
    revert h
    cases (t.1 == false) <;> cases (ByteArray.toList t.2.1 == ByteArray.toList (zd zi).2.1) <;> intro h <;> cases h
theorem zDa {r:zf} {s:zb} {i:Int} {x:zp} {j:Nat} {t:zh} (h:qb t = true):zoo r s i x j t = (zhf r s i t && (zmf r t && zjF x j t)):=by
  unfold zoo zhf zmf zjF
  cases h1:t.1 with
  | false =>
    have:=zFD h h1
    rw [this]; rfl
  | true =>
    unfold qb zfS qn at h
    rw [h1] at h
    generalize jL r t.2.2.2.1 = a at *
    generalize zdH r s i t.2.2.2.2.1 = b at *
    grind
theorem zNT {r:zf} {x:zp} (hit:x.2.2.1.all qb = true) {j:Nat} {t:zx}:zop r x j t = (zmh r t && (!t.1 || zfk x (j:Int) t)):=by
  unfold zop zmh zfk
  have hi:0 ≤ t.2.2.2.1.2.2.1→t.2.2.2.1.2.2.1 < (x.2.2.1.length:Int)→((x.2.2.1.getD (Int.toNat t.2.2.2.1.2.2.1) zj).2.2.1 == (3:Int)) = true→(x.2.2.1.getD (Int.toNat t.2.2.2.1.2.2.1) zj).1 = true:=fun h1 h2 h3=>by
    have h4:=List.all_eq_true.1 hit _ (zV (d:=zj) (show (Int.toNat t.2.2.2.1.2.2.1) < x.2.2.1.length by omega))
    cases h5:(x.2.2.1.getD (Int.toNat t.2.2.2.1.2.2.1) zj).1 with
    | true=>rfl
    | false =>
      have:=zFD h4 h5
      rw [this] at h3
      exact absurd h3 (by decide)
  generalize x.2.2.1.getD (Int.toNat t.2.2.2.1.2.2.1) zj = y at *
  cases t.1 with
  | false=>rfl
  | true=>grind
theorem zL4 {r:zf} {s:zb} {i:Int} {x:zp} (hit:x.2.2.1.all qb = true):zt3 r s i x = zpJ r s i x:=by
  have hi:=List.all_eq_true.1 hit
  rw [Bool.eq_iff_iff]
  unfold zt3 zpJ ztg zgn zpI
  simp only [Bool.and_eq_true,qL,@zAG zh zj,@zAG zx zR,zNT hit]
  constructor
  · rintro ⟨h1,h2,h3,h4,h5⟩
    have h2':∀ j,j < x.2.2.1.length→zhf r s i (x.2.2.1.getD j zj) = true ∧ zmf r (x.2.2.1.getD j zj) = true ∧ zjF x j (x.2.2.1.getD j zj) = true:=fun j hj=>by
      have:=h2 j (Nat.zero_le _) (by omega)
      rw [zDa (hi _ (zV hj))] at this
      simpa [Bool.and_eq_true] using this
    exact ⟨⟨h1,fun j hj=>(h2' j hj).1,h5⟩,⟨fun j hj=>(h2' j hj).2.1,h4,fun j hj=>(h3 j (Nat.zero_le _) (by omega)).1⟩,fun j _ hj=>(h2' j (by omega)).2.2,fun j _ hj=>(h3 j (Nat.zero_le _) (by omega)).2⟩
  · rintro ⟨⟨h1,h2,h3⟩,⟨h4,h5,h6⟩,h7,h8⟩
    refine ⟨h1,fun j _ hj=>?_,fun j _ hj=>⟨h6 j (by omega),h8 j (by omega) (by omega)⟩,h5,h3⟩
    rw [zDa (hi _ (zV (by omega))),h2 j (by omega),h4 j (by omega),h7 j (by omega) (by omega)]
    rfl
theorem zHk {r:zf} {s:zb} (hr:z9 r) (ok:zhZ r) (hs:qJ s) (sz:zfe r s) {i:Nat} (hi:i < s.2.1.length):zga (r,s,(i:Int),()) = some (jb (s.2.1.getD i ze) && zpJ r s i (s.2.1.getD i ze),()):=by
  rw [zEZ hr ok hs sz hi]
  cases h:jb (s.2.1.getD i ze) with
  | false=>rfl
  | true =>
    have hit:(s.2.1.getD i ze).2.2.1.all qb = true:=by
      simp only [jb,Bool.and_eq_true] at h
      exact h.2.2.1
    rw [zL4 hit]
end Go.Proofs.YtejbgeokcpillaaGreatDoor
end
section
namespace Go.Proofs.YtejbgeokcpillaaGreatDoor
open Go.Ev
def zZ:List Int→Int
  | []=>0
  | x :: l=>x + zZ l
theorem zAH:∀ (l m:List Int),zZ (l ++ m) = zZ l + zZ m
  | [],m=>by simp [zZ]
  | x :: l,m=>by simp only [List.cons_append,zZ,zAH l m]; omega
theorem zt4:∀ {l:List Int},(∀ x ∈ l,0 ≤ x)→0 ≤ zZ l
  | [],_=>Int.le_refl 0
  | x :: l,h=>by
    have h1:=h x (by simp)
    have h2:=zt4 (l:=l) fun y hy=>h y (by simp [hy])
    simp only [zZ]; omega
theorem jg {α:Type} {g:α→Int} {l:List α} (h:∀ x ∈ l,0 ≤ g x):0 ≤ zZ (l.map g):=zt4 fun x hx=>by
  obtain ⟨y,hy,rfl⟩:=List.mem_map.1 hx
  exact h y hy
def zmi (n:Int):Int × Int × Unit:=bif decide (n > M62) then (0,7,()) else (n,0,())
theorem j6 {n:Int} (h:n > M62):zmi n = (0,7,()):=by unfold zmi; rw [decide_eq_true h]; rfl
theorem zaB {n:Int} (h:n ≤ M62):zmi n = (n,0,()):=by unfold zmi; rw [decide_eq_false (by omega)]; rfl
theorem zpK:∀ (l:List Int) (a:Int),a ≤ M62→(∀ x ∈ l,0 ≤ x)→zma a l = zmi (a + zZ l)
  | [],a,h,_=>by simp only [zma,zZ,Int.add_zero]; exact (zaB h).symm
  | x :: l,a,h,hp=>by
    have h2:=zt4 (l:=l) fun y hy=>hp y (by simp [hy])
    simp only [zma,zZ]
    by_cases hb:a + x > M62
    · rw [decide_eq_true hb,j6 (by omega)]; rfl
    · rw [decide_eq_false hb,cond_false,zpK l (a + x) (by omega) fun y hy=>hp y (by simp [hy])]
      congr 1; omega
theorem zrO {α:Type} (p:α→Bool) (g:α→Int):∀ l:List α,zZ ((l.filter p).map g) = zZ (l.map fun x=>bif p x then g x else 0)
  | []=>rfl
  | x :: l=>by
    have ih:=zrO p g l
    rw [zmb]
    simp only [List.map_cons,zZ]
    cases hp:p x with
    | true=>simp only [cond_true,List.map_cons,zZ,ih]
    | false=>simp only [cond_false,ih]; omega
def zm6 (x:zu):Int:=bif (x.2.2.2.1:Int) == 2 then x.2.2.2.2.1 else x.2.2.2.2.2.1
theorem zPJ (x:zu):ziR (x,()) = some (zm6 x,()):=by
  simp only [ziR,zm6]; grind
def jc (c:Int) (x:zu):Int:=bif x.1 && zm6 x == c then x.2.2.2.2.2.2.2.2.1 else 0
def zmj (l:List zu) (c:Int):Int × Int × Unit:=bif qH c then zmi (zZ (l.map (jc c))) else (0,1,())
theorem zNU (l:List zu) (hl:l.length ≤ lim):zoa (l,()) = some (some (l,some zkp,()),()):=by
  simp only [zoa,zju,zGU hl,Option.bind_some]
  rfl
theorem zJ3 (x:zu):zkp (x,()) = some (x.1,()):=by
  rw [zF]; rfl
theorem zL5 {l:List zu} (hl:l.length ≤ lim) (h:∀ x ∈ l,zh0 x) (c:Int):zmB (l,c,()) = some (zmj l c):=by
  have hl':l.length ≤ Go.maxLen:=by unfold lim at hl; unfold Go.maxLen; omega
  simp only [zmB,zmA,zbT,Option.bind_some]
  unfold zmj
  cases hc:qH c with
  | false=>rfl
  | true =>
    have hslots:zkV (l,()) = some (z6 (fun x:zu=>x.1) 0 l,()):=by
      simp only [zkV]
      rw [zNU l hl,Option.bind_some,zG8 hl zJ3,Option.bind_some]
    simp only [cond_true]
    rw [hslots,Option.bind_some]
    have hsl:=zfT (p:=fun x:zu=>x.1) l 0
    have hsm:=zof (p:=fun x:zu=>x.1) l 0
    have hloop:=j5 (B:=zf9) (l:=z6 (fun x:zu=>x.1) 0 l) (α:=List Int) (0:Int) (fun i o=>o.length ≤ i ∧ ∀ x ∈ o,0 ≤ x ∧ x < U64) (fun i o=>(l,c,z6 (fun x:zu=>x.1) 0 l,((z6 (fun x:zu=>x.1) 0 l).length:Int),i,o))
      (fun rest o=>some (zma 0 (o ++ (rest.filter fun z=>zm6 (l.getD z.toNat zK) == c).map fun z=>(l.getD z.toNat zK).2.2.2.2.2.2.2.2.1))) (by omega) (fun k i x rest o hi hI hx hm hr hk=>by
        simp only [zf9]
        obtain ⟨j,rfl,-,hj⟩:=hsm x hm
        rw [ltT hi,zk hi,zG,hx,zk (by omega),zk (by omega),Int.toNat_natCast,zgq,zPJ]
        have hxx:=(h (l.getD j zK) (zV (by omega))).held
        simp only [cond_true,zmb,Int.toNat_natCast,Option.bind_some]
        rw [decide_eq_true (by simp; omega)]
        simp only [cond_true]
        cases hq:zm6 (l.getD j zK) == c with
        | false =>
          exact hk o ⟨by omega,hI.2⟩
        | true =>
          simp only [cond_true,List.map_cons,Int.toNat_natCast]
          refine (hk _ ⟨by simp; omega,fun x hx=>?_⟩).trans ?_
          · rcases List.mem_append.1 hx with hx | hx
            · exact hI.2 x hx
            · rcases List.mem_singleton.1 hx with rfl
              exact hxx
          · rw [List.append_assoc]; rfl) (fun k o hI=>by
        simp only [zf9]
        rw [ltF]
        simp only [cond_false]
        rw [zoe (by omega) hI.2,List.filter_nil,List.map_nil,List.append_nil]
        rfl) [] ⟨Nat.le_refl _,fun x hx=>by cases hx⟩
    refine hloop.trans ?_
    rw [List.nil_append,znJ (q:=fun x:zu=>zm6 x == c) (g:=fun x:zu=>x.2.2.2.2.2.2.2.2.1) zK l l 0 fun j _=>by rw [Nat.zero_add]]
    rw [zpK _ 0 (by unfold M62; omega) fun x hx=>?_,zrO,Int.zero_add]
    · rfl
    · obtain ⟨y,hy,rfl⟩:=List.mem_map.1 hx
      exact (h y (List.mem_filter.1 hy).1).held.1
theorem zjj {x:zu} (h:zh0 x) (c:Int):zgP (jc c x):=by
  unfold jc
  cases x.1 && zm6 x == c with
  | true=>exact h.held
  | false=>exact (⟨Int.le_refl 0,by unfold U64; decide⟩:zgP 0)
theorem zHl (x:zu) (c:Int):ziZ (x,c,()) = some (jc c x,()):=by
  simp only [ziZ,jc,zm6]; grind
theorem zpL {a b:Int}:zt1 a b = zmi (a + b):=rfl
theorem zJ4 {l:List zu} (hl:l.length ≤ Go.maxLen) (h:∀ x ∈ l,zh0 x) (c:Int):zkE (l,c,()) = some (zmj l c):=by
  simp only [zkE,zkD]
  unfold zmj
  cases hc:qH c with
  | false=>unfold qH at hc; grind
  | true =>
    have hloop:=j5 (B:=zeJ) (l:=l) (α:=Int) zK (fun _ s=>0 ≤ s ∧ s ≤ M62) (fun i s=>(l,c,s,i)) (fun rest s=>some (zmi (s + zZ (rest.map (jc c))))) hl (fun k i x rest s hi hI hx hm hr hk=>by
      simp only [zeJ]
      have hxx:=zjj (h x hm) c
      have hrest:0 ≤ zZ (rest.map (jc c)):=jg fun y hy=>(zjj (h y (by rw [← hr] at hy; exact List.mem_of_mem_drop hy)) c).1
      rw [ltT hi,zk hi,zG,hx,zHl]
      simp only [cond_true,Option.bind_some,List.map_cons,zZ]
      rw [zfd (by unfold M62 at hI; unfold U64; omega) hxx,zpL,Option.bind_some]
      by_cases hb:s + jc c x > M62
      · rw [j6 hb,j6 (by omega)]; rfl
      · rw [zaB (by omega)]
        have:=hk (s + jc c x) ⟨by have:=hxx.1; omega,by omega⟩
        refine this.trans ?_
        rw [Int.add_assoc]) (fun k s hI=>by
      simp only [zeJ]; rw [ltF]
      simp only [cond_false,List.map_nil,zZ,Int.add_zero]
      rw [zaB hI.2]) 0 (by unfold M62; omega)
    refine Eq.trans ?_ (hloop.trans ?_)
    · unfold qH at hc
      grind
    · rw [Int.zero_add]; rfl
def zaZ (c:Int) (x:zx):Int:=bif x.1 && (x.2.2.2.1.1:Int) == c then x.2.2.2.1.2.1 else 0
theorem zxM {l:List zx} (h:∀ x ∈ l,zhX x) {c:Int} (hc:qH c = true):zjW l c = zmi (zZ (l.map (zaZ c))):=by
  unfold zjW
  rw [hc,cond_true,zpK _ 0 (by unfold M62; omega) fun x hx=>?_,zrO,Int.zero_add]
  · rfl
  · obtain ⟨y,hy,rfl⟩:=List.mem_map.1 hx
    exact (h y (List.mem_filter.1 hy).1).1.1
theorem zHm {x:zx} (h:zhX x) (c:Int):zgP (zaZ c x):=by
  unfold zaZ
  cases x.1 && (x.2.2.2.1.1:Int) == c with
  | true=>exact h.1
  | false=>exact (⟨Int.le_refl 0,by unfold U64; decide⟩:zgP 0)
def vP (c:Int) (a:List Int):Int:=a.getD c.toNat 0
def zao (c:Int) (x:zp):Int:=zZ (x.2.2.2.2.1.map (zaZ c)) + zZ (x.2.2.2.2.2.1.map (vP c))
theorem zt5 {x:zp} (h:zte x) (c:Int):0 ≤ zZ (x.2.2.2.2.1.map (zaZ c)):=jg fun y hy=>(zHm (h.trades y hy) c).1
theorem zt6 {x:zp} (h:zte x) (c:Int):0 ≤ zZ (x.2.2.2.2.2.1.map (vP c)):=jg fun y hy=>(zbU (h.purses y hy) _).1
theorem zjk {x:zp} (h:zte x) (c:Int):0 ≤ zao c x:=by
  have:=zt5 h c
  have:=zt6 h c
  unfold zao; omega
def zra (s:zb) (c:Int):Int × Int × Unit:=bif qH c then zmi (zZ (s.2.2.2.1.map (jc c)) + zZ (s.2.1.map (zao c))) else (0,1,())
def wts:List zp→Nat
  | []=>0
  | x :: l=>1 + x.2.2.2.2.2.1.length + wts l
structure zx7 (s:zb):Prop where
  shelves:s.2.1.length ≤ 2000000
  orders:s.2.2.2.1.length ≤ 2000000
  shelf:∀ x ∈ s.2.1,x.2.2.2.2.1.length ≤ 2000000 ∧ x.2.2.2.2.2.1.length ≤ 2000000
  all:wts s.2.1 ≤ 2000000
theorem zPK {l:List zp} {i:Nat} {x:zp} {rest:List zp} (hi:i < l.length) (hx:l.getD i ze = x) (hr:l.drop (i + 1) = rest):wts (l.drop i) = 1 + x.2.2.2.2.2.1.length + wts rest:=by
  rw [jB ze hi,hx,hr]; rfl
theorem zO2 {n:Nat}:∀ {l:List zp},(∀ x ∈ l,x.2.2.2.2.2.1.length ≤ n)→wts l ≤ l.length * (n + 1)
  | [],_=>Nat.zero_le _
  | x :: l,h=>by
    have h1:=h x (by simp)
    have h2:=zO2 (l:=l) fun y hy=>h y (by simp [hy])
    simp only [wts,List.length_cons,Nat.add_mul]
    omega
theorem zrb {c:Int} (hc:qH c = true):0 ≤ c ∧ c < ((4:Nat):Int):=by
  simp only [qH,decide_eq_true_eq] at hc; omega
theorem zJ5 {s:zb} (hs:qJ s) (sh:zx7 s) (c:Int):zk5 (s,c,()) = some (zra s c):=by
  have hlm:10000000 ≤ lim:=by unfold lim; omega
  have hmm:10000000 ≤ Go.maxLen:=by unfold Go.maxLen; omega
  have hsh:=sh.shelves
  have hso:=sh.orders
  simp only [zk5,zk4,zbT,Option.bind_some]
  rw [zL5 (by omega) hs.orders]
  unfold zra zmj
  cases hc:qH c with
  | false=>rfl
  | true =>
    have hcin:=zrb hc
    simp only [cond_true,Option.bind_some]
    have hbook:0 ≤ zZ (s.2.2.2.1.map (jc c)):=jg fun y hy=>(zjj (hs.orders y hy) c).1
    have hall:0 ≤ zZ (s.2.1.map (zao c)):=jg fun y hy=>zjk (hs.shelves y hy) c
    have inner:∀ k0 (i:Nat) (x:zp) (o:List Int),x.2.2.2.2.2.1.length ≤ 2000000→o.length ≤ 2000001→ze8 K0 k0 (c,s.2.1,(s.2.1.length:Int),(i:Int),x.2.2.2.2.2.1,(x.2.2.2.2.2.1.length:Int),0,o) = k0 (c,s.2.1,(s.2.1.length:Int),wI ((i:Int) + 1),o ++ x.2.2.2.2.2.1.map (vP c)):=fun k0 i x o hx ho =>
      j5 (B:=fun k1=>ze7 k0 k1) (l:=x.2.2.2.2.2.1) (α:=List Int) (zd (Ty.arr 4 tU)) (fun j o'=>o'.length ≤ 2000001 + j) (fun j o'=>(c,s.2.1,(s.2.1.length:Int),(i:Int),x.2.2.2.2.2.1,(x.2.2.2.2.2.1.length:Int),j,o')) (fun rest o'=>k0 (c,s.2.1,(s.2.1.length:Int),wI ((i:Int) + 1),o' ++ rest.map (vP c))) (by omega) (fun k j a rest o' hj hI ha hm hr hk=>by
        simp only [ze7]
        have h4:((4:Int)) = ((4:Nat):Int):=rfl
        rw [ltT hj,zk hj,Int.toNat_natCast,ha,zgq,decide_eq_true (by simp; omega)]
        simp only [cond_true]
        refine Eq.trans (ixR hcin) ?_
        refine (hk _ (by simp; omega)).trans ?_
        rw [List.append_assoc]; rfl) (fun k o' _=>by
        simp only [ze7]; rw [ltF]
        simp only [cond_false,List.map_nil,List.append_nil]) o ho
    by_cases hb:zZ (s.2.2.2.1.map (jc c)) > M62
    · rw [j6 hb,j6 (by omega)]; rfl
    · rw [zaB (by omega)]
      have hloop:=j5 (B:=fun k0=>zbg (ze8 K0 k0) k0) (l:=s.2.1) (α:=List Int) ze (fun i o=>o.length + wts (s.2.1.drop i) ≤ 2000001 ∧ ∀ x ∈ o,0 ≤ x ∧ x < U64) (fun i o=>(c,s.2.1,(s.2.1.length:Int),i,o)) (fun rest o=>some (zmi (zZ o + zZ (rest.map (zao c))))) (by omega) (fun k i x rest o hi hI hx hm hr hk=>by
        simp only [zbg]
        have hin:=hs.shelves x hm
        have hlen:=sh.shelf x hm
        have hw:=zPK hi hx hr
        have hw2:=hI.1
        rw [hw] at hw2
        have h1:=zt5 hin c
        have h2:=zt6 hin c
        have ho:0 ≤ zZ o:=zt4 fun y hy=>(hI.2 y hy).1
        have hrest:0 ≤ zZ (rest.map (zao c)):=jg fun y hy=>zjk (hs.shelves y (by rw [← hr] at hy; exact List.mem_of_mem_drop hy)) c
        rw [ltT hi,zk hi,zG,hx,zJV (by omega) hin.trades,zxM hin.trades hc]
        simp only [cond_true,Option.bind_some,List.map_cons,zZ,zao]
        by_cases hb:zZ (x.2.2.2.2.1.map (zaZ c)) > M62
        · rw [j6 hb,j6 (by omega)]; rfl
        · rw [zaB (by omega),zgq,inner k i x _ (by omega) (by simp; omega)]
          rw [decide_eq_true (by simp; omega)]
          simp only [bne_self_eq_false,cond_true,cond_false]
          refine (hk _ ⟨by rw [hr]; simp; omega,fun y hy=>?_⟩).trans ?_
          · rcases List.mem_append.1 hy with hy | hy
            · rcases List.mem_append.1 hy with hy | hy
              · exact hI.2 y hy
              · rcases List.mem_singleton.1 hy with rfl
                unfold M62 at hb; unfold U64; omega
            · obtain ⟨a,ha,rfl⟩:=List.mem_map.1 hy
              exact zbU (hin.purses a ha) _
          · rw [zAH,zAH]
            simp only [zZ]
            congr 2; omega) (fun k o hI=>by
        simp only [zbg]
        rw [ltF]
        simp only [cond_false]
        rw [zoe (by omega) hI.2,zpK o 0 (by unfold M62; omega) fun y hy=>(hI.2 y hy).1]
        simp only [List.map_nil,zZ,Int.add_zero,Int.zero_add]
        rfl) [zZ (s.2.2.2.1.map (jc c))] ⟨by have:=sh.all; simp; omega,fun y hy=>by
          rcases List.mem_singleton.1 hy with rfl
          unfold M62 at hb; unfold U64; omega⟩
      refine hloop.trans ?_
      simp only [zZ,Int.add_zero]
theorem zJ6 {s:zb} (hs:qJ s) (sh:zx7 s) (c:Int):zkN (s,c,()) = some (zra s c):=by
  have hmm:10000000 ≤ Go.maxLen:=by unfold Go.maxLen; omega
  have hsh:=sh.shelves
  have hso:=sh.orders
  simp only [zkN,zkM]
  rw [zJ4 (by omega) hs.orders]
  unfold zra zmj
  cases hc:qH c with
  | false=>rfl
  | true =>
    have hcin:=zrb hc
    simp only [cond_true,Option.bind_some]
    have hbook:0 ≤ zZ (s.2.2.2.1.map (jc c)):=jg fun y hy=>(zjj (hs.orders y hy) c).1
    have hall:0 ≤ zZ (s.2.1.map (zao c)):=jg fun y hy=>zjk (hs.shelves y hy) c
    have inner:∀ k0 (i:Nat) (a:Int),i < s.2.1.length→0 ≤ a ∧ a ≤ M62→zeV K0 k0 (c,a,(i:Int),0,s) = bif decide (a + zZ ((s.2.1.getD i ze).2.2.2.2.2.1.map (vP c)) > M62) then some (0,7,()) else k0 (c,a + zZ ((s.2.1.getD i ze).2.2.2.2.2.1.map (vP c)),wI ((i:Int) + 1),s):=fun k0 i a hi ha=>by
      have hlen:=sh.shelf _ (zV (d:=ze) hi)
      have hin:=hs.shelves _ (zV (d:=ze) hi)
      exact j5 (B:=fun k1=>zeU k0 k1) (l:=(s.2.1.getD i ze).2.2.2.2.2.1) (α:=Int) (zd (Ty.arr 4 tU)) (fun j a=>0 ≤ a ∧ a ≤ M62) (fun j a=>(c,a,(i:Int),j,s)) (fun rest a=>bif decide (a + zZ (rest.map (vP c)) > M62) then some (0,7,()) else k0 (c,a + zZ (rest.map (vP c)),wI ((i:Int) + 1),s)) (by omega) (fun k j y rest a hj hI hy hm hr hk=>by
        have hyy:=zbU (hin.purses y hm) c.toNat
        have hrest:0 ≤ zZ (rest.map (vP c)):=jg fun z hz=>(zbU (hin.purses z (by rw [← hr] at hz; exact List.mem_of_mem_drop hz)) _).1
        simp only [zeU]
        simp only [zk hi,zG]
        rw [ltT hj,zk hj,hy]
        simp only [cond_true,List.map_cons,zZ]
        refine Eq.trans (ixR hcin) ?_
        rw [zfd (by unfold M62 at hI; unfold U64; omega) hyy,zpL,Option.bind_some]
        have hp:vP c y = List.getD y c.toNat 0:=rfl
        rw [hp]
        by_cases hb:a + List.getD y c.toNat 0 > M62
        · rw [j6 hb,decide_eq_true (by omega)]; rfl
        · rw [zaB (by omega)]
          have:=hk (a + List.getD y c.toNat 0) ⟨by have:=hyy.1; omega,by omega⟩
          refine this.trans ?_
          rw [Int.add_assoc]) (fun k a hI=>by
        simp only [zeU]
        simp only [zk hi,zG]
        rw [ltF]
        simp only [cond_false,List.map_nil,zZ,Int.add_zero]
        rw [decide_eq_false (by omega)]; rfl) a ha
    by_cases hb:zZ (s.2.2.2.1.map (jc c)) > M62
    · rw [j6 hb,j6 (by omega)]; rfl
    · rw [zaB (by omega)]
      have hloop:=j5 (B:=fun k0=>zbd (zeV K0 k0) k0) (l:=s.2.1) (α:=Int) ze (fun i a=>0 ≤ a ∧ a ≤ M62) (fun i a=>(c,a,i,s)) (fun rest a=>some (zmi (a + zZ (rest.map (zao c))))) (by omega) (fun k i x rest a hi hI hx hm hr hk=>by
        simp only [zbd]
        have hin:=hs.shelves x hm
        have hlen:=sh.shelf x hm
        have h1:=zt5 hin c
        have h2:=zt6 hin c
        have hrest:0 ≤ zZ (rest.map (zao c)):=jg fun y hy=>zjk (hs.shelves y (by rw [← hr] at hy; exact List.mem_of_mem_drop hy)) c
        have hinn:=fun a ha=>inner k i a hi ha
        rw [hx] at hinn
        rw [ltT hi,zk hi,zG,hx,zJW (by omega) hin.trades,zxM hin.trades hc]
        simp only [cond_true,Option.bind_some,List.map_cons,zZ,zao]
        by_cases hb:zZ (x.2.2.2.2.1.map (zaZ c)) > M62
        · rw [j6 hb,j6 (by omega)]; rfl
        · rw [zaB (by omega),zfd (by unfold M62 at hI; unfold U64; omega) (by unfold M62 at hb; unfold U64; omega),zpL,Option.bind_some]
          by_cases hb2:a + zZ (x.2.2.2.2.1.map (zaZ c)) > M62
          · rw [j6 hb2,j6 (by omega)]; rfl
          · rw [zaB (by omega),hinn _ (by omega)]
            simp only [bne_self_eq_false,cond_false]
            by_cases hb3:a + zZ (x.2.2.2.2.1.map (zaZ c)) + zZ (x.2.2.2.2.2.1.map (vP c)) > M62
            · rw [decide_eq_true hb3,j6 (by omega)]; rfl
            · rw [decide_eq_false hb3,cond_false]
              refine (hk _ (by omega)).trans ?_
              congr 2; omega) (fun k a hI=>by
        simp only [zbd]
        rw [ltF]
        simp only [cond_false,List.map_nil,zZ,Int.add_zero]
        rw [zaB hI.2]) (zZ (s.2.2.2.1.map (jc c))) (by omega)
      exact hloop
end Go.Proofs.YtejbgeokcpillaaGreatDoor
end
section
namespace Go.Proofs.YtejbgeokcpillaaGreatDoor
open Go.Ev
def zpM (a b:Int):Int × Int × Unit:=bif decide (a < b) then (0,6,()) else (a - b,0,())
theorem zJ7 {a b:Int} (ha:0 ≤ a ∧ a ≤ M62) (hb:0 ≤ b ∧ b ≤ M62):zkq (a,b,()) = some (zpM a b):=by
  simp only [zkq,extA,extB,zpM,cond_false]
  unfold M62 at *
  have h2:b ≤ a→(a - b) % 18446744073709551616 = a - b:=fun h=>by omega
  grind
theorem zHn {a b:Int} (ha:0 ≤ a ∧ a ≤ M62) (hb:0 ≤ b ∧ b ≤ M62):zf2 (a,b,()) = some (zpM a b):=by
  simp only [zf2,zpM]
  unfold M62 at *
  by_cases h:b > a
  · grind
  · have hw:wU (a - b) = a - b:=zlm (by omega)
    rw [hw]; grind
def zmk (f:zp→List Int) (s:zb) (c:Int):Int:=zZ (s.2.1.map fun x=>vP c (f x))
theorem zt7 {f:zp→List Int} {s:zb} (h:∀ x ∈ s.2.1,zt2 (f x)) (c:Int):0 ≤ zmk f s c:=jg fun y hy=>(zbU (h y hy) _).1
theorem zJ8 {s:zb} (sh:zx7 s) {f:zp→List Int} {g:zp × Unit→Option (List Int × Unit)} (hg:∀ x,g (x,()) = some (f x,())) (h:∀ x ∈ s.2.1,zt2 (f x)) {c:Int} (hc:qH c = true):zhJ (s,c,some g,()) = some (zmi (zmk f s c)):=by
  have hlm:10000000 ≤ lim:=by unfold lim; omega
  have hmm:10000000 ≤ Go.maxLen:=by unfold Go.maxLen; omega
  have hsh:=sh.shelves
  have hcin:=zrb hc
  have hloop:=j5 (B:=zbD) (l:=s.2.1) (α:=List Int) ze (fun i o=>o.length ≤ i ∧ ∀ x ∈ o,0 ≤ x ∧ x < U64) (fun i o=>(c,some g,s.2.1,(s.2.1.length:Int),i,o)) (fun rest o=>some (zma 0 (o ++ rest.map fun x=>vP c (f x)))) (by omega) (fun k i x rest o hi hI hx hm hr hk=>by
    simp only [zbD]
    rw [ltT hi,zk hi,zG,hx]
    simp only [cond_true,Option.bind_some]
    rw [hg]
    simp only [Option.bind_some]
    refine Eq.trans (ixR hcin) ?_
    rw [zgq,decide_eq_true (by simp; omega)]
    simp only [cond_true]
    refine (hk _ ⟨by simp; omega,fun y hy=>?_⟩).trans ?_
    · rcases List.mem_append.1 hy with hy | hy
      · exact hI.2 y hy
      · rcases List.mem_singleton.1 hy with rfl
        exact zbU (h x hm) _
    · rw [List.append_assoc]; rfl) (fun k o hI=>by
    simp only [zbD]
    rw [ltF]
    simp only [cond_false]
    rw [zoe (by omega) hI.2,List.map_nil,List.append_nil]
    rfl) [] ⟨Nat.le_refl _,fun x hx=>by cases hx⟩
  refine Eq.trans ?_ (hloop.trans ?_)
  · rfl
  · rw [List.nil_append,zpK _ 0 (by unfold M62; omega) fun y hy=>?_,Int.zero_add]
    · rfl
    · obtain ⟨z,hz,rfl⟩:=List.mem_map.1 hy
      exact (zbU (h z hz) _).1
def zrc (s:zb) (c:Int):Int × Int × Unit:=bif qH c then bif decide (zmk (fun x=>x.2.2.2.2.2.2.2.1) s c > M62) then (0,7,()) else bif decide (zmk (fun x=>x.2.2.2.2.2.2.2.2.1) s c > M62) then (0,7,()) else zpM (zmk (fun x=>x.2.2.2.2.2.2.2.1) s c) (zmk (fun x=>x.2.2.2.2.2.2.2.2.1) s c) else (0,1,())
theorem zJ9 {s:zb} (hs:qJ s) (sh:zx7 s) (c:Int):zkY (s,c,()) = some (zrc s c):=by
  simp only [zkY,zbT,Option.bind_some]
  unfold zrc
  cases hc:qH c with
  | false=>rfl
  | true =>
    have p1:=zt7 (f:=fun x=>x.2.2.2.2.2.2.2.1) (fun x hx=>(hs.shelves x hx).made) c
    have p2:=zt7 (f:=fun x=>x.2.2.2.2.2.2.2.2.1) (fun x hx=>(hs.shelves x hx).spent) c
    rw [zJ8 sh (f:=fun x=>x.2.2.2.2.2.2.2.1) (g:=zlW) (fun x=>rfl) (fun x hx=>(hs.shelves x hx).made) hc,zJ8 sh (f:=fun x=>x.2.2.2.2.2.2.2.2.1) (g:=zlX) (fun x=>rfl) (fun x hx=>(hs.shelves x hx).spent) hc]
    simp only [cond_true,Option.bind_some]
    generalize zmk (fun x=>x.2.2.2.2.2.2.2.1) s c = a at *
    generalize zmk (fun x=>x.2.2.2.2.2.2.2.2.1) s c = b at *
    by_cases h1:a > M62
    · rw [j6 h1,decide_eq_true h1]; rfl
    · rw [zaB (by omega),decide_eq_false h1]
      by_cases h2:b > M62
      · rw [j6 h2,decide_eq_true h2]; rfl
      · rw [zaB (by omega),decide_eq_false h2]
        simp only [bne_self_eq_false,cond_false]
        rw [zJ7 (by omega) (by omega)]; rfl
theorem zKa {s:zb} (hs:qJ s) (sh:zx7 s) (c:Int):zkI (s,c,()) = some (zrc s c):=by
  have hmm:10000000 ≤ Go.maxLen:=by unfold Go.maxLen; omega
  have hsh:=sh.shelves
  simp only [zkI,zkH]
  unfold zrc
  cases hc:qH c with
  | false=>unfold qH at hc; grind
  | true =>
    have hcin:=zrb hc
    have p1:=zt7 (f:=fun x=>x.2.2.2.2.2.2.2.1) (fun x hx=>(hs.shelves x hx).made) c
    have p2:=zt7 (f:=fun x=>x.2.2.2.2.2.2.2.2.1) (fun x hx=>(hs.shelves x hx).spent) c
    have l1:∀ (a b e:Int),0 ≤ a ∧ a ≤ M62→((e = 0 ∧ 0 ≤ b ∧ b ≤ M62) ∨ e = 7)→zbb K0 (c,a,b,e,0,s) = bif e == 0 then (bif decide (b + zmk (fun x=>x.2.2.2.2.2.2.2.2.1) s c > M62) then some (0,7,()) else some (zpM a (b + zmk (fun x=>x.2.2.2.2.2.2.2.2.1) s c))) else some (0,7,()):=fun a b e ha he =>
      j5 (B:=zeO) (l:=s.2.1) (α:=Int × Int) ze (fun _ st=>(st.2 = 0 ∧ 0 ≤ st.1 ∧ st.1 ≤ M62) ∨ st.2 = 7) (fun i st=>(c,a,st.1,st.2,i,s)) (fun rest st=>bif st.2 == 0 then (bif decide (st.1 + zZ (rest.map fun x=>vP c x.2.2.2.2.2.2.2.2.1) > M62) then some (0,7,()) else some (zpM a (st.1 + zZ (rest.map fun x=>vP c x.2.2.2.2.2.2.2.2.1)))) else some (0,7,())) (by omega) (fun k i x rest st hi hI hx hm hr hk=>by
        obtain ⟨b,e⟩:=st
        have hrest:0 ≤ zZ (rest.map fun x:zp=>vP c x.2.2.2.2.2.2.2.2.1):=jg fun y hy=>(zbU (hs.shelves y (by rw [← hr] at hy; exact List.mem_of_mem_drop hy)).spent _).1
        simp only [zeO]
        rw [ltT hi,zk hi,zG,hx]
        rcases hI with ⟨h0,hb⟩ | h7
        · simp only at h0 hb
          subst h0
          have hxx:=zbU (hs.shelves x hm).spent c.toNat
          simp only [beq_self_eq_true,cond_true,List.map_cons,zZ,vP]
          refine Eq.trans (ixR hcin) ?_
          rw [zfd (by unfold M62 at hb; unfold U64; omega) hxx,zpL,Option.bind_some]
          by_cases hh:b + List.getD x.2.2.2.2.2.2.2.2.1 c.toNat 0 > M62
          · rw [j6 hh]
            unfold vP at hrest
            rw [decide_eq_true (by omega)]
            exact hk (0,7) (.inr rfl)
          · rw [zaB (by omega)]
            have:=hk (b + List.getD x.2.2.2.2.2.2.2.2.1 c.toNat 0,0) (.inl ⟨rfl,by have:=hxx.1; show 0 ≤ b + _ ∧ b + _ ≤ M62; omega⟩)
            refine this.trans ?_
            simp only [beq_self_eq_true,cond_true]
            rw [Int.add_assoc]; rfl
        · simp only at h7
          subst h7
          rfl) (fun k st hI=>by
        obtain ⟨b,e⟩:=st
        simp only [zeO]
        rw [ltF]
        rcases hI with ⟨h0,hb⟩ | h7
        · simp only at h0 hb
          subst h0
          simp only [bne_self_eq_false,cond_false,beq_self_eq_true,cond_true,List.map_nil,zZ,Int.add_zero]
          rw [zHn ha hb,decide_eq_false (by omega)]
          rfl
        · simp only at h7
          subst h7
          rfl) (b,e) he
    have l0:=j5 (B:=fun k0=>zbc (zbb K0) k0) (l:=s.2.1) (α:=Int × Int) ze (fun _ st=>(st.2 = 0 ∧ 0 ≤ st.1 ∧ st.1 ≤ M62) ∨ (st.2 = 7 ∧ st.1 = 0)) (fun i st=>(c,st.1,0,st.2,i,s)) (fun rest st=>bif st.2 == 0 then (bif decide (st.1 + zZ (rest.map fun x=>vP c x.2.2.2.2.2.2.2.1) > M62) then some (0,7,()) else zbb K0 (c,st.1 + zZ (rest.map fun x=>vP c x.2.2.2.2.2.2.2.1),0,0,0,s)) else some (0,7,())) (by omega) (fun k i x rest st hi hI hx hm hr hk=>by
        obtain ⟨a,e⟩:=st
        have hrest:0 ≤ zZ (rest.map fun x:zp=>vP c x.2.2.2.2.2.2.2.1):=jg fun y hy=>(zbU (hs.shelves y (by rw [← hr] at hy; exact List.mem_of_mem_drop hy)).made _).1
        simp only [zbc]
        rw [ltT hi,zk hi,zG,hx]
        rcases hI with ⟨h0,hb⟩ | ⟨h7,ha⟩
        · simp only at h0 hb
          subst h0
          have hxx:=zbU (hs.shelves x hm).made c.toNat
          simp only [beq_self_eq_true,cond_true,List.map_cons,zZ,vP]
          refine Eq.trans (ixR hcin) ?_
          rw [zfd (by unfold M62 at hb; unfold U64; omega) hxx,zpL,Option.bind_some]
          by_cases hh:a + List.getD x.2.2.2.2.2.2.2.1 c.toNat 0 > M62
          · rw [j6 hh]
            unfold vP at hrest
            rw [decide_eq_true (by omega)]
            exact hk (0,7) (.inr ⟨rfl,rfl⟩)
          · rw [zaB (by omega)]
            have:=hk (a + List.getD x.2.2.2.2.2.2.2.1 c.toNat 0,0) (.inl ⟨rfl,by have:=hxx.1; show 0 ≤ a + _ ∧ a + _ ≤ M62; omega⟩)
            refine this.trans ?_
            simp only [beq_self_eq_true,cond_true]
            rw [Int.add_assoc]; rfl
        · simp only at h7 ha
          subst h7
          subst ha
          simp only [cond_true]
          refine (l1 0 0 7 (by unfold M62; omega) (.inr rfl)).trans ?_
          rfl) (fun k st hI=>by
        obtain ⟨a,e⟩:=st
        simp only [zbc]
        rw [ltF]
        rcases hI with ⟨h0,hb⟩ | ⟨h7,ha⟩
        · simp only at h0 hb
          subst h0
          simp only [cond_false,beq_self_eq_true,cond_true,List.map_nil,zZ,Int.add_zero]
          rw [decide_eq_false (by omega)]; rfl
        · simp only at h7 ha
          subst h7
          subst ha
          refine (l1 0 0 7 (by unfold M62; omega) (.inr rfl)).trans ?_
          rfl) (0,0) (.inl ⟨rfl,by show (0:Int) ≤ 0 ∧ (0:Int) ≤ M62; unfold M62; omega⟩)
    refine Eq.trans ?_ (l0.trans ?_)
    · unfold qH at hc; grind
    · simp only [beq_self_eq_true,cond_true]
      have e1:(0:Int) + zZ (s.2.1.map fun x:zp=>vP c x.2.2.2.2.2.2.2.1) = zmk (fun x=>x.2.2.2.2.2.2.2.1) s c:=by rw [Int.zero_add]; rfl
      rw [e1]
      by_cases h1:zmk (fun x=>x.2.2.2.2.2.2.2.1) s c > M62
      · rw [decide_eq_true h1]; rfl
      · rw [decide_eq_false h1,cond_false,cond_false,l1 _ 0 0 (by omega) (.inl ⟨rfl,by unfold M62; omega⟩),Int.zero_add]
        simp only [beq_self_eq_true,cond_true]
        cases decide (zmk (fun x=>x.2.2.2.2.2.2.2.2.1) s c > M62) <;> rfl
end Go.Proofs.YtejbgeokcpillaaGreatDoor
end
section
namespace Go.Proofs.YtejbgeokcpillaaGreatDoor
open Go.Ev
def zmF (r:zf) (s:zb) (c i:Nat):Bool:=!decide (((s.2.1.getD i ze).2.2.2.2.2.2.2.1.getD c 0:Int) > (r.2.2.2.2.1.getD i qt).2.2.2.2.2.1)
def zm7 (s:zb) (c:Int):Bool:=(zra s c).2.1 == 0 && ((zrc s c).2.1 == 0 && (zra s c).1 == (zrc s c).1)
def ql (r:zf) (s:zb):Bool:=qZ r && (zhd r s && (zgm r s && (zW (fun i=>(jb (s.2.1.getD i ze) && zpJ r s i (s.2.1.getD i ze)) && zW (fun c=>zmF r s c i) 0 (4 - 0)) 0 (s.2.1.length - 0) && zW (fun c=>zm7 s (c:Int)) 0 (4 - 0))))
theorem zO3 {r:zf} {s:zb} (ok:zhZ r) (sz:zfe r s):zx7 s:=by
  have h1:=sz.shelves
  have h2:=ok.labels
  have h3:=ok.accounts
  have h4:=sz.orders
  have h5:=zO2 (n:=8) (l:=s.2.1) fun x hx=>by
    have:=sz.shelf x hx
    omega
  refine ⟨by omega,by omega,fun x hx=>?_,by omega⟩
  have:=sz.shelf x hx
  omega
theorem zHo {r:zf} {s:zb} (ok:zhZ r) (hs:qJ s) (sz:zfe r s):zgb ((r,s,()),()) = some (zW (fun c=>zW (fun i=>zmF r s c i) 0 (s.2.1.length - 0) && zm7 s (c:Int)) 0 (4 - 0),()):=by
  rw [zF]
  have hmm:1000000 ≤ Go.maxLen:=by unfold Go.maxLen; omega
  have sh:=zO3 ok sz
  have hsh:s.2.1.length ≤ 8:=by rw [sz.shelves]; exact ok.labels.2
  have h2:=sz.shelves
  have h3:=ok.quotas
  have inner:∀ k0 (c:Nat),c < 4→zdv K0 k0 ((c:Int),(c:Int),s.2.1,(s.2.1.length:Int),0,(r,s,())) = bif zW (fun i=>zmF r s c i) 0 (s.2.1.length - 0) then bif zm7 s (c:Int) then k0 (wI ((c:Int) + 1),(r,s,())) else some (false,()) else some (false,()):=fun k0 c hc =>
    z8 (B:=fun k1=>zdu k0 k1) (i0:=0) (n:=s.2.1.length) (by omega) (Nat.zero_le _) (fun i=>((c:Int),(c:Int),s.2.1,(s.2.1.length:Int),i,(r,s,()))) (fun k i _ hi=>by
      simp only [zdu]
      rw [ltT hi,zk hi,zG,Int.toNat_natCast]
      simp only [cond_true]
      refine Eq.trans (zk (n:=4) hc) ?_
      rw [zk (by omega),zG]
      unfold zmF
      grind) (fun k=>by
      simp only [zdu]
      rw [ltF,zJ5 hs sh,zJ9 hs sh]
      simp only [Option.bind_some,cond_false,zm7]
      generalize zra s (c:Int) = h
      generalize zrc s (c:Int) = m
      grind)
  exact z8 (B:=fun k0=>zdw (zdv K0 k0) k0) (i0:=0) (n:=4) (by omega) (Nat.zero_le _) (fun c=>(c,(r,s,()))) (fun k c _ hc=>by
    simp only [zdw]
    rw [decide_eq_true (by omega),cond_true]
    refine (inner k c hc).trans ?_
    cases zW (fun i=>zmF r s c i) 0 (s.2.1.length - 0) <;> rfl) (fun k=>rfl)
theorem zHp {r:zf} {s:zb} (hr:z9 r) (hs:qJ s):zjc (r,s,()) = some (ql r s,()):=by
  rw [zF]
  have hmm:1000000 ≤ Go.maxLen:=by unfold Go.maxLen; omega
  simp only [zjc,zjb,zvk r hr,Option.bind_some]
  unfold ql
  cases hb:qZ r with
  | false=>rfl
  | true =>
    rw [zHg hb s,Option.bind_some]
    cases hz:zhd r s with
    | false=>rfl
    | true =>
      have ok:=vN hb
      have sz:=zfj hb hz
      have sh:=zO3 ok sz
      have hsh:s.2.1.length ≤ 8:=by rw [sz.shelves]; exact ok.labels.2
      have h2:=sz.shelves
      have h3:=ok.quotas
      rw [zEX hr hb hs sz,Option.bind_some]
      cases hp:zgm r s with
      | false=>rfl
      | true =>
        have l2:zdz K0 (0,s) = bif zW (fun c=>zm7 s (c:Int)) 0 (4 - 0) then some (true,()) else some (false,()) :=
          z8 (i0:=0) (n:=4) (by omega) (Nat.zero_le _) (fun c=>(c,s)) (fun k c _ hc=>by
            simp only [zk8]
            rw [decide_eq_true (by omega),zJ6 hs sh,zKa hs sh]
            simp only [Option.bind_some,cond_true,zm7]
            generalize zra s (c:Int) = h
            generalize zrc s (c:Int) = m
            grind) (fun k=>rfl)
        have l1:∀ k0 (i:Nat),i < s.2.1.length→zgM K0 k0 ((i:Int),0,r,s) = bif zW (fun c=>zmF r s c i) 0 (4 - 0) then k0 (wI ((i:Int) + 1),r,s) else some (false,()):=fun k0 i hi =>
          z8 (B:=fun k1=>zgL k0 k1) (i0:=0) (n:=4) (by omega) (Nat.zero_le _) (fun c=>((i:Int),c,r,s)) (fun k c _ hc=>by
            simp only [zgL]
            rw [decide_eq_true (by omega),zk hi,zk (by omega),zG,zG,Int.toNat_natCast]
            simp only [cond_true]
            refine Eq.trans (zk (n:=4) hc) ?_
            unfold zmF
            grind) (fun k=>rfl)
        have l0:zk9 K0 (0,r,s) = bif zW (fun i=>(jb (s.2.1.getD i ze) && zpJ r s i (s.2.1.getD i ze)) && zW (fun c=>zmF r s c i) 0 (4 - 0)) 0 (s.2.1.length - 0) then zdz K0 (0,s) else some (false,()) :=
          z8 (i0:=0) (n:=s.2.1.length) (by omega) (Nat.zero_le _) (fun i=>(i,r,s)) (fun k i _ hi=>by
            simp only [zdA]
            rw [ltT hi,zHk hr ok hs sz hi]
            have:=l1 k i hi
            rw [this]
            simp only [Option.bind_some,cond_true]
            generalize (jb (s.2.1.getD i ze) && zpJ r s i (s.2.1.getD i ze)) = u
            cases u <;> rfl) (fun k=>by simp only [zdA]; rw [ltF]; rfl)
        simp only [cond_true,Bool.true_and]
        rw [l0,l2]
        grind
def zKb (r:zf) (s:zb):Bool:=qZ r && (zhd r s && (s.2.1.all jb && (zgm r s && (zW (fun i=>ztg r s (i:Int) (s.2.1.getD i ze)) 0 (s.2.1.length - 0) && (zW (fun i=>zgn r (i:Int) (s.2.1.getD i ze)) 0 s.2.1.length && (zW (fun i=>zpI (s.2.1.getD i ze)) 0 (s.2.1.length - 0) && zW (fun c=>zW (fun i=>zmF r s c i) 0 (s.2.1.length - 0) && zm7 s (c:Int)) 0 (4 - 0)))))))
theorem zO4 (r:zf) (s:zb):zKb r s = ql r s:=by
  rw [Bool.eq_iff_iff]
  unfold zKb ql zpJ
  simp only [Bool.and_eq_true,qL,@zAG zp ze]
  constructor
  · rintro ⟨h1,h2,h3,h4,h5,h6,h7,h8⟩
    exact ⟨h1,h2,h4,fun i hi1 hi=>⟨⟨h3 i (by omega),h5 i hi1 hi,h6 i hi1 (by omega),h7 i hi1 hi⟩,fun c hc1 hc=>(h8 c hc1 hc).1 i hi1 hi⟩,fun c hc1 hc=>(h8 c hc1 hc).2⟩
  · rintro ⟨h1,h2,h4,h5,h6⟩
    exact ⟨h1,h2,fun i hi=>(h5 i (by omega) (by omega)).1.1,h4,fun i h7 h8=>(h5 i h7 h8).1.2.1,fun i h7 h8=>(h5 i h7 (by omega)).1.2.2.1,fun i h7 h8=>(h5 i h7 h8).1.2.2.2,fun c h7 h8=>⟨fun i h9 h10=>(h5 i h9 h10).2 c h7 h8,h6 c h7 h8⟩⟩
theorem zHq {r:zf} {s:zb} (hr:z9 r) (hs:qJ s):zjf (r,s,()) = some (ql r s,()):=by
  rw [← zO4,zF]
  obtain ⟨m,hm⟩:=zx3
  have first:zjf (r,s,()) = zg zgO K0 (true,7,0,[some fun z=>zcc ((r,s,()),()),some fun z=>zcd ((r,s,()),()),some fun z=>zbh ((r,s,()),()),some fun z=>zf7 ((r,s,()),()),some fun z=>zbf ((r,s,()),()),some fun z=>zf6 ((r,s,()),()),some fun z=>zgb ((r,s,()),())]):=rfl
  have hu:∀ (f1 f2 f3 f4 f5 f6 f7:Option (Bool × Unit)),zg zgO (m + 8) (true,7,0,[some fun z=>f1,some fun z=>f2,some fun z=>f3,some fun z=>f4,some fun z=>f5,some fun z=>f6,some fun z=>f7]) =
    Option.bind f1 fun q=>bif q.1 then Option.bind f2 fun q=>bif q.1 then Option.bind f3 fun q=>bif q.1 then Option.bind f4 fun q=>bif q.1 then Option.bind f5 fun q=>bif q.1 then Option.bind f6 fun q=>bif q.1 then Option.bind f7 fun q=>bif q.1 then some (true,()) else some (false,()) else some (false,()) else some (false,()) else some (false,()) else some (false,()) else some (false,()) else some (false,()):=fun f1 f2 f3 f4 f5 f6 f7=>by kernel_rfl
  rw [first,hm,hu,zHf hr s,Option.bind_some]
  unfold zKb
  cases hb:qZ r with
  | false=>rfl
  | true =>
    cases hz:zhd r s with
    | false=>rfl
    | true =>
      have ok:=vN hb
      have sz:=zfj hb hz
      rw [zHh ok sz,zEW hr hb hs sz,zHi hr ok sz,zEY hr ok sz,zHj ok sz,zHo ok hs sz]
      simp only [Option.bind_some,Bool.true_and,cond_true]
      generalize s.2.1.all jb = c1
      generalize zgm r s = c2
      generalize zW (fun i=>ztg r s (i:Int) (s.2.1.getD i ze)) 0 (s.2.1.length - 0) = c3
      generalize zW (fun i=>zgn r (i:Int) (s.2.1.getD i ze)) 0 s.2.1.length = c4
      generalize zW (fun i=>zpI (s.2.1.getD i ze)) 0 (s.2.1.length - 0) = c5
      generalize zW (fun c=>zW (fun i=>zmF r s c i) 0 (s.2.1.length - 0) && zm7 s (c:Int)) 0 (4 - 0) = c6
      cases c1 <;> cases c2 <;> cases c3 <;> cases c4 <;> cases c5 <;> cases c6 <;> rfl
def qE (r:zf) (x:pMe):Bool:=decide (0 ≤ x.1 ∧ x.1 < (r.2.1.length:Int)) && ((x.2.1:Int) == r.2.1.getD x.1.toNat 0 && jL r x.2.2.1)
theorem zhg {r:zf} {s:zb} (hr:z9 r) (hs:qJ s) (x:pMe):zam (r,s,x,()) = some (ql r s && qE r x,()):=by
  rw [zF]
  simp only [zam,zHq hr hs,Option.bind_some,qE,ix,jL]
  cases ql r s with
  | false=>rfl
  | true =>
    by_cases h:0 ≤ x.1 ∧ x.1 < (r.2.1.length:Int)
    · rw [ixR h]; grind
    · grind
theorem zKc (r:zf) (x:pMe):zkJ (r,x,()) = some (qE r x,()):=by
  rw [zF]
  simp only [zkJ,qE,ix,zdX,Option.bind_some]
  by_cases h:0 ≤ x.1 ∧ x.1 < (r.2.1.length:Int)
  · rw [ixR h]; grind
  · grind
end Go.Proofs.YtejbgeokcpillaaGreatDoor
end
section
namespace Go.Proofs.YtejbgeokcpillaaGreatDoor
open Go.Ev
theorem zDb {r:zf} (hr:z9 r) (i:Int):zdC (r,i,()) = some (qZ r && zaJ r i,()):=by
  rw [zF]
  simp only [zdC,znH r hr,Option.bind_some]
  cases hb:qZ r with
  | false=>rfl
  | true =>
    have hl:=(vN hb).labels
    have hw:wI ((r.1.length:Int) - 1) = (r.1.length:Int) - 1:=by
      have:=zjN (i:=r.1.length) (by omega) (by unfold Go.maxLen; omega)
      rw [this]; omega
    rw [hw,zfR]
    simp only [Option.bind_some,cond_true,Bool.true_and,zT,zaJ]
    grind
theorem zL6 {r:zf} (hr:z9 r) (hb:qZ r = true) (a b:Int):zmE (r,a,b,()) = some (zij r a b,()):=by
  rw [zF]
  simp only [zmE,zDb hr,hb,Bool.true_and,Option.bind_some,zij,ix]
  cases ha:zaJ r a with
  | false=>rfl
  | true =>
    cases hbb:zaJ r b with
    | false=>rfl
    | true =>
      have h1:=ztf hr a ha
      have h2:=ztf hr b hbb
      simp only [zaJ,decide_eq_true_eq] at ha hbb
      rw [ixR ha,ixR hbb,zzi h1 h2]
      simp only [Option.bind_some]
      generalize zET (r.1.getD a.toNat jh) (r.1.getD b.toNat jh) = u
      cases u <;> rfl
def eqW {α:Type} (p:α→α→Bool) (a b:List α):Bool:=decide (a.length = b.length) && (List.zip a b).all fun q=>p q.1 q.2
theorem yi {α σ:Type} {B:(σ→Option (Bool × Unit))→σ→Option (Bool × Unit)} {a b:List α} (d:α) (p:α→α→Bool) (st:Int→σ) (hl:a.length ≤ Go.maxLen) (hab:a.length = b.length)
    (hin:∀ k (i:Nat),i < a.length→B k (st i) = bif p (a.getD i d) (b.getD i d) then k (st (wI (i + 1))) else some (false,())) {fin:Bool} (hout:∀ k,B k (st a.length) = some (fin,())) :
    zg B K0 (st 0) = some (eqW p a b && fin,()):=by
  have hz:(List.zip a b).length = a.length:=by rw [List.length_zip]; omega
  have hx:∀ i,i < a.length→(List.zip a b).getD i (d,d) = (a.getD i d,b.getD i d):=fun i hi=>zzF a b i hi (by omega)
  have:=jF (B:=B) (l:=List.zip a b) (d,d) (p:=fun q=>p q.1 q.2) (fin:=some (fin,())) (bad:=some (false,())) st (by rw [hz]; exact hl) (fun k i x hi hx' _=>?_) (fun k=>?_)
  · rw [this]
    unfold eqW
    rw [decide_eq_true hab]
    cases (List.zip a b).all fun q=>p q.1 q.2 <;> rfl
  · rw [hz] at hi
    rw [hx i hi] at hx'
    subst hx'
    exact hin k i hi
  · rw [hz]; exact hout k
theorem zth {α ρ:Type} (a b:List α) (p:α→α→Bool) (x:Option ρ) (y:Option ρ):(bif ((List.length a:Int) != (List.length b:Int)) then y else x) = bif decide (a.length = b.length) then x else y:=by
  rw [ziP]; cases decide (a.length = b.length) <;> rfl
theorem zti {α:Type} {p:α→α→Bool} {a b:List α} (h:¬ a.length = b.length):eqW p a b = false:=by unfold eqW; rw [decide_eq_false h]; rfl
theorem za6 {α:Type} {p:α→α→Bool} {a b:List α} {x:Option (Bool × Unit)} (h:a.length = b.length→x = some (eqW p a b,())):(bif ((List.length a:Int) != (List.length b:Int)) then some (false,()) else x) = some (eqW p a b,()):=by
  rw [zth a b p]
  by_cases hl:a.length = b.length
  · rw [decide_eq_true hl,h hl]; rfl
  · rw [decide_eq_false hl,zti hl]; rfl
theorem zpN {p:Bool} {ρ:Type} (x y:ρ):(bif !p then y else x) = bif p then x else y:=by cases p <;> rfl
theorem zPL {ρ:Type} (u v:Int) (x y:ρ):(bif u != v then y else x) = bif u == v then x else y:=by
  show (bif !(u == v) then y else x) = _
  exact zpN _ _
theorem zKd {a b:List zu} (hl:a.length ≤ Go.maxLen):zoP (a,b,()) = some (eqL zr a b,()):=za6 (p:=eqI zr) fun h=>by
  have:=yi (B:=zew) zK (eqI zr) (fun i=>(a,b,i)) hl h (fun k i hi=>by
    simp only [zew]
    rw [ltT hi,zk hi,zk (by omega),zG,zG,zpN]; rfl) (fin:=true) (fun k=>by simp only [zew]; rw [ltF]; rfl)
  rw [Bool.and_true] at this; exact this
theorem zKe {a b:List zJ} (hl:a.length ≤ Go.maxLen):zoR (a,b,()) = some (eqL zA a b,()):=za6 (p:=eqI zA) fun h=>by
  have:=yi (B:=zey) vU (eqI zA) (fun i=>(a,b,i)) hl h (fun k i hi=>by
    simp only [zey]
    rw [ltT hi,zk hi,zk (by omega),zG,zG,zpN]; rfl) (fin:=true) (fun k=>by simp only [zey]; rw [ltF]; rfl)
  rw [Bool.and_true] at this; exact this
theorem zL7 {a b:List qV} (hl:a.length ≤ Go.maxLen):zib (a,b,()) = some (eqL qk a b,()):=za6 (p:=eqI qk) fun h=>by
  have:=yi (B:=yF) zhs (eqI qk) (fun i=>(a,b,i)) hl h (fun k i hi=>by
    simp only [yF]
    rw [ltT hi,zk hi,zk (by omega),zG,zG,zpN]; rfl) (fin:=true) (fun k=>by simp only [yF]; rw [ltF]; rfl)
  rw [Bool.and_true] at this; exact this
theorem zL8 {a b:List qe} (hl:a.length ≤ Go.maxLen):zid (a,b,()) = some (eqL zU a b,()):=za6 (p:=eqI zU) fun h=>by
  have:=yi (B:=yH) qh (eqI zU) (fun i=>(a,b,i)) hl h (fun k i hi=>by
    simp only [yH]
    rw [ltT hi,zk hi,zk (by omega),zG,zG,zpN]; rfl) (fin:=true) (fun k=>by simp only [yH]; rw [ltF]; rfl)
  rw [Bool.and_true] at this; exact this
theorem zKf {a b:List zh} (hl:a.length ≤ Go.maxLen):zoT (a,b,()) = some (eqL zi a b,()):=za6 (p:=eqI zi) fun h=>by
  have:=yi (B:=zeA) zj (eqI zi) (fun i=>(a,b,i)) hl h (fun k i hi=>by
    simp only [zeA]
    rw [ltT hi,zk hi,zk (by omega),zG,zG,zpN]; rfl) (fin:=true) (fun k=>by simp only [zeA]; rw [ltF]; rfl)
  rw [Bool.and_true] at this; exact this
theorem zKg {a b:List qr} (hl:a.length ≤ Go.maxLen):zoV (a,b,()) = some (eqL zY a b,()):=za6 (p:=eqI zY) fun h=>by
  have:=yi (B:=zeC) zaS (eqI zY) (fun i=>(a,b,i)) hl h (fun k i hi=>by
    simp only [zeC]
    rw [ltT hi,zk hi,zk (by omega),zG,zG,zpN]; rfl) (fin:=true) (fun k=>by simp only [zeC]; rw [ltF]; rfl)
  rw [Bool.and_true] at this; exact this
theorem zKh {a b:List zx} (hl:a.length ≤ Go.maxLen):zoX (a,b,()) = some (eqL zz a b,()):=za6 (p:=eqI zz) fun h=>by
  have:=yi (B:=zeE) zR (eqI zz) (fun i=>(a,b,i)) hl h (fun k i hi=>by
    simp only [zeE]
    rw [ltT hi,zk hi,zk (by omega),zG,zG,zpN]; rfl) (fin:=true) (fun k=>by simp only [zeE]; rw [ltF]; rfl)
  rw [Bool.and_true] at this; exact this
structure zKi (x:zp):Prop where
  rooms:x.1.length ≤ Go.maxLen
  exits:x.2.1.length ≤ Go.maxLen
  items:x.2.2.1.length ≤ Go.maxLen
  mails:x.2.2.2.1.length ≤ Go.maxLen
  trades:x.2.2.2.2.1.length ≤ Go.maxLen
  purses:x.2.2.2.2.2.1.length ≤ Go.maxLen
  places:x.2.2.2.2.2.2.1.length ≤ Go.maxLen
structure zQT (s:zb):Prop where
  shelves:s.2.1.length ≤ Go.maxLen
  ranks:s.2.2.1.length ≤ Go.maxLen
  orders:s.2.2.2.1.length ≤ Go.maxLen
  entries:s.2.2.2.2.1.length ≤ Go.maxLen
  seats:s.2.2.2.2.2.1.length ≤ Go.maxLen
  shelf:∀ x ∈ s.2.1,zKi x
  rank:∀ l ∈ s.2.2.1,l.length ≤ Go.maxLen
def zgo (a b:zp):Bool:=eqL qk a.1 b.1 && (eqL zU a.2.1 b.2.1 && (eqL zi a.2.2.1 b.2.2.1 && (eqL zY a.2.2.2.1 b.2.2.2.1 && (eqL zz a.2.2.2.2.1 b.2.2.2.2.1 && (eqL (.arr 4 tU) a.2.2.2.2.2.1 b.2.2.2.2.2.1 && (eqL zv a.2.2.2.2.2.2.1 b.2.2.2.2.2.2.1 && (eqI (.arr 4 tU) a.2.2.2.2.2.2.2.1 b.2.2.2.2.2.2.2.1 && eqI (.arr 4 tU) a.2.2.2.2.2.2.2.2.1 b.2.2.2.2.2.2.2.2.1)))))))
theorem zyv {a b:zp} (h:zKi a):zd8 (a,b,()) = some (zgo a b,()):=by
  rw [zF]
  simp only [zd8,zd7]
  rw [zL7 h.rooms,zL8 h.exits,zKf h.items,zKg h.mails,zKh h.trades]
  simp only [Option.bind_some]
  rw [zth a.2.2.2.2.2.1 b.2.2.2.2.2.1 (eqI (.arr 4 tU)),zth a.2.2.2.2.2.2.1 b.2.2.2.2.2.2.1 (eqI zv)]
  have key:a.2.2.2.2.2.1.length = b.2.2.2.2.2.1.length→a.2.2.2.2.2.2.1.length = b.2.2.2.2.2.2.1.length→zgw K0 (0,a,b) = some (eqL (.arr 4 tU) a.2.2.2.2.2.1 b.2.2.2.2.2.1 && eqL zv a.2.2.2.2.2.2.1 b.2.2.2.2.2.2.1,()):=fun h1 h2=>by
    have l1:=yi (B:=yK) zzG (eqI zv) (fun i=>(i,a,b)) h.places h2 (fun k i hi=>by
      simp only [yK]
      rw [ltT hi,zk hi,zk (by omega),zG,zG,zpN]; rfl) (fin:=true) (fun k=>by simp only [yK]; rw [ltF]; rfl)
    rw [Bool.and_true] at l1
    exact yi (B:=fun k0=>vf (zb4 K0) k0) (zd (.arr 4 tU)) (eqI (.arr 4 tU)) (fun i=>(i,a,b)) h.purses h1 (fun k i hi=>by
      simp only [vf]
      rw [ltT hi,zk hi,zk (by omega),Int.toNat_natCast,zpN]; rfl) (fun k=>by simp only [vf]; rw [ltF]; exact l1)
  unfold zgo
  by_cases h1:a.2.2.2.2.2.1.length = b.2.2.2.2.2.1.length
  · by_cases h2:a.2.2.2.2.2.2.1.length = b.2.2.2.2.2.2.1.length
    · rw [key h1 h2,decide_eq_true h1,decide_eq_true h2]
      generalize eqL qk a.1 b.1 = c1
      generalize eqL zU a.2.1 b.2.1 = c2
      generalize eqL zi a.2.2.1 b.2.2.1 = c3
      generalize eqL zY a.2.2.2.1 b.2.2.2.1 = c4
      generalize eqL zz a.2.2.2.2.1 b.2.2.2.2.1 = c5
      generalize eqL (.arr 4 tU) a.2.2.2.2.2.1 b.2.2.2.2.2.1 = c6
      generalize eqL zv a.2.2.2.2.2.2.1 b.2.2.2.2.2.2.1 = c7
      generalize eqI (.arr 4 tU) a.2.2.2.2.2.2.2.1 b.2.2.2.2.2.2.2.1 = c8
      generalize eqI (.arr 4 tU) a.2.2.2.2.2.2.2.2.1 b.2.2.2.2.2.2.2.2.1 = c9
      grind
    · have e:eqL zv a.2.2.2.2.2.2.1 b.2.2.2.2.2.2.1 = false:=zti h2
      rw [decide_eq_false h2,e]
      grind
  · have e:eqL (.arr 4 tU) a.2.2.2.2.2.1 b.2.2.2.2.2.1 = false:=zti h1
    rw [decide_eq_false h1,e]
    grind
def zHE (a b:zb):Bool:=(a.1:Int) == b.1 && (eqW zgo a.2.1 b.2.1 && (eqW (eqL tI) a.2.2.1 b.2.2.1 && (eqL zr a.2.2.2.1 b.2.2.2.1 && (eqL zA a.2.2.2.2.1 b.2.2.2.2.1 && eqL tI a.2.2.2.2.2.1 b.2.2.2.2.2.1))))
theorem zKj {a b:List (List Int)} (hl:a.length ≤ Go.maxLen) (hr:∀ l ∈ a,l.length ≤ Go.maxLen):zoN (a,b,()) = some (eqW (eqL tI) a b,()):=za6 (p:=eqL tI) fun h=>by
  have:=yi (B:=fun k0=>za9 (zhy K0 k0) k0) ([]:List Int) (eqL tI) (fun i=>(a,b,i)) hl h (fun k i hi=>by
    simp only [za9]
    rw [ltT hi,zk hi,zk (by omega),Int.toNat_natCast]
    simp only [cond_true]
    rw [zth (a.getD i []) (b.getD i []) (eqI tI)]
    by_cases hm:(a.getD i []).length = (b.getD i []).length
    · rw [decide_eq_true hm,cond_true]
      have hz:(List.zip (a.getD i []) (b.getD i [])).length = (a.getD i []).length:=by rw [List.length_zip]; omega
      have:=jF (B:=fun k1=>zeu k k1) (l:=List.zip (a.getD i []) (b.getD i [])) ((0:Int),(0:Int)) (p:=fun q=>q.1 == q.2) (fin:=k (a,b,wI (i + 1))) (bad:=some (false,())) (fun j=>(a,b,(i:Int),j)) (by rw [hz]; exact hr _ (zV hi)) (fun k1 j x hj hx _=>by
        rw [hz] at hj
        rw [zzF _ _ j hj (by omega)] at hx
        subst hx
        simp only [zeu]
        rw [zk hi,zk hi,Int.toNat_natCast,ltT hj,zk hj,zk (by omega),zk (by omega),Int.toNat_natCast]
        simp only [cond_true]
        exact zPL _ _ _ _) (fun k1=>by
        simp only [zeu]
        rw [hz,zk hi,Int.toNat_natCast,ltF]; rfl)
      refine Eq.trans this ?_
      unfold eqL
      rw [decide_eq_true hm,Bool.true_and]
      rfl
    · have e:eqL tI (a.getD i []) (b.getD i []) = false:=zti hm
      rw [decide_eq_false hm,e]; rfl) (fin:=true) (fun k=>by simp only [za9]; rw [ltF]; rfl)
  rw [Bool.and_true] at this; exact this
theorem zKk {a b:zb} (h:zQT a):ze1 (a,b,()) = some (zHE a b,()):=by
  rw [zF]
  simp only [ze1,zkU]
  rw [zKj h.ranks h.rank,zKd h.orders,zKe h.entries]
  simp only [Option.bind_some]
  rw [zth a.2.1 b.2.1 zgo,zth a.2.2.2.2.2.1 b.2.2.2.2.2.1 (eqI tI)]
  have key:a.2.1.length = b.2.1.length→a.2.2.2.2.2.1.length = b.2.2.2.2.2.1.length→zl4 K0 (0,a,b) = some (eqW zgo a.2.1 b.2.1 && eqL tI a.2.2.2.2.2.1 b.2.2.2.2.2.1,()):=fun h1 h2=>by
    have l1:=yi (B:=ze0) (0:Int) (eqI tI) (fun i=>(i,a,b)) h.seats h2 (fun k i hi=>by
      simp only [ze0]
      rw [ltT hi,zk hi,zk (by omega),zG,zG]
      simp only [cond_true]
      exact zPL _ _ _ _) (fin:=true) (fun k=>by simp only [ze0]; rw [ltF]; rfl)
    rw [Bool.and_true] at l1
    exact yi (B:=fun k0=>zbe (zhL K0) k0) ze zgo (fun i=>(i,a,b)) h.shelves h1 (fun k i hi=>by
      simp only [zbe]
      rw [ltT hi,zk hi,zk (by omega),zG,zG,zyv (h.shelf _ (zV hi))]; rfl) (fun k=>by simp only [zbe]; rw [ltF]; exact l1)
  unfold zHE
  have e0:(a.1 != b.1) = !(a.1 == b.1):=rfl
  rw [e0]
  by_cases h1:a.2.1.length = b.2.1.length
  · by_cases h2:a.2.2.2.2.2.1.length = b.2.2.2.2.2.1.length
    · rw [key h1 h2,decide_eq_true h1,decide_eq_true h2]
      generalize eqW zgo a.2.1 b.2.1 = c1
      generalize eqW (eqL tI) a.2.2.1 b.2.2.1 = c2
      generalize eqL zr a.2.2.2.1 b.2.2.2.1 = c3
      generalize eqL zA a.2.2.2.2.1 b.2.2.2.2.1 = c4
      generalize eqL tI a.2.2.2.2.2.1 b.2.2.2.2.2.1 = c5
      generalize (a.1 == b.1) = c6
      grind
    · have e:eqL tI a.2.2.2.2.2.1 b.2.2.2.2.2.1 = false:=zti h2
      rw [decide_eq_false h2,e]
      grind
  · have e:eqW zgo a.2.1 b.2.1 = false:=zti h1
    rw [decide_eq_false h1,e]
    grind
theorem zPM {r:zf} {l:List (List Int)} (h:ziI r l = true):l.length = r.2.2.2.1.length ∧ ∀ g,g < r.2.2.2.1.length→(l.getD g []).length = r.2.2.1.length:=by
  simp only [ziI,Bool.and_eq_true,decide_eq_true_eq,qL] at h
  refine ⟨h.1,fun g hg=>?_⟩
  have:=h.2 g (by omega) (by omega)
  simp only [ztd,Bool.and_eq_true,decide_eq_true_eq] at this
  exact this.1
theorem zaa {r:zf} {s:zb} (h:ql r s = true):qZ r = true ∧ zhd r s = true ∧ zgm r s = true:=by
  simp only [ql,Bool.and_eq_true] at h
  exact ⟨h.1,h.2.1,h.2.2.1⟩
theorem ztE:∀ {τ:Ty},τ.eqIn = true→∀ x:τ.I,eqI τ x x = true:=by
  intro τ
  induction τ with
  | unit=>intro _ _; rfl
  | bool=>intro _ x; exact beq_self_eq_true x
  | int k=>intro _ x; exact beq_self_eq_true (α:=Int) x
  | str=>intro _ x; exact beq_self_eq_true _
  | pair a b iha ihb =>
    intro h x
    simp only [Ty.eqIn,Bool.and_eq_true] at h
    simp only [eqI,iha h.1,ihb h.2,cond_true]
  | st a ih=>intro h x; exact ih h x
  | arr n a ih =>
    intro h x
    simp only [eqI,List.all_eq_true]
    intro p hp
    have:p.1 = p.2:=by
      obtain ⟨i,hi,rfl⟩:=List.mem_iff_getElem.1 hp
      rw [List.getElem_zip]
    rw [this]
    exact ih h _
  | _=>intro h; cases h
theorem zAI {α:Type} {p:α→α→Bool} (h:∀ x,p x x = true) (l:List α):eqW p l l = true:=by
  simp only [eqW,decide_true,Bool.true_and,List.all_eq_true]
  intro q hq
  have:q.1 = q.2:=by
    obtain ⟨i,hi,rfl⟩:=List.mem_iff_getElem.1 hq
    rw [List.getElem_zip]
  rw [this]; exact h _
theorem y4 {τ:Ty} (h:τ.eqIn = true) (l:List τ.I):eqL τ l l = true:=zAI (ztE h) l
theorem zKl (x:zp):zgo x x = true:=by
  simp only [zgo,Bool.and_eq_true]
  exact ⟨y4 (τ:=qk) rfl _,y4 (τ:=zU) rfl _,y4 (τ:=zi) rfl _,y4 (τ:=zY) rfl _,y4 (τ:=zz) rfl _,y4 (τ:=.arr 4 tU) rfl _,y4 (τ:=zv) rfl _,ztE (τ:=.arr 4 tU) rfl _,ztE (τ:=.arr 4 tU) rfl _⟩
theorem zNV (s:zb):zHE s s = true:=by
  simp only [zHE,Bool.and_eq_true]
  exact ⟨beq_self_eq_true (α:=Int) _,zAI zKl _,zAI (y4 (τ:=tI) rfl) _,y4 (τ:=zr) rfl _,y4 (τ:=zA) rfl _,y4 (τ:=tI) rfl _⟩
end Go.Proofs.YtejbgeokcpillaaGreatDoor
end
section
namespace Go.Proofs.YtejbgeokcpillaaGreatDoor
open Go.Ev
structure zxN (x:zp):Prop where
  rooms:x.1.length * 24 ≤ 140737488355328
  exits:x.2.1.length * 48 ≤ 140737488355328
  items:x.2.2.1.length * 56 ≤ 140737488355328
  mails:x.2.2.2.1.length * 48 ≤ 140737488355328
  trades:x.2.2.2.2.1.length * 72 ≤ 140737488355328
  purses:x.2.2.2.2.2.1.length * 32 ≤ 140737488355328
  places:x.2.2.2.2.2.2.1.length * 16 ≤ 140737488355328
structure zhh (s:zb):Prop where
  shelves:s.2.1.length * 232 ≤ 140737488355328
  ranks:s.2.2.1.length * 24 ≤ 140737488355328
  orders:s.2.2.2.1.length * 80 ≤ 140737488355328
  entries:s.2.2.2.2.1.length * 80 ≤ 140737488355328
  seats:s.2.2.2.2.2.1.length * 8 ≤ 140737488355328
  shelf:∀ x ∈ s.2.1,zxN x
  rank:∀ l ∈ s.2.2.1,l.length * 8 ≤ 140737488355328
theorem zKm {α:Type} {l:List α} {i:Nat} {d:α} (h:i < l.length):List.set l i (l.getD i d) = l:=by
  rw [List.getD_eq_getElem?_getD,List.getElem?_eq_getElem h]
  exact List.set_getElem_self h
theorem zjl {s:zb} (h:zhh s):yq (s,()) = some (s,()):=by
  have hmm:140737488355328 ≤ Go.maxLen:=by unfold Go.maxLen; omega
  have h1:=h.shelves
  have h2:=h.ranks
  have h3:=h.orders
  have h4:=h.entries
  have h5:=h.seats
  have l1:zcH K0 ((s.2.1.length:Int),0,s.1,0,s.2.1,0,s.2.2.1,s.2.2.1.length,s.2.2.2.1,s.2.2.2.2.1,s.2.2.2.2.2.1,[],0,[],0,[],[],[]) = some (s,()) :=
    vB (α:=Unit) (B:=zcG) (len:=s.2.1.length) (by omega) (fun i _=>((s.2.1.length:Int),i,s.1,0,s.2.1,i.toNat,s.2.2.1,s.2.2.1.length,s.2.2.2.1,s.2.2.2.2.1,s.2.2.2.2.2.1,[],0,[],0,[],[],[])) (fun _ _=>some (s,())) (fun _ _=>True) (fun k i _ hi _ hk=>by
      have hx:=h.shelf _ (zV (d:=ze) hi)
      have e1:=hx.rooms
      have e2:=hx.exits
      have e3:=hx.items
      have e4:=hx.mails
      have e5:=hx.trades
      have e6:=hx.purses
      have e7:=hx.places
      have hk':=hk () trivial
      have hw:wI ((i:Int) + 1) = (i:Int) + 1:=zBs hi (by omega)
      simp only [zcG]
      rw [ltT hi,zk hi,zG]
      simp only [Int.toNat_natCast,Nat.le_refl,decide_true,cond_true]
      rw [zJD (by omega),zJE (by omega),zxE (by omega),zJF (by omega),zvh (by omega),zNA (by omega),zLF (by omega)]
      simp only [Option.bind_some]
      rw [zk hi]
      refine Eq.trans ?_ hk'
      have hs:List.set s.2.1 i (s.2.1.getD i ze) = s.2.1:=zKm hi
      have ht:(wI ((i:Int) + 1)).toNat = i + 1:=by rw [hw]; omega
      rw [ht]
      exact congrArg (fun l=>k ((s.2.1.length:Int),wI ((i:Int) + 1),s.1,0,l,i + 1,s.2.2.1,s.2.2.1.length,s.2.2.2.1,s.2.2.2.2.1,s.2.2.2.2.2.1,[],0,[],0,[],[],[])) hs) (fun k _ _=>by
      simp only [zcG]
      rw [ltF]
      simp only [Int.toNat_natCast,decide_true,cond_true,cond_false]) () trivial
  have l0:zku K0 ((s.2.2.1.length:Int),0,s.1,s.2.1,0,s.2.2.1,0,s.2.2.2.1,s.2.2.2.2.1,s.2.2.2.2.2.1,[],0,[],0,[],[],[]) = some (s,()) :=
    vB (α:=Unit) (B:=fun k0=>zat (zcH K0) k0) (len:=s.2.2.1.length) (by omega) (fun i _=>((s.2.2.1.length:Int),i,s.1,s.2.1,0,s.2.2.1,i.toNat,s.2.2.2.1,s.2.2.2.2.1,s.2.2.2.2.2.1,[],0,[],0,[],[],[])) (fun _ _=>some (s,())) (fun _ _=>True) (fun k i _ hi _ hk=>by
      have hx:=h.rank _ (zV (d:=([]:List Int)) hi)
      have hk':=hk () trivial
      have hw:wI ((i:Int) + 1) = (i:Int) + 1:=zBs hi (by omega)
      simp only [zat]
      rw [ltT hi,zk hi]
      simp only [Int.toNat_natCast,Nat.le_refl,decide_true,cond_true]
      rw [zzg (by omega)]
      simp only [Option.bind_some]
      rw [zk hi]
      refine Eq.trans ?_ hk'
      have hs:List.set s.2.2.1 i (s.2.2.1.getD i []) = s.2.2.1:=zKm hi
      have ht:(wI ((i:Int) + 1)).toNat = i + 1:=by rw [hw]; omega
      rw [ht,hs]) (fun k _ _=>by
      simp only [zat]
      rw [ltF,zGW (by omega)]
      simp only [Int.toNat_natCast,Option.bind_some,cond_false]
      exact l1) () trivial
  simp only [yq,zi0]
  rw [zvg (by omega),zGV (by omega),zzg (by omega),zJC (by omega)]
  simp only [Option.bind_some]
  exact l0
end Go.Proofs.YtejbgeokcpillaaGreatDoor
end
section
namespace Go.Proofs.YtejbgeokcpillaaGreatDoor
open Go.Ev
structure At (s:zb) (i w:Int):Prop where
  hi:0 ≤ i ∧ i < (s.2.1.length:Int)
  hw:0 ≤ w ∧ w < (((ix ze s.2.1 i).2.2.2.2.2.1.length:Nat):Int)
theorem zFE {s:zb} {i:Int} (hi:0 ≤ i ∧ i < (s.2.1.length:Int)):ix ze s.2.1 i ∈ s.2.1:=zV (by omega)
theorem zQ2 {r:zf} {s:zb} (h:ql r s = true) {i w:Int} (hi:zaJ r i = true) (hw:jL r w = true):At s i w:=by
  obtain ⟨hb,hz,-⟩:=zaa h
  have sz:=zfj hb hz
  have hsl:=sz.shelves
  simp only [zaJ,jL,decide_eq_true_eq] at hi hw
  have h1:0 ≤ i ∧ i < (s.2.1.length:Int):=by omega
  have h2:=(sz.shelf _ (zFE h1)).2.2.2.2.2.1
  exact ⟨h1,by omega⟩
theorem zQU {r:zf} (hb:qZ r = true) {x:pMe} (hm:qE r x = true):zaJ r x.2.1 = true:=by
  simp only [qZ,zm4,Bool.and_eq_true,decide_eq_true_eq,List.all_eq_true] at hb
  simp only [qE,Bool.and_eq_true,decide_eq_true_eq,beq_iff_eq] at hm
  have:=hb.2.1.2 _ (zV (d:=(0:Int)) (i:=x.1.toNat) (by omega))
  rw [← hm.2.1] at this
  simp only [zaJ,decide_eq_true_eq]
  exact this
theorem zQ3 {r:zf} {s:zb} (h:ql r s = true) {x:pMe} (hm:qE r x = true):At s x.2.1 x.2.2.1:=by
  have hw:jL r x.2.2.1 = true:=by
    simp only [qE,Bool.and_eq_true] at hm; exact hm.2.2
  exact zQ2 h (zQU (zaa h).1 hm) hw
end Go.Proofs.YtejbgeokcpillaaGreatDoor
end
section
namespace Go.Proofs.YtejbgeokcpillaaGreatDoor
open Go.Ev
theorem bnd {α β:Type} {x:Option α} {a:α} {f:α→Option β} (h:x = some a):Option.bind x f = f a:=by rw [h]; rfl
theorem cT {α:Type} {b:Bool} {x y:α} (h:b = true):cond b x y = x:=by rw [h]; rfl
theorem cF {α:Type} {b:Bool} {x y:α} (h:b = false):cond b x y = y:=by rw [h]; rfl
abbrev upd (s:zb) (i:Int) (h:zp):zb:=u1 s (List.set s.2.1 (Int.toNat i) h)
theorem getD_set_ne {α:Type} {l:List α} {i j:Nat} {x d:α} (h:i ≠ j):(List.set l i x).getD j d = l.getD j d:=by
  rw [List.getD_eq_getElem?_getD,List.getElem?_set_ne h,List.getD_eq_getElem?_getD]
theorem zO5 {s:zb} {i:Int} {h:zp} (hl:s.2.1.length ≤ lim) (hi:0 ≤ i ∧ i < (s.2.1.length:Int)):ya (s,i,h,()) = some (upd s i h,()):=by
  simp only [ya]
  refine (cT (decide_eq_true (by simpa using hl))).trans ?_
  exact ixR hi
def zMy (x:zp):Bool:=decide (x.1.length * 24 ≤ 140737488355328) && (decide (x.2.1.length * 48 ≤ 140737488355328) && (decide (x.2.2.1.length * 56 ≤ 140737488355328) && (decide (x.2.2.2.1.length * 48 ≤ 140737488355328) && (decide (x.2.2.2.2.1.length * 72 ≤ 140737488355328) && (decide (x.2.2.2.2.2.1.length * 32 ≤ 140737488355328) && decide (x.2.2.2.2.2.2.1.length * 16 ≤ 140737488355328))))))
def zHF (s:zb):Bool:=decide (s.2.1.length * 232 ≤ 140737488355328) && (decide (s.2.2.1.length * 24 ≤ 140737488355328) && (decide (s.2.2.2.1.length * 80 ≤ 140737488355328) && (decide (s.2.2.2.2.1.length * 80 ≤ 140737488355328) && (decide (s.2.2.2.2.2.1.length * 8 ≤ 140737488355328) && (s.2.1.all zMy && s.2.2.1.all fun l=>decide (l.length * 8 ≤ 140737488355328))))))
theorem zPN {s:zb} (h:zHF s = true):zhh s:=by
  simp only [zHF,Bool.and_eq_true,decide_eq_true_eq,List.all_eq_true] at h
  obtain ⟨h1,h2,h3,h4,h5,h6,h7⟩:=h
  refine ⟨h1,h2,h3,h4,h5,fun x hx=>?_,h7⟩
  have:=h6 x hx
  simp only [zMy,Bool.and_eq_true,decide_eq_true_eq] at this
  obtain ⟨a,b,c,d,e,f,g⟩:=this
  exact ⟨a,b,c,d,e,f,g⟩
noncomputable def zO6 (x:zb × Unit):Option (zb × Unit):=bif zHF x.1 then some x else yq x
theorem zPO:yq = zO6:=by
  funext ⟨s,u⟩
  cases u
  unfold zO6
  cases h:zHF s with
  | true=>exact zjl (zPN h)
  | false=>rfl
theorem zL9 {x:zp} (h:zxN x):zKi x:=by
  have hm:140737488355328 ≤ Go.maxLen:=by unfold Go.maxLen; omega
  obtain ⟨e1,e2,e3,e4,e5,e6,e7⟩:=h
  exact ⟨by omega,by omega,by omega,by omega,by omega,by omega,by omega⟩
theorem zO7 {s:zb} (h:zhh s):zQT s:=by
  have hm:140737488355328 ≤ Go.maxLen:=by unfold Go.maxLen; omega
  obtain ⟨e1,e2,e3,e4,e5,e6,e7⟩:=h
  exact ⟨by omega,by omega,by omega,by omega,by omega,fun x hx=>zL9 (e6 x hx),fun l hl=>by have:=e7 l hl; omega⟩
theorem zPP {s:zb} (h:zhh s) {i:Int} {x:zp} (hx:zxN x):zhh (upd s i x):=by
  refine ⟨by show (List.set _ _ _).length * _ ≤ _; rw [List.length_set]; exact h.shelves,h.ranks,h.orders,h.entries,h.seats,fun y hy=>?_,h.rank⟩
  rcases List.mem_or_eq_of_mem_set hy with hy | rfl
  · exact h.shelf y hy
  · exact hx
theorem zMz {s:zb} (h:zhh s) (i:Int):zxN (ix ze s.2.1 i):=by
  by_cases hi:i.toNat < s.2.1.length
  · exact h.shelf _ (zV hi)
  · have e:ix ze s.2.1 i = ze:=by
      show List.getD _ _ _ = _
      rw [List.getD_eq_getElem?_getD,List.getElem?_eq_none (by omega)]; rfl
    rw [e]
    exact ⟨Nat.zero_le _,Nat.zero_le _,Nat.zero_le _,Nat.zero_le _,Nat.zero_le _,Nat.zero_le _,Nat.zero_le _⟩
theorem zAJ:zhh (0,[],[],[],[],[],()):=⟨Nat.zero_le _,Nat.zero_le _,Nat.zero_le _,Nat.zero_le _,Nat.zero_le _,fun x hx=>(by cases hx),fun x hx=>(by cases hx)⟩
theorem wf_u64 {x:Int} (h:(Lit.int .u64 x).wf = true):zgP x:=by
  unfold Lit.wf at h
  simp only [Bool.and_eq_true,decide_eq_true_eq] at h
  have e1:IntKind.min .u64 = 0:=by decide
  have e2:IntKind.max .u64 = 18446744073709551615:=by decide
  rw [e1,e2] at h
  exact ⟨h.1,Int.lt_of_le_of_lt h.2 (by decide)⟩
theorem realmIn {r:zf} (h:InR zw r):z9 r:=by
  obtain ⟨hl,h2⟩:=h
  refine ⟨fun a ha=>?_,h2.2.2.1.1,h2.2.2.2.1.1⟩
  have h3:(Lit.int .u64 a.2.1).wf = true:=(hl.2 a ha).2.1
  exact wf_u64 h3
theorem zKn {a:List Int} (h:InR (.arr 4 tU) a):zt2 a:=fun x hx=>wf_u64 (h.2 x hx)
theorem zMA {x:zj7} (h:InR zd3 x):zgP x.2.1:=wf_u64 (show (Lit.int .u64 x.2.1).wf = true from h.2.1)
theorem zQn {x:zp} (h:InR zy x):zte x:=by
  obtain ⟨-,-,-,-,h5,h6,-,h8,h9,-⟩:=h
  refine ⟨fun t ht=>?_,fun a ha=>zKn (h6.2 a ha),zKn h8,zKn h9⟩
  obtain ⟨-,-,-,g1,g2,-⟩:=h5.2 t ht
  exact ⟨zMA g1,zMA g2⟩
theorem zQo {x:zu} (h:InR zr x):zh0 x:=by
  obtain ⟨-,-,-,-,-,-,h7,h8,h9,-⟩:=h
  exact ⟨wf_u64 h7,wf_u64 h8,wf_u64 h9⟩
theorem zQp {x:zJ} (h:InR zA x):zom x:=by
  obtain ⟨-,-,-,-,-,-,-,h8,h9,-⟩:=h
  exact ⟨wf_u64 h8,wf_u64 h9⟩
theorem stateIn {s:zb} (h:InR zo s):qJ s:=by
  obtain ⟨-,h2,-,h4,h5,-⟩:=h
  exact ⟨fun x hx=>zQn (h2.2 x hx),fun x hx=>zQo (h4.2 x hx),fun x hx=>zQp (h5.2 x hx)⟩
def zKo:zb:=(0,[],[],[],[],[],())
theorem zls {n:Nat} (h:n ≤ 2000000):n ≤ lim:=by unfold lim; omega
theorem zhi {n:Nat} (h:n ≤ 2000000):n ≤ Go.maxLen:=by unfold Go.maxLen; omega
theorem zMB {r:zf} {s:zb} (h:ql r s = true):zhh s:=by
  obtain ⟨hb,hz,hp⟩:=zaa h
  have ok:=vN hb
  have sz:=zfj hb hz
  have h1:=ok.labels
  have h2:=ok.lines
  have h3:=ok.accounts
  have h4:=sz.shelves
  have h5:=sz.orders
  have h6:=sz.entries
  have h7:=sz.people
  have h8:=ok.guilds
  have hh:ziI r s.2.2.1 = true:=by simp only [zgm,Bool.and_eq_true] at hp; exact hp.1
  have hr:=zPM hh
  refine ⟨by omega,by omega,by omega,by omega,by omega,fun x hx=>?_,fun l hl=>?_⟩
  · have:=sz.shelf x hx
    exact ⟨by omega,by omega,by omega,by omega,by omega,by omega,by omega⟩
  · obtain ⟨i,hi,rfl⟩:=List.mem_iff_getElem.1 hl
    have:=hr.2 i (by omega)
    rw [List.getD_eq_getElem?_getD,List.getElem?_eq_getElem hi] at this
    have this:(s.2.2.1[i]).length = _:=this
    omega
end Go.Proofs.YtejbgeokcpillaaGreatDoor
end
section
namespace Go.Proofs.YtejbgeokcpillaaGreatDoor
open Go.Ev
abbrev zE0 (l:List zh):Option zcr:=some (l,some qT,())
theorem zmG {l:List zh} (hl:l.length ≤ lim):zdV (l,()) = some (zE0 l,()):=by
  simp only [zdV,zky]
  rw [zxF hl]; rfl
theorem zMC (x:zh):qT (x,()) = some (x.1,()):=(zF x.1).symm
theorem zrP (l:List zh):zcy (zE0 l,()) = some (true,()):=rfl
def zlt (l:List zh) (i:Int):Bool:=decide (0 ≤ i ∧ i < (l.length:Int)) && (ix zj l i).1
theorem zMD {l:List zh} {i:Int} (h:zlt l i = true):0 ≤ i ∧ i < (l.length:Int):=by
  simp only [zlt,Bool.and_eq_true,decide_eq_true_eq] at h; exact h.1
theorem zNW (l:List zh) (i:Int):zhC (zE0 l,i,()) = some (zlt l i,()):=by
  rw [zF]
  simp only [zhC]
  refine (bnd (zrP l)).trans ?_
  refine (cT rfl).trans ?_
  unfold zlt
  by_cases h:0 ≤ i ∧ i < (l.length:Int)
  · rw [decide_eq_true h,Bool.true_and]
    refine (cT (decide_eq_true (show i ≥ 0 from h.1))).trans ?_
    refine (bnd (a:=(l,some qT,())) rfl).trans ?_
    refine (cT (decide_eq_true (show i < (l.length:Int) from h.2))).trans ?_
    refine (bnd (a:=(l,some qT,())) rfl).trans ?_
    refine (bnd (a:=(l,some qT,())) rfl).trans ?_
    refine (ixR h).trans ?_
    refine (bnd (a:=qT) rfl).trans ?_
    refine (bnd (zMC _)).trans ?_
    cases (ix zj l i).1 <;> rfl
  · rw [decide_eq_false h,Bool.false_and]
    by_cases h0:i ≥ 0
    · refine (cT (decide_eq_true h0)).trans ?_
      refine (bnd (a:=(l,some qT,())) rfl).trans ?_
      exact cF (decide_eq_false (show ¬ i < (l.length:Int) by omega))
    · exact cF (decide_eq_false h0)
theorem zt8 {l:List zh} (hl:l.length ≤ lim) {i:Int} (hi:0 ≤ i ∧ i < (l.length:Int)) (x:zh):zba (zE0 l,i,x,()) = some (List.set l i.toNat x,0,()):=by
  simp only [zba]
  refine (bnd (zrP l)).trans ?_
  refine (cT rfl).trans ?_
  refine (cF (decide_eq_false (by omega))).trans ?_
  refine (bnd (a:=(l,some qT,())) rfl).trans ?_
  refine (cF (decide_eq_false (show ¬ i ≥ (l.length:Int) by omega))).trans ?_
  refine (bnd (a:=(l,some qT,())) rfl).trans ?_
  refine (bnd (zxF hl)).trans ?_
  exact ixR hi
def zfU (l:List zh):Int:=je (fun x=>!x.1) l 0
theorem zME {α:Type} {p:α→Bool}:∀ (l:List α) (i:Int),0 ≤ i→je p l i = -1 ∨ (i ≤ je p l i ∧ je p l i < i + l.length)
  | [],_,_=>.inl rfl
  | x :: l,i,h=>by
    simp only [je]
    cases p x with
    | true=>right; simp only [cond_true,List.length_cons]; omega
    | false =>
      simp only [cond_false,List.length_cons]
      rcases zME (p:=p) l (i + 1) (by omega) with e | e
      · exact .inl e
      · right; omega
theorem zKp {l:List zh} (hl:l.length ≤ Go.maxLen):zfG (zE0 l,()) = some (bif decide (zfU l < 0) then (0,8,()) else (zfU l,0,())):=by
  simp only [zfG]
  refine (bnd (zrP l)).trans ?_
  refine (cT rfl).trans ?_
  refine (bnd (a:=(l,some qT,())) rfl).trans ?_
  refine (bnd (zpA (p:=fun x=>!x.1) hl fun x _=>?_)).trans ?_
  · show Option.bind (qT (x,())) (fun q3=>bif q3.1 then some (false,()) else some (true,())) = some (!x.1,())
    refine (bnd (zMC x)).trans ?_
    cases x.1 <;> rfl
  · show (bif decide (zfU l < 0) then some (0,8,()) else some (zfU l,0,())) = _
    cases decide (zfU l < 0) <;> rfl
def zE1 (l:List zh) (x:zh):List zh × Int × Int × Unit:=bif decide (zfU l < 0) then ([],0,8,()) else (List.set l (zfU l).toNat x,zfU l,0,())
theorem zQq {l:List zh} (h:¬ zfU l < 0):0 ≤ zfU l ∧ zfU l < (l.length:Int):=by
  have hr:=zME (p:=fun x:zh=>!x.1) l 0 (Int.le_refl 0)
  unfold zfU at h ⊢
  omega
theorem zNX {l:List zh} (hl:l.length ≤ 2000000) (x:zh):zhK (zE0 l,x,()) = some (zE1 l x):=by
  simp only [zhK]
  refine (bnd (zKp (zhi hl))).trans ?_
  unfold zE1
  by_cases h:zfU l < 0
  · rw [decide_eq_true h]; rfl
  · rw [decide_eq_false h]
    refine (cF rfl).trans ?_
    exact bnd (zt8 (zls hl) (zQq h) x)
def toV (x:zh) (h:qS):zh:=(x.1,x.2.1,h.1,h.2.1,h.2.2.1,())
abbrev ofV (x:zh):qS:=(x.2.2.1,x.2.2.2.1,x.2.2.2.2.1,())
abbrev inH (who:Int):qS:=(1,who,(0,0,()),())
abbrev y5 (r:qy):qS:=(2,0,r,())
def hOk (h:qS):Bool:=zfS h.1 h.2.1 h.2.2.1
theorem zhj (who:Int):hOk (inH who) = qn who:=by
  show ((true && (qn who && true)) || (false && ((who:Int) == 0 && zec (0,0,())))) = qn who
  cases qn who <;> rfl
theorem zKq (r:qy):hOk (y5 r) = zec r:=by
  show ((false && (qn 0 && eqI zv r (zd zv))) || (true && (true && zec r))) = zec r
  cases zec r <;> rfl
theorem zDc (x:zh):zhv (x,()) = some (ofV x,()):=rfl
theorem zDd (x:zh) (h:qS):zn7 (x,h,()) = some (toV x h,()):=rfl
theorem zjG (w:Int):j4 (w,()) = some (inH w,()):=rfl
theorem zAK (r:qy):zer (r,()) = some (y5 r,()):=rfl
def jM (l:List zh) (i:Int) (f g:qS):List zh × Int × Unit:=bif l.all qb then bif hOk f then bif hOk g then bif zlt l i then bif eqI qm (ofV (ix zj l i)) f then (List.set l i.toNat (toV (ix zj l i) g),0,()) else ([],3,()) else ([],3,()) else ([],1,()) else ([],1,()) else ([],1,())
theorem zlu {l:List zh} (hl:l.length ≤ 2000000) (i:Int) (f g:qS):zbM (l,i,f,g,()) = some (jM l i f g):=by
  simp only [zbM]
  refine (bnd (znI (zhi hl))).trans ?_
  unfold jM
  cases l.all qb with
  | false=>rfl
  | true =>
    refine (cT rfl).trans ?_
    refine (bnd (zlo f)).trans ?_
    show cond (hOk f) _ _ = _
    cases hOk f with
    | false=>rfl
    | true =>
      refine (cT rfl).trans ?_
      refine (bnd (zlo g)).trans ?_
      show cond (hOk g) _ _ = _
      cases hOk g with
      | false=>rfl
      | true =>
        refine (cT rfl).trans ?_
        refine (bnd (zmG (zls hl))).trans ?_
        refine (bnd (zNW l i)).trans ?_
        cases h:zlt l i with
        | false=>rfl
        | true =>
          have hi:=zMD h
          refine (cT rfl).trans ?_
          refine (ixR hi).trans ?_
          refine (bnd (zDc _)).trans ?_
          show cond (!eqI qm (ofV (ix zj l i)) f) _ _ = _
          cases eqI qm (ofV (ix zj l i)) f with
          | false=>rfl
          | true =>
            refine (cF rfl).trans ?_
            refine (bnd (zmG (zls hl))).trans ?_
            refine (ixR hi).trans ?_
            refine (bnd (zDd _ _)).trans ?_
            exact bnd (zt8 (zls hl) hi _)
def zm8 (l:List zh) (i w:Int):List zh × Int × Unit:=bif (jM l i (inH w) (inH w)).2.1 != 0 then ([],(jM l i (inH w) (inH w)).2.1,()) else (List.set l i.toNat (zd zi),0,())
theorem zQr {l:List zh} {i:Int} {f g:qS} (h:((jM l i f g).2.1 != 0) = false):l.all qb = true ∧ hOk f = true ∧ hOk g = true ∧ zlt l i = true ∧ eqI qm (ofV (ix zj l i)) f = true ∧ jM l i f g = (List.set l i.toNat (toV (ix zj l i) g),0,()):=by
  unfold jM at h ⊢
  cases h1:l.all qb with
  | false=>rw [h1] at h; cases h
  | true =>
    cases h2:hOk f with
    | false=>rw [h1,h2] at h; cases h
    | true =>
      cases h3:hOk g with
      | false=>rw [h1,h2,h3] at h; cases h
      | true =>
        cases h4:zlt l i with
        | false=>rw [h1,h2,h3,h4] at h; cases h
        | true =>
          cases h5:eqI qm (ofV (ix zj l i)) f with
          | false=>rw [h1,h2,h3,h4,h5] at h; cases h
          | true=>exact ⟨rfl,rfl,rfl,rfl,rfl,rfl⟩
theorem zHr {l:List zh} (hl:l.length ≤ 2000000) (i w:Int):zje (l,i,w,()) = some (zm8 l i w):=by
  simp only [zje]
  refine (bnd (zjG w)).trans ?_
  refine (bnd (zjG w)).trans ?_
  refine (bnd (zlu hl i _ _)).trans ?_
  unfold zm8
  cases h:(jM l i (inH w) (inH w)).2.1 != 0 with
  | true=>exact cT rfl
  | false =>
    refine (cF rfl).trans ?_
    refine (bnd (zmG (zls hl))).trans ?_
    exact bnd (zt8 (zls hl) (zMD (zQr h).2.2.2.1) _)
theorem zKr {l:List zh} (hl:l.length ≤ 2000000) (i w:Int) (r:qy):zld (l,i,w,r,()) = some (jM l i (inH w) (y5 r)):=by
  simp only [zld]
  refine (bnd (zjG w)).trans ?_
  refine (bnd (zAK r)).trans ?_
  exact bnd (zlu hl i _ _)
theorem zKs {l:List zh} (hl:l.length ≤ 2000000) (i w:Int) (r:qy):zle (l,i,w,r,()) = some (jM l i (y5 r) (inH w)):=by
  simp only [zle]
  refine (bnd (zAK r)).trans ?_
  refine (bnd (zjG w)).trans ?_
  exact bnd (zlu hl i _ _)
theorem zKt {l:List zh} (hl:l.length ≤ 2000000) (i w v:Int):zlf (l,i,w,v,()) = some (jM l i (inH w) (inH v)):=by
  simp only [zlf]
  refine (bnd (zjG w)).trans ?_
  refine (bnd (zjG v)).trans ?_
  exact bnd (zlu hl i _ _)
def zPQ (s:ByteArray) (w:Int):zh:=(true,s,1,w,(0,0,()),())
def za0 (l:List zh) (s:ByteArray) (w:Int):List zh × Int × Int × Unit:=bif l.all qb then bif qn w then bif zeb s then zE1 l (zPQ s w) else ([],0,2,()) else ([],0,1,()) else ([],0,1,())
theorem zKu {l:List zh} (hl:l.length ≤ 2000000) (s:ByteArray) (w:Int):zk7 (l,s,w,()) = some (za0 l s w):=by
  simp only [zk7]
  refine (bnd (znI (zhi hl))).trans ?_
  unfold za0
  cases l.all qb with
  | false=>rfl
  | true =>
    refine (cT rfl).trans ?_
    refine (bnd (zlo (inH w))).trans ?_
    show cond (hOk (inH w)) _ _ = _
    rw [zhj]
    cases qn w with
    | false=>rfl
    | true =>
      refine (cT rfl).trans ?_
      refine (bnd (zlk s)).trans ?_
      cases zeb s with
      | false=>rfl
      | true =>
        refine (cT rfl).trans ?_
        refine (bnd (zmG (zls hl))).trans ?_
        refine (bnd (zDd _ _)).trans ?_
        exact bnd (zNX hl _)
end Go.Proofs.YtejbgeokcpillaaGreatDoor
end
section
namespace Go.Proofs.YtejbgeokcpillaaGreatDoor
open Go.Ev
theorem zm9 (l:List zh) (i:Int) (f g:qS):jM l i f g = bif l.all qb then bif hOk f then bif hOk g then bif zlt l i && eqI qm (ofV (ix zj l i)) f then (List.set l i.toNat (toV (ix zj l i) g),0,()) else ([],3,()) else ([],1,()) else ([],1,()) else ([],1,()):=by
  unfold jM
  cases zlt l i <;> rfl
theorem zt9 (a b:qS):eqI qm a b = ((a.1:Int) == b.1 && ((a.2.1:Int) == b.2.1 && eqI zv a.2.2.1 b.2.2.1)):=by
  show cond ((a.1:Int) == b.1) (cond ((a.2.1:Int) == b.2.1) (cond (eqI zv a.2.2.1 b.2.2.1) true false) false) false = _
  cases ((a.1:Int) == b.1) <;> cases ((a.2.1:Int) == b.2.1) <;> cases eqI zv a.2.2.1 b.2.2.1 <;> rfl
theorem zO8 {x:zh} (h:qb x = true) (hu:x.1 = true) (hk:(x.2.2.1:Int) = 1):eqI zv x.2.2.2.2.1 (0,0,()) = true:=by
  unfold qb at h
  rw [hu,cond_true] at h
  simp only [zfS,Bool.and_eq_true,Bool.or_eq_true] at h
  rcases h.2 with h2 | h2
  · exact h2.2.2
  · have:(x.2.2.1:Int) = 2:=by simpa using h2.1
    omega
theorem zO9 {x:zh} (h:qb x = true) (hu:x.1 = true) (hk:(x.2.2.1:Int) = 2):(x.2.2.2.1:Int) = 0:=by
  unfold qb at h
  rw [hu,cond_true] at h
  simp only [zfS,Bool.and_eq_true,Bool.or_eq_true] at h
  rcases h.2 with h2 | h2
  · rcases h2.1 with h3 | h3
    · have:(x.2.2.1:Int) = 1:=by simpa using h3
      omega
    · have:(x.2.2.1:Int) = 3:=by simpa using h3
      omega
  · have:=h2.2.1; simpa using this
theorem zQs {x:zh} (h:qb x = true) (hu:x.1 = true) (w:Int):eqI qm (ofV x) (inH w) = ((x.2.2.1:Int) == 1 && (x.2.2.2.1:Int) == w):=by
  rw [zt9]
  show ((x.2.2.1:Int) == 1 && ((x.2.2.2.1:Int) == w && eqI zv x.2.2.2.2.1 (0,0,()))) = _
  by_cases hk:(x.2.2.1:Int) = 1
  · rw [zO8 h hu hk,Bool.and_true]
  · rw [beq_eq_false_iff_ne.2 hk]; rfl
theorem zMF {x:zh} (h:qb x = true) (hu:x.1 = true) (r:qy):eqI qm (ofV x) (y5 r) = ((x.2.2.1:Int) == 2 && eqI zv x.2.2.2.2.1 r):=by
  rw [zt9]
  show ((x.2.2.1:Int) == 2 && ((x.2.2.2.1:Int) == 0 && eqI zv x.2.2.2.2.1 r)) = _
  by_cases hk:(x.2.2.1:Int) = 2
  · rw [zO9 h hu hk]; rfl
  · rw [beq_eq_false_iff_ne.2 hk]; rfl
theorem zMG {l:List zh} (h:l.all qb = true) {i:Int} (hi:0 ≤ i ∧ i < (l.length:Int)):qb (ix zj l i) = true:=List.all_eq_true.1 h _ (zV (by omega))
def yl (l:List zh) (i w:Int):Bool:=decide (0 ≤ i ∧ i < (l.length:Int)) && ((ix zj l i).1 && (((ix zj l i).2.2.1:Int) == 1 && ((ix zj l i).2.2.2.1:Int) == w))
theorem zx8 {l:List zh} (h:l.all qb = true) (i w:Int):(zlt l i && eqI qm (ofV (ix zj l i)) (inH w)) = yl l i w:=by
  unfold zlt yl
  by_cases hi:0 ≤ i ∧ i < (l.length:Int)
  · rw [decide_eq_true hi,Bool.true_and,Bool.true_and]
    cases hu:(ix zj l i).1 with
    | false=>rfl
    | true=>rw [zQs (zMG h hi) hu]
  · rw [decide_eq_false hi]; rfl
theorem zff (l:List zh) (i w:Int):vI (l,i,w,()) = some (yl l i w,()):=by
  rw [zF]
  simp only [vI]
  unfold yl
  by_cases h:0 ≤ i ∧ i < (l.length:Int)
  · rw [decide_eq_true h,Bool.true_and]
    refine (cT (decide_eq_true (show i ≥ 0 from h.1))).trans ?_
    refine (cT (decide_eq_true (show i < (l.length:Int) from h.2))).trans ?_
    refine (ixR h).trans ?_
    cases (ix zj l i).1 with
    | false=>rfl
    | true =>
      refine (cT rfl).trans ?_
      refine (ixR h).trans ?_
      cases ((ix zj l i).2.2.1:Int) == 1 with
      | false=>rfl
      | true =>
        refine (cT rfl).trans ?_
        refine (ixR h).trans ?_
        cases ((ix zj l i).2.2.2.1:Int) == w <;> rfl
  · rw [decide_eq_false h,Bool.false_and]
    by_cases h0:i ≥ 0
    · refine (cT (decide_eq_true h0)).trans ?_
      exact cF (decide_eq_false (show ¬ i < (l.length:Int) by omega))
    · exact cF (decide_eq_false h0)
theorem zE2 {l:List zh} {i w:Int} (h:yl l i w = true):(0 ≤ i ∧ i < (l.length:Int)) ∧ (ix zj l i).1 = true:=by
  simp only [yl,Bool.and_eq_true,decide_eq_true_eq] at h
  exact ⟨h.1,h.2.1⟩
theorem ziJ {l:List zh} (hl:l.length ≤ 2000000) {i:Int} (hi:0 ≤ i ∧ i < (l.length:Int)) (x:zh):za5 (l,i,x,()) = some (List.set l i.toNat x,()):=by
  have:=zls hl
  simp only [za5]
  refine (cT (decide_eq_true (by simpa using this))).trans ?_
  show inR i (l.length:Int) (some (List.set l i.toNat x,())) = _
  exact ixR hi
theorem zKv {l:List zh} (hl:l.length ≤ 2000000) (i w:Int) (r:qy):zkQ (l,i,w,r,()) = some (jM l i (inH w) (y5 r)):=by
  simp only [zkQ]
  refine (bnd (zcg (zhi hl))).trans ?_
  rw [zm9,zhj,zKq]
  cases ha:l.all qb with
  | false=>rfl
  | true =>
    refine (cT rfl).trans ?_
    refine (bnd (zdW w)).trans ?_
    cases qn w with
    | false=>rfl
    | true =>
      refine (cT rfl).trans ?_
      refine (bnd (zji r)).trans ?_
      cases zec r with
      | false=>rfl
      | true =>
        refine (cT rfl).trans ?_
        refine (bnd (zff l i w)).trans ?_
        rw [zx8 ha]
        cases h:yl l i w with
        | false=>rfl
        | true =>
          obtain ⟨hi,hu⟩:=zE2 h
          refine (cT rfl).trans ?_
          refine (ixR hi).trans ?_
          refine (bnd (ziJ hl hi _)).trans ?_
          show _ = some (List.set l i.toNat (toV (ix zj l i) (y5 r)),0,())
          unfold toV
          rw [hu]; rfl
theorem zKw {l:List zh} (hl:l.length ≤ 2000000) (i w v:Int):zkS (l,i,w,1,v,()) = some (jM l i (inH w) (inH v)):=by
  simp only [zkS]
  refine (bnd (zcg (zhi hl))).trans ?_
  rw [zm9,zhj,zhj]
  cases ha:l.all qb with
  | false=>rfl
  | true =>
    refine (cT rfl).trans ?_
    refine (bnd (zdW w)).trans ?_
    cases qn w with
    | false=>rfl
    | true =>
      refine (cT rfl).trans ?_
      refine (bnd (zdW v)).trans ?_
      cases qn v with
      | false=>rfl
      | true =>
        refine (cT rfl).trans ?_
        refine (bnd (zff l i w)).trans ?_
        rw [zx8 ha]
        cases h:yl l i w with
        | false=>rfl
        | true =>
          obtain ⟨hi,hu⟩:=zE2 h
          refine (cT rfl).trans ?_
          refine (ixR hi).trans ?_
          refine (bnd (ziJ hl hi _)).trans ?_
          show _ = some (List.set l i.toNat (toV (ix zj l i) (inH v)),0,())
          unfold toV
          rw [hu]; rfl
theorem zHs {l:List zh} (hl:l.length ≤ 2000000) (i w:Int):zi4 (l,i,w,()) = some (zm8 l i w):=by
  simp only [zi4]
  refine (bnd (zcg (zhi hl))).trans ?_
  unfold zm8
  rw [zm9,zhj]
  cases ha:l.all qb with
  | false=>rfl
  | true =>
    refine (cT rfl).trans ?_
    refine (bnd (zdW w)).trans ?_
    cases qn w with
    | false=>rfl
    | true =>
      refine (cT rfl).trans ?_
      refine (bnd (zff l i w)).trans ?_
      rw [zx8 ha]
      cases h:yl l i w with
      | false=>rfl
      | true =>
        obtain ⟨hi,hu⟩:=zE2 h
        refine (cT rfl).trans ?_
        exact bnd (ziJ hl hi _)
theorem zKx {l:List zh} (hl:l.length ≤ 2000000) (i w:Int) (r:qy):zkR (l,i,w,r,()) = some (jM l i (y5 r) (inH w)):=by
  simp only [zkR]
  refine (bnd (zcg (zhi hl))).trans ?_
  rw [zm9,zhj,zKq]
  cases ha:l.all qb with
  | false=>rfl
  | true =>
    refine (cT rfl).trans ?_
    refine (bnd (zdW w)).trans ?_
    cases qn w with
    | false=>cases zec r <;> rfl
    | true =>
      refine (cT rfl).trans ?_
      refine (bnd (zji r)).trans ?_
      cases zec r with
      | false=>rfl
      | true =>
        refine (cT rfl).trans ?_
        unfold zlt
        by_cases hi:0 ≤ i ∧ i < (l.length:Int)
        · rw [decide_eq_true hi]
          refine (cF (decide_eq_false (by omega))).trans ?_
          refine (cF (decide_eq_false (show ¬ i ≥ (l.length:Int) by omega))).trans ?_
          refine (ixR hi).trans ?_
          cases hu:(ix zj l i).1 with
          | false=>rfl
          | true =>
            refine (cT rfl).trans ?_
            refine (ixR hi).trans ?_
            rw [zMF (zMG ha hi) hu]
            by_cases hk:((ix zj l i).2.2.1:Int) = 2
            · rw [beq_iff_eq.2 hk]
              refine (cF (show (((ix zj l i).2.2.1:Int) != 2) = false by rw [hk]; rfl)).trans ?_
              refine (ixR hi).trans ?_
              cases eqI zv (ix zj l i).2.2.2.2.1 r with
              | false=>rfl
              | true =>
                refine (cF rfl).trans ?_
                refine (ixR hi).trans ?_
                refine (bnd (ziJ hl hi _)).trans ?_
                show _ = some (List.set l i.toNat (toV (ix zj l i) (inH w)),0,())
                unfold toV
                rw [hu]; rfl
            · rw [beq_eq_false_iff_ne.2 hk]
              exact cT (show (((ix zj l i).2.2.1:Int) != 2) = true from bne_iff_ne.2 hk)
        · rw [decide_eq_false hi]
          by_cases h0:i < 0
          · exact cT (decide_eq_true h0)
          · refine (cF (decide_eq_false h0)).trans ?_
            exact cT (decide_eq_true (show i ≥ (l.length:Int) by omega))
theorem zKy {l:List zh} (hl:l.length ≤ 2000000) (s:ByteArray) (w:Int):zkP (l,s,w,()) = some (za0 l s w):=by
  simp only [zkP,zkO]
  refine (bnd (zcg (zhi hl))).trans ?_
  unfold za0
  cases l.all qb with
  | false=>rfl
  | true =>
    refine (cT rfl).trans ?_
    refine (bnd (zdW w)).trans ?_
    cases qn w with
    | false=>rfl
    | true =>
      refine (cT rfl).trans ?_
      refine (bnd (zjh s)).trans ?_
      cases zeb s with
      | false=>rfl
      | true =>
        refine (cT rfl).trans ?_
        show _ = some (zE1 l (zPQ s w))
        have:=vB (α:=Unit) (B:=zeX) (zhi hl) (fun i _=>(l,s,w,i)) (fun i _=>some (bif decide (je (fun x:zh=>!x.1) (l.drop i) (i:Int) < 0) then ([],0,8,()) else (List.set l (je (fun x:zh=>!x.1) (l.drop i) (i:Int)).toNat (zPQ s w),je (fun x:zh=>!x.1) (l.drop i) (i:Int),0,()))) (fun _ _=>True) (fun k i _ hi _ hk=>by
          have hk':=hk () trivial
          have e:((i + 1:Nat):Int) = (i:Int) + 1:=by omega
          rw [e] at hk'
          simp only [zeX]
          rw [ltT hi,zk hi,zG,jB zj hi]
          simp only [cond_true,je]
          by_cases h:(l.getD i zj).1 = true
          · simp only [h,cond_true,Bool.not_true,cond_false]
            exact hk'
          · simp only [Bool.not_eq_true] at h
            simp only [h,cond_false,Bool.not_false,cond_true]
            refine (bnd (ziJ hl (i:=(i:Int)) ⟨by omega,by omega⟩ _)).trans ?_
            rw [decide_eq_false (by omega)]
            rfl) (fun k _ _=>by
          simp only [zeX]
          rw [ltF,List.drop_of_length_le (Nat.le_refl _)]
          rfl) () trivial
        exact this
end Go.Proofs.YtejbgeokcpillaaGreatDoor
end
section
namespace Go.Proofs.YtejbgeokcpillaaGreatDoor
open Go.Ev
abbrev qa (s:zb) (me:pMe):List zh:=(ix ze s.2.1 me.2.1).2.2.1
abbrev zjY (s:zb) (i w:Int):qy:=List.getD (ix ze s.2.1 i).2.2.2.2.2.2.1 (Int.toNat w) (zd zv)
abbrev qo (s:zb) (me:pMe):qy:=zjY s me.2.1 me.2.2.1
structure Ctx (r:zf) (s:zb) (me:pMe):Prop where
  rs:ql r s = true
  im:qE r me = true
theorem Ctx.hi {r:zf} {s:zb} {me:pMe} (x:Ctx r s me):0 ≤ me.2.1 ∧ me.2.1 < (s.2.1.length:Int):=(zQ3 x.rs x.im).hi
theorem Ctx.shelf {r:zf} {s:zb} {me:pMe} (x:Ctx r s me):(ix ze s.2.1 me.2.1).2.2.1.length ≤ 12 ∧ (ix ze s.2.1 me.2.1).2.2.2.2.2.2.1.length = r.2.2.1.length:=by
  obtain ⟨hb,hz,-⟩:=zaa x.rs
  have h:=(zfj hb hz).shelf _ (zFE x.hi)
  exact ⟨h.2.2.1,h.2.2.2.2.2.2⟩
theorem Ctx.small {r:zf} {s:zb} {me:pMe} (x:Ctx r s me):(qa s me).length ≤ 2000000:=Nat.le_trans x.shelf.1 (by omega)
theorem Ctx.who {r:zf} {s:zb} {me:pMe} (x:Ctx r s me):jL r me.2.2.1 = true:=by
  have:=x.im
  simp only [qE,Bool.and_eq_true] at this; exact this.2.2
theorem Ctx.place {r:zf} {s:zb} {me:pMe} (x:Ctx r s me) {w:Int} (hw:jL r w = true):0 ≤ w ∧ w < ((ix ze s.2.1 me.2.1).2.2.2.2.2.2.1.length:Int):=by
  simp only [jL,decide_eq_true_eq] at hw
  rw [x.shelf.2]; exact hw
theorem Ctx.slots {r:zf} {s:zb} {me:pMe} (x:Ctx r s me):(qa s me).all qb = true:=by
  have h:=x.rs
  have hi:=x.hi
  simp only [ql,Bool.and_eq_true,qL] at h
  have:=(h.2.2.2.1 me.2.1.toNat (Nat.zero_le _) (by omega)).1.1
  simp only [jb,Bool.and_eq_true] at this
  exact this.2.2.1
theorem zMH {r:zf} (hb:qZ r = true) {w:Int} (hw:jL r w = true):qn w = true:=by
  have:=(vN hb).accounts
  simp only [jL,qn,decide_eq_true_eq] at hw ⊢
  omega
theorem znL {r:zf} {s:zb} {me:pMe} (x:Ctx r s me):zca (s,me,()) = some (qa s me,()):=by
  simp only [zca]
  exact ixR x.hi
theorem zge {r:zf} {s:zb} {me:pMe} (x:Ctx r s me) {y:pMe} (hy:y.2.1 = me.2.1) (hw:jL r y.2.2.1 = true):yo (s,y,()) = some (zjY s me.2.1 y.2.2.1,()):=by
  simp only [yo]
  rw [hy]
  refine (ixR x.hi).trans ?_
  exact ixR (x.place hw)
theorem zpO {r:zf} {s:zb} {me:pMe} (x:Ctx r s me):zes (s,me,()) = some (qo s me,()):=by
  simp only [zes]
  refine (ixR x.hi).trans ?_
  exact ixR (x.place x.who)
def zE3 (e:Int):zb × Int × Unit:=(zKo,e,())
def zfV (s:zb) (me:pMe) (v:List zh × Int × Unit):zb × Int × Unit:=bif v.2.1 != 0 then zE3 v.2.1 else (upd s me.2.1 (u2 (ix ze s.2.1 me.2.1) v.1),0,())
theorem zDe {r:zf} {s:zb} {me:pMe} {g:List zh × Unit→Option (List zh × Int × Unit)} {v:List zh × Int × Unit} (hr:z9 r) (hs:qJ s) (hg:Ctx r s me→g (qa s me,()) = some v):zan (r,s,me,some g,()) = some (bif ql r s && qE r me then zfV s me v else zE3 1):=by
  simp only [zan]
  refine (bnd (zhg hr hs me)).trans ?_
  cases h:ql r s && qE r me with
  | false=>rfl
  | true =>
    simp only [Bool.and_eq_true] at h
    have x:Ctx r s me:=⟨h.1,h.2⟩
    refine (cT rfl).trans ?_
    refine (bnd (znL x)).trans ?_
    refine (bnd (a:=g) rfl).trans ?_
    refine (bnd (hg x)).trans ?_
    show _ = some (zfV s me v)
    unfold zfV
    cases he:v.2.1 != 0 with
    | true=>exact cT rfl
    | false =>
      refine (cF rfl).trans ?_
      refine (bnd (zjl (zMB x.rs))).trans ?_
      exact ixR x.hi
theorem zHt {r:zf} {s:zb} {me:pMe} (hr:z9 r) (hs:qJ s) (i:Int):zce (r,s,me,i,()) = some (bif ql r s && qE r me then zfV s me (zm8 (qa s me) i me.2.2.1) else zE3 1):=by
  simp only [zce]
  refine (bnd (zDe (v:=zm8 (qa s me) i me.2.2.1) hr hs fun x=>?_)).trans rfl
  simp only [zlg]
  refine (bnd (a:=i) rfl).trans ?_
  refine (bnd (a:=me) rfl).trans ?_
  exact bnd (zHr x.small i me.2.2.1)
theorem zKz {r:zf} {s:zb} {me:pMe} (hr:z9 r) (hs:qJ s) (i:Int):zfc (r,s,me,i,()) = some (bif ql r s && qE r me then zfV s me (jM (qa s me) i (inH me.2.2.1) (y5 (qo s me))) else zE3 1):=by
  simp only [zfc]
  refine (bnd (zDe (v:=jM (qa s me) i (inH me.2.2.1) (y5 (qo s me))) hr hs fun x=>?_)).trans rfl
  simp only [zl7]
  refine (bnd (a:=i) rfl).trans ?_
  refine (bnd (a:=me) rfl).trans ?_
  refine (bnd (a:=s) rfl).trans ?_
  refine (bnd (a:=me) rfl).trans ?_
  refine (bnd (zge x rfl x.who)).trans ?_
  exact bnd (zKr x.small i me.2.2.1 (qo s me))
theorem zKA {r:zf} {s:zb} {me:pMe} (hr:z9 r) (hs:qJ s) (i:Int):zbR (r,s,me,i,()) = some (bif ql r s && qE r me then zfV s me (jM (qa s me) i (y5 (qo s me)) (inH me.2.2.1)) else zE3 1):=by
  simp only [zbR]
  refine (bnd (zDe (v:=jM (qa s me) i (y5 (qo s me)) (inH me.2.2.1)) hr hs fun x=>?_)).trans rfl
  simp only [zl8]
  refine (bnd (a:=i) rfl).trans ?_
  refine (bnd (a:=me) rfl).trans ?_
  refine (bnd (a:=s) rfl).trans ?_
  refine (bnd (a:=me) rfl).trans ?_
  refine (bnd (zge x rfl x.who)).trans ?_
  exact bnd (zKs x.small i me.2.2.1 (qo s me))
def zrd (r:zf) (s:zb) (me:pMe) (i w:Int):List zh × Int × Unit:=bif jL r w && w != me.2.2.1 then bif yl (qa s me) i me.2.2.1 then bif eqI zv (zjY s me.2.1 w) (qo s me) then jM (qa s me) i (inH me.2.2.1) (inH w) else ((jM (qa s me) i (inH me.2.2.1) (inH w)).1,5,()) else ([],3,()) else ([],1,())
theorem zPa {r:zf} {s:zb} {me:pMe} (x:Ctx r s me) {w:Int} (hw:jL r w = true) (i:Int):jM (qa s me) i (inH me.2.2.1) (inH w) = bif yl (qa s me) i me.2.2.1 then (List.set (qa s me) i.toNat (toV (ix zj (qa s me) i) (inH w)),0,()) else ([],3,()):=by
  have hb:=(zaa x.rs).1
  rw [zm9,x.slots,zhj,zhj,zMH hb x.who,zMH hb hw,zx8 x.slots]; rfl
theorem zKB {r:zf} {s:zb} {me:pMe} (hr:z9 r) (hs:qJ s) (i w:Int):zbS (r,s,me,i,w,()) = some (bif ql r s && qE r me then zfV s me (zrd r s me i w) else zE3 1):=by
  simp only [zbS]
  refine (bnd (zDe (v:=zrd r s me i w) hr hs fun x=>?_)).trans rfl
  have him:∀ u:Unit,qE r (me.1,me.2.1,w,u) = jL r w:=fun u=>by
    have:=x.im
    simp only [qE,Bool.and_eq_true] at this ⊢
    rw [this.1,this.2.1,Bool.true_and,Bool.true_and]
  simp only [zl9]
  refine (bnd (a:=me) rfl).trans ?_
  refine (bnd (a:=me) rfl).trans ?_
  refine (bnd (a:=w) rfl).trans ?_
  refine (bnd (a:=w) rfl).trans ?_
  refine (bnd (a:=me) rfl).trans ?_
  unfold zrd
  by_cases hne:w = me.2.2.1
  · refine (cT (beq_iff_eq.2 hne)).trans ?_
    have:(w != me.2.2.1) = false:=by rw [hne]; simp
    rw [this,Bool.and_false]; rfl
  · refine (cF (beq_eq_false_iff_ne.2 hne)).trans ?_
    rw [bne_iff_ne.2 hne,Bool.and_true]
    refine (bnd (a:=r) rfl).trans ?_
    refine (bnd (a:=s) rfl).trans ?_
    refine (bnd (zhg hr hs _)).trans ?_
    rw [x.rs,him,Bool.true_and]
    cases hw:jL r w with
    | false=>rfl
    | true =>
      refine (cT rfl).trans ?_
      refine (bnd (a:=i) rfl).trans ?_
      refine (bnd (a:=me) rfl).trans ?_
      refine (bnd (a:=w) rfl).trans ?_
      refine (bnd (zKt x.small i me.2.2.1 w)).trans ?_
      rw [zPa x hw i]
      cases yl (qa s me) i me.2.2.1 with
      | false=>rfl
      | true =>
        refine (cT rfl).trans ?_
        refine (bnd (a:=s) rfl).trans ?_
        refine (bnd (zge x (y:=(me.1,me.2.1,w,(zd tMe).2.2.2)) rfl hw)).trans ?_
        refine (bnd (a:=s) rfl).trans ?_
        refine (bnd (a:=me) rfl).trans ?_
        refine (bnd (zge x rfl x.who)).trans ?_
        show cond (!eqI zv (zjY s me.2.1 w) (qo s me)) _ _ = _
        cases eqI zv (zjY s me.2.1 w) (qo s me) <;> rfl
end Go.Proofs.YtejbgeokcpillaaGreatDoor
end
section
namespace Go.Proofs.YtejbgeokcpillaaGreatDoor
open Go.Ev
def yj (h:qS) (x:zh):Bool:=x.1 && eqI qm (ofV x) h
theorem zvp {l:List zh} (hl:l.length ≤ 1000000) (h:qS):zi1 (l,h,()) = some (z6 (yj h) 0 l,()):=by
  have hl':l.length ≤ Go.maxLen:=by unfold Go.maxLen; omega
  have:=vB (B:=zcT) (α:=List Int) hl' (fun i o=>(l,(l.length:Int),i,h,o)) (fun i o=>some (o ++ z6 (yj h) i (l.drop i),())) (fun i o=>o.length ≤ i) (fun k i o hi hI hk=>by
    simp only [zcT]
    rw [ltT hi,zk hi,zG,zgq,jB zj hi]
    simp only [cond_true,z6,yj]
    cases hu:(l.getD i zj).1 with
    | false=>exact hk o (by omega)
    | true =>
      simp only [cond_true,Bool.true_and]
      refine (bnd (zDc _)).trans ?_
      show cond (eqI qm (ofV (l.getD i zj)) h) _ _ = _
      cases eqI qm (ofV (l.getD i zj)) h with
      | false=>exact hk o (by omega)
      | true =>
        refine (cT rfl).trans ?_
        refine (cT (zxG (by simp; omega))).trans ?_
        refine (hk _ (by simp; omega)).trans ?_
        simp [z6]) (fun k o _=>by
    simp only [zcT]
    rw [ltF,List.drop_of_length_le (Nat.le_refl _)]
    simp [z6]) [] (Nat.le_refl _)
  exact this
theorem zKC {l:List zh} (hl:l.length ≤ 1000000) (w:Int):zkT (l,w,()) = some (z6 (yj (inH w)) 0 l,()):=by
  simp only [zkT]
  refine (bnd (zjG w)).trans ?_
  exact bnd (zvp hl _)
theorem zHu {l:List zh} (hl:l.length ≤ 1000000) (r:qy):zi5 (l,r,()) = some (z6 (yj (y5 r)) 0 l,()):=by
  simp only [zi5]
  refine (bnd (zAK r)).trans ?_
  exact bnd (zvp hl _)
theorem zKD {l:List zh} (hl:l.length ≤ 1000000) (w:Int):zpe (l,w,()) = some (z6 (yj (inH w)) 0 l,()):=by
  have hl':l.length ≤ Go.maxLen:=by unfold Go.maxLen; omega
  have:=vB (B:=zeQ) (α:=List Int) hl' (fun i o=>(l,w,i,o)) (fun i o=>some (o ++ z6 (yj (inH w)) i (l.drop i),())) (fun i o=>o.length ≤ i) (fun k i o hi hI hk=>by
    have e:yl l (i:Int) w = ((l.getD i zj).1 && (((l.getD i zj).2.2.1:Int) == 1 && ((l.getD i zj).2.2.2.1:Int) == w)):=by
      unfold yl
      rw [decide_eq_true (p:=0 ≤ (i:Int) ∧ (i:Int) < (l.length:Int)) (by omega),Bool.true_and,zG]
    have e2:yj (inH w) (l.getD i zj) = ((l.getD i zj).1 && ((((l.getD i zj).2.2.1:Int) == 1 && ((l.getD i zj).2.2.2.1:Int) == w) && eqI zv (l.getD i zj).2.2.2.2.1 (zd zv))):=by
      unfold yj
      rw [zt9,Bool.and_assoc]; rfl
    simp only [zeQ]
    rw [ltT hi,zgq,jB zj hi]
    simp only [cond_true,z6]
    refine (bnd (zff l (i:Int) w)).trans ?_
    rw [e,e2]
    generalize (l.getD i zj).1 = c1
    generalize (((l.getD i zj).2.2.1:Int) == 1) = c2
    generalize (((l.getD i zj).2.2.2.1:Int) == w) = c3
    cases hc:c1 && (c2 && c3) with
    | false =>
      have:(c1 && ((c2 && c3) && eqI zv (l.getD i zj).2.2.2.2.1 (zd zv))) = false:=by
        rw [← Bool.and_assoc,hc]; rfl
      rw [this]
      exact hk o (by omega)
    | true =>
      have:(c1 && ((c2 && c3) && eqI zv (l.getD i zj).2.2.2.2.1 (zd zv))) = eqI zv (l.getD i zj).2.2.2.2.1 (zd zv):=by
        rw [← Bool.and_assoc,hc]; rfl
      rw [this]
      refine (cT rfl).trans ?_
      rw [zk hi,zG]
      cases eqI zv (l.getD i zj).2.2.2.2.1 (zd zv) with
      | false=>exact hk o (by omega)
      | true =>
        refine (cT rfl).trans ?_
        refine (cT (zxG (by simp; omega))).trans ?_
        refine (hk _ (by simp; omega)).trans ?_
        simp) (fun k o _=>by
    simp only [zeQ]
    rw [ltF,List.drop_of_length_le (Nat.le_refl _)]
    simp [z6]) [] (Nat.le_refl _)
  exact this
def zKE (s:zb) (me:pMe):List Int:=z6 (yj (inH me.2.2.1)) 0 (qa s me)
theorem zMa {r:zf} {s:zb} (hr:z9 r) (hs:qJ s) (me:pMe):ziG (r,s,me,()) = some (bif ql r s && qE r me then (zKE s me,0,()) else ([],1,())):=by
  simp only [ziG]
  refine (bnd (zhg hr hs me)).trans ?_
  cases h:ql r s && qE r me with
  | false=>rfl
  | true =>
    simp only [Bool.and_eq_true] at h
    have x:Ctx r s me:=⟨h.1,h.2⟩
    refine (cT rfl).trans ?_
    refine (bnd (znL x)).trans ?_
    exact bnd (zKC (Nat.le_trans x.shelf.1 (by omega)) me.2.2.1)
theorem zrQ {r:zf} {s:zb} (hr:z9 r) (hs:qJ s) (me:pMe):zgk (r,s,me,()) = some (ql r s && qE r me,()):=by
  rw [zF]
  simp only [zgk,zHp hr hs,zKc,Option.bind_some]
  grind
theorem zMb {r:zf} {s:zb} (hr:z9 r) (hs:qJ s) (me:pMe):zmD (r,s,me,()) = some (bif ql r s && qE r me then (zKE s me,0,()) else ([],1,())):=by
  simp only [zmD]
  refine (bnd (zrQ hr hs me)).trans ?_
  cases h:ql r s && qE r me with
  | false=>rfl
  | true =>
    simp only [Bool.and_eq_true] at h
    have x:Ctx r s me:=⟨h.1,h.2⟩
    refine (cT rfl).trans ?_
    refine (ixR x.hi).trans ?_
    exact bnd (zKD (l:=qa s me) (Nat.le_trans x.shelf.1 (by omega)) me.2.2.1)
def zpP (i:Int) (l:List Int):List qy:=l.map fun z=>(i,z,())
def vO (r:zf) (j:Int) (at':qy):Nat→List zp→List qy
  | _,[]=>[]
  | i,x :: l=>(bif zij r i j then zpP i (z6 (yj (y5 at')) 0 x.2.2.1) else []) ++ vO r j at' (i + 1) l
theorem Ctx.items {r:zf} {s:zb} {me:pMe} (x:Ctx r s me) {i:Nat} (hi:i < s.2.1.length):(s.2.1.getD i ze).2.2.1.length ≤ 12 ∧ (s.2.1.getD i ze).2.2.1.all qb = true:=by
  obtain ⟨hb,hz,-⟩:=zaa x.rs
  have h:=(zfj hb hz).shelf _ (zV (d:=ze) hi)
  have h':=x.rs
  simp only [ql,Bool.and_eq_true,qL] at h'
  have:=(h'.2.2.2.1 i (Nat.zero_le _) (by omega)).1.1
  simp only [jb,Bool.and_eq_true] at this
  exact ⟨h.2.2.1,this.2.2.1⟩
theorem Ctx.count {r:zf} {s:zb} {me:pMe} (x:Ctx r s me):s.2.1.length ≤ 8:=by
  obtain ⟨hb,hz,-⟩:=zaa x.rs
  have h1:=(zfj hb hz).shelves
  have h2:=(vN hb).labels
  omega
theorem zE4 {r:zf} {s:zb} (hr:z9 r) (hs:qJ s) (me:pMe):zfb (r,s,me,()) = some (bif ql r s && qE r me then (vO r me.2.1 (qo s me) 0 s.2.1,0,()) else ([],1,())):=by
  simp only [zfb,zhT]
  refine (bnd (zhg hr hs me)).trans ?_
  cases h:ql r s && qE r me with
  | false=>rfl
  | true =>
    simp only [Bool.and_eq_true] at h
    have x:Ctx r s me:=⟨h.1,h.2⟩
    have hc:=x.count
    refine (cT rfl).trans ?_
    have:=vB (B:=fun k0=>y3 (zfQ K0 k0) k0) (α:=List qy) (len:=s.2.1.length) (by unfold Go.maxLen; omega) (fun i o=>(s.2.1,(s.2.1.length:Int),i,r,s,me,o)) (fun i o=>some (o ++ vO r me.2.1 (qo s me) i (s.2.1.drop i),0,())) (fun i o=>o.length ≤ i * 12) (fun k i o hi hI hk=>by
      obtain ⟨h12,hok⟩:=x.items hi
      simp only [y3]
      rw [ltT hi,zk hi,zG,jB ze hi]
      simp only [cond_true,vO]
      refine (bnd (zL6 hr (zaa x.rs).1 _ _)).trans ?_
      cases zij r (i:Int) me.2.1 with
      | false=>exact hk o (by omega)
      | true =>
        refine (cT rfl).trans ?_
        refine (bnd (zge x rfl x.who)).trans ?_
        refine (bnd (zHu (Nat.le_trans h12 (by omega)) _)).trans ?_
        have hsl:=zfT (p:=yj (y5 (qo s me))) (s.2.1.getD i ze).2.2.1 0
        simp only [cond_true]
        generalize z6 (yj (y5 (qo s me))) 0 (s.2.1.getD i ze).2.2.1 = L at *
        have inner:=vB (B:=fun k1=>zbQ k k1) (α:=List qy) (len:=L.length) (by unfold Go.maxLen; omega) (fun j o=>((i:Int),s.2.1,(s.2.1.length:Int),(i:Int),L,(L.length:Int),j,r,s,me,o)) (fun j o=>some (o ++ (zpP (i:Int) (L.drop j) ++ vO r me.2.1 (qo s me) (i + 1) (s.2.1.drop (i + 1))),0,())) (fun j o=>o.length ≤ i * 12 + j) (fun k1 j o hj hJ hk1=>by
          simp only [zbQ]
          rw [ltT hj,zk hj,zG,zgq,jB (0:Int) hj]
          refine (cT rfl).trans ?_
          refine (cT (zxG (by simp; omega))).trans ?_
          refine (hk1 _ (by simp; omega)).trans ?_
          simp only [zpP,List.map_cons,List.append_assoc,List.cons_append,List.nil_append]) (fun k1 o hJ=>by
          simp only [zbQ]
          rw [ltF,List.drop_of_length_le (Nat.le_refl _)]
          refine (cF rfl).trans ?_
          exact hk o (by omega)) o (by omega)
        exact inner) (fun k o _=>by
      simp only [y3]
      rw [ltF,List.drop_of_length_le (Nat.le_refl _)]
      simp [vO]) [] (Nat.zero_le _)
    exact this
theorem zE5 {r:zf} {s:zb} (hr:z9 r) (hs:qJ s) (me:pMe):zhS (r,s,me,()) = some (bif ql r s && qE r me then (vO r me.2.1 (qo s me) 0 s.2.1,0,()) else ([],1,())):=by
  simp only [zhS,zhR]
  refine (bnd (zrQ hr hs me)).trans ?_
  cases h:ql r s && qE r me with
  | false=>rfl
  | true =>
    simp only [Bool.and_eq_true] at h
    have x:Ctx r s me:=⟨h.1,h.2⟩
    have hc:=x.count
    refine (cT rfl).trans ?_
    have := vB (B:=fun k0=>y0 (zfP K0 k0) k0) (α:=List qy) (len:=s.2.1.length) (by unfold Go.maxLen; omega) (fun i o=>(i,r,s,me,o)) (fun i o=>some (o ++ vO r me.2.1 (qo s me) i (s.2.1.drop i),0,())) (fun i o=>o.length ≤ i * 12) (fun k i o hi hI hk=>by
      obtain ⟨h12,hok⟩:=x.items hi
      have eS:ix ze s.2.1 (i:Int) = s.2.1.getD i ze:=zG
      simp only [y0]
      rw [ltT hi,jB ze hi]
      simp only [cond_true,vO]
      generalize hL:(s.2.1.getD i ze).2.2.1 = L at *
      have inner:=vB (B:=fun k1=>zbO k k1) (α:=List qy) (len:=L.length) (by unfold Go.maxLen; omega) (fun j o=>((i:Int),j,r,s,me,o)) (fun j o=>some (o ++ ((bif zij r (i:Int) me.2.1 then zpP (i:Int) (z6 (yj (y5 (qo s me))) j (L.drop j)) else []) ++ vO r me.2.1 (qo s me) (i + 1) (s.2.1.drop (i + 1))),0,())) (fun j o=>o.length ≤ i * 12 + j) (fun k1 j o hj hJ hk1=>by
        have hit:qb (L.getD j zj) = true:=List.all_eq_true.1 hok _ (zV hj)
        simp only [zbO]
        rw [zk hi,eS,hL,ltT hj]
        refine (cT rfl).trans ?_
        rw [zk hi,zk hj,Int.toNat_natCast,zgq,jB zj hj]
        simp only [z6]
        have hkO:=hk1 o (by omega)
        have hp:yj (y5 (qo s me)) (L.getD j zj) = ((L.getD j zj).1 && (((L.getD j zj).2.2.1:Int) == 2 && eqI zv (L.getD j zj).2.2.2.2.1 (qo s me))):=by
          unfold yj
          cases hu:(L.getD j zj).1 with
          | false=>rfl
          | true=>rw [zMF hit hu]
        have skip:yj (y5 (qo s me)) (L.getD j zj) = false→k1 ((i:Int),wI (j + 1),r,s,me,o) = some (o ++ ((bif zij r (i:Int) me.2.1 then zpP (i:Int) (bif yj (y5 (qo s me)) (L.getD j zj) then (j:Int) :: z6 (yj (y5 (qo s me))) (j + 1) (L.drop (j + 1)) else z6 (yj (y5 (qo s me))) (j + 1) (L.drop (j + 1))) else []) ++ vO r me.2.1 (qo s me) (i + 1) (s.2.1.drop (i + 1))),0,()):=fun e=>by
          rw [e]; exact hkO
        cases hu:(L.getD j zj).1 with
        | false=>exact skip (by rw [hp,hu]; rfl)
        | true =>
          refine (cT rfl).trans ?_
          cases h2:((L.getD j zj).2.2.1:Int) == 2 with
          | false=>exact skip (by rw [hp,hu,h2]; rfl)
          | true =>
            refine (cT rfl).trans ?_
            refine (bnd (zpO x)).trans ?_
            show cond (eqI zv (L.getD j zj).2.2.2.2.1 (qo s me)) _ _ = _
            cases h3:eqI zv (L.getD j zj).2.2.2.2.1 (qo s me) with
            | false=>exact skip (by rw [hp,hu,h2,h3]; rfl)
            | true =>
              refine (cT rfl).trans ?_
              refine (bnd (zrN hr _ _)).trans ?_
              have hp':yj (y5 (qo s me)) (L.getD j zj) = true:=by rw [hp,hu,h2,h3]; rfl
              rw [hp']
              cases hl:zij r (i:Int) me.2.1 with
              | false =>
                rw [hl] at hkO
                exact hkO
              | true =>
                refine (cT rfl).trans ?_
                refine (cT (zxG (by simp; omega))).trans ?_
                have hk2:=hk1 (o ++ [((i:Int),(j:Int),())]) (by simp; omega)
                rw [hl] at hk2
                refine hk2.trans ?_
                simp only [zpP,cond_true,List.map_cons,List.append_assoc,List.cons_append,List.nil_append]) (fun k1 o hJ=>by
        simp only [zbO]
        rw [zk hi,eS,hL,ltF,List.drop_of_length_le (Nat.le_refl _)]
        refine (cF rfl).trans ?_
        refine (hk o (by omega)).trans ?_
        cases zij r (i:Int) me.2.1 <;> rfl) o (by omega)
      exact inner) (fun k o _=>by
      simp only [y0]
      rw [ltF,List.drop_of_length_le (Nat.le_refl _)]
      simp [vO]) [] (Nat.zero_le _)
    exact this
theorem zNY {a b:List qy} (hl:a.length ≤ Go.maxLen):zfC (a,b,()) = some (eqL zv a b,()):=za6 (p:=eqI zv) fun h=>by
  have:=yi (B:=zah) zzG (eqI zv) (fun i=>(a,b,i)) hl h (fun k i hi=>by
    simp only [zah]
    rw [ltT hi,zk hi,zk (by omega),zG,zG,zpN]; rfl) (fin:=true) (fun k=>by simp only [zah]; rw [ltF]; rfl)
  rw [Bool.and_true] at this; exact this
theorem zQV {a b:List Int} (hl:a.length ≤ Go.maxLen):zkt (a,b,()) = some (eqL tI a b,()):=za6 (p:=eqI tI) fun h=>by
  have:=yi (B:=zeG) (0:Int) (eqI tI) (fun i=>(a,b,i)) hl h (fun k i hi=>by
    simp only [zeG]
    rw [ltT hi,zk hi,zk (by omega),zG,zG,zPL]; rfl) (fin:=true) (fun k=>by simp only [zeG]; rw [ltF]; rfl)
  rw [Bool.and_true] at this; exact this
end Go.Proofs.YtejbgeokcpillaaGreatDoor
end
section
namespace Go.Proofs.YtejbgeokcpillaaGreatDoor
open Go.Ev
def zog (s:zb) (me:pMe) (v:List zh × Int × Int × Unit):zb × Int × Int × Unit:=bif v.2.2.1 != 0 then (zKo,0,v.2.2.1,()) else (upd s me.2.1 (u2 (ix ze s.2.1 me.2.1) v.1),v.2.1,0,())
theorem zPR {l:List zh} {nm:ByteArray} {w:Int} (h:((za0 l nm w).2.2.1 != 0) = true):(za0 l nm w).2.1 = 0:=by
  revert h
  unfold za0 zE1
  cases l.all qb <;> cases qn w <;> cases zeb nm <;> cases decide (zfU l < 0) <;> intro h <;> first | rfl | cases h
theorem zKF {r:zf} {s:zb} {me:pMe} (hr:z9 r) (hs:qJ s) (nm:ByteArray):zfa (r,s,me,nm,()) = some (bif ql r s && qE r me then zog s me (za0 (qa s me) nm me.2.2.1) else (zKo,0,1,())):=by
  simp only [zfa]
  refine (bnd (zhg hr hs me)).trans ?_
  cases h:ql r s && qE r me with
  | false=>rfl
  | true =>
    simp only [Bool.and_eq_true] at h
    have x:Ctx r s me:=⟨h.1,h.2⟩
    refine (cT rfl).trans ?_
    refine (bnd (znL x)).trans ?_
    refine (bnd (zKu x.small nm me.2.2.1)).trans ?_
    show _ = some (zog s me (za0 (qa s me) nm me.2.2.1))
    unfold zog
    cases he:(za0 (qa s me) nm me.2.2.1).2.2.1 != 0 with
    | true =>
      refine (cT rfl).trans ?_
      show some (_,(za0 (qa s me) nm me.2.2.1).2.1,_,()) = _
      rw [zPR he]; rfl
    | false =>
      refine (cF rfl).trans ?_
      refine (bnd (zjl (zMB x.rs))).trans ?_
      exact ixR x.hi
def zDf (v:zb × Int × Unit):zb × Int × Int × Unit:=(v.1,0,v.2.1,())
def zua (r:zf) (s:zb) (me:pMe) (k i w:Int):List zh × Int × Unit:=bif k == 2 then zm8 (qa s me) i me.2.2.1 else bif k == 3 then jM (qa s me) i (inH me.2.2.1) (y5 (qo s me)) else bif k == 4 then jM (qa s me) i (y5 (qo s me)) (inH me.2.2.1) else zrd r s me i w
def zE6 (r:zf) (s:zb) (me:pMe) (k i w:Int) (nm:ByteArray):zb × Int × Int × Unit:=bif ql r s && qE r me then bif k == 1 then zog s me (za0 (qa s me) nm me.2.2.1) else zDf (zfV s me (zua r s me k i w)) else (zKo,0,1,())
theorem zRf {r:zf} {s:zb} {me:pMe} (hr:z9 r) (hs:qJ s) (x:zd2):zoc (r,s,me,x,()) = some (zE6 r s me x.1 x.2.1 x.2.2.1 x.2.2.2.1):=by
  simp only [zoc]
  rw [zKF hr hs,zHt hr hs,zKz hr hs,zKA hr hs,zKB hr hs]
  simp only [Option.bind_some]
  unfold zE6 zua
  cases ql r s && qE r me with
  | false=>cases ((x.1:Int) == 1) <;> cases ((x.1:Int) == 2) <;> cases ((x.1:Int) == 3) <;> cases ((x.1:Int) == 4) <;> rfl
  | true=>cases ((x.1:Int) == 1) <;> cases ((x.1:Int) == 2) <;> cases ((x.1:Int) == 3) <;> cases ((x.1:Int) == 4) <;> rfl
theorem zQ4 {r:zf} {s:zb} {me:pMe} (hr:z9 r) (hs:qJ s) (k i w:Int) (nm:ByteArray):zmC (r,s,me,k,i,w,nm,()) = some (zE6 r s me k i w nm):=by
  simp only [zmC]
  refine (bnd (zrQ hr hs me)).trans ?_
  unfold zE6
  cases h:ql r s && qE r me with
  | false=>rfl
  | true =>
    simp only [Bool.and_eq_true] at h
    have x:Ctx r s me:=⟨h.1,h.2⟩
    have hl:s.2.1.length ≤ lim:=zls (Nat.le_trans x.count (by omega))
    refine (cT rfl).trans ?_
    refine (ixR x.hi).trans ?_
    show _ = some (bif k == 1 then zog s me (za0 (qa s me) nm me.2.2.1) else zDf (zfV s me (zua r s me k i w)))
    have go:∀ v:List zh × Int × Unit,(bif v.2.1 != 0 then some (zKo,(0:Int),v.2.1,()) else Option.bind (ya (s,me.2.1,u2 (ix ze s.2.1 me.2.1) v.1,())) fun q=>some (q.1,(0:Int),(0:Int),())) = some (zDf (zfV s me v)):=fun v=>by
      unfold zfV
      cases v.2.1 != 0 with
      | true=>rfl
      | false=>exact bnd (zO5 hl x.hi)
    cases h1:k == 1 with
    | true =>
      refine (cT rfl).trans ?_
      refine (bnd (zKy x.small nm me.2.2.1)).trans ?_
      show _ = some (zog s me (za0 (qa s me) nm me.2.2.1))
      unfold zog
      cases he:(za0 (qa s me) nm me.2.2.1).2.2.1 != 0 with
      | true=>exact cT rfl
      | false =>
        refine (cF rfl).trans ?_
        exact bnd (zO5 hl x.hi)
    | false =>
      refine (cF rfl).trans ?_
      show _ = some (zDf (zfV s me (zua r s me k i w)))
      unfold zua
      cases h2:k == 2 with
      | true =>
        refine (cT rfl).trans ?_
        refine (bnd (zHs x.small i me.2.2.1)).trans ?_
        exact go _
      | false =>
        refine (cF rfl).trans ?_
        cases h3:k == 3 with
        | true =>
          refine (cT rfl).trans ?_
          refine (bnd (zpO x)).trans ?_
          refine (bnd (zKv x.small i me.2.2.1 (qo s me))).trans ?_
          exact go _
        | false =>
          refine (cF rfl).trans ?_
          cases h4:k == 4 with
          | true =>
            refine (cT rfl).trans ?_
            refine (bnd (zpO x)).trans ?_
            refine (bnd (zKx x.small i me.2.2.1 (qo s me))).trans ?_
            exact go _
          | false =>
            refine (cF rfl).trans ?_
            show _ = some (zDf (zfV s me (zrd r s me i w)))
            unfold zrd
            by_cases hw0:w < 0
            · refine (cT (decide_eq_true hw0)).trans ?_
              have:jL r w = false:=decide_eq_false (by omega)
              rw [this]; rfl
            · refine (cF (decide_eq_false hw0)).trans ?_
              by_cases hw1:w ≥ (r.2.2.1.length:Int)
              · refine (cT (decide_eq_true hw1)).trans ?_
                have:jL r w = false:=decide_eq_false (by omega)
                rw [this]; rfl
              · refine (cF (decide_eq_false hw1)).trans ?_
                have hw:jL r w = true:=decide_eq_true (by omega)
                rw [hw,Bool.true_and]
                by_cases hne:w = me.2.2.1
                · refine (cT (beq_iff_eq.2 hne)).trans ?_
                  have:(w != me.2.2.1) = false:=by rw [hne]; simp
                  rw [this]; rfl
                · refine (cF (beq_eq_false_iff_ne.2 hne)).trans ?_
                  rw [bne_iff_ne.2 hne]
                  refine (bnd (zff (qa s me) i me.2.2.1)).trans ?_
                  cases yl (qa s me) i me.2.2.1 with
                  | false=>rfl
                  | true =>
                    refine (cT rfl).trans ?_
                    refine (ixR (x.place hw)).trans ?_
                    refine (ixR (x.place x.who)).trans ?_
                    show cond (!eqI zv (zjY s me.2.1 w) (qo s me)) _ _ = _
                    cases eqI zv (zjY s me.2.1 w) (qo s me) with
                    | false=>rfl
                    | true =>
                      refine (cF rfl).trans ?_
                      refine (bnd (zKw x.small i me.2.2.1 w)).trans ?_
                      exact go _
theorem zPb:zjg () = some (true,()):=by
  simp only [zjg,zfa,zfc,zbR,zbS,zce,zan,zPO]
  kernel_rfl
theorem zKG {s:zb} (h:zhh s) {i:Int} {l:List zh} (hl:l.length * 56 ≤ 140737488355328):zhh (upd s i (u2 (ix ze s.2.1 i) l)):=by
  have a:=zMz h i
  exact zPP h ⟨a.rooms,a.exits,hl,a.mails,a.trades,a.purses,a.places⟩
theorem zAL (l:List zh) (i:Int) (f g:qS):(jM l i f g).1.length ≤ l.length:=by
  unfold jM
  cases l.all qb <;> cases hOk f <;> cases hOk g <;> cases zlt l i <;> cases eqI qm (ofV (ix zj l i)) f <;> simp
theorem zPS (l:List zh) (nm:ByteArray) (w:Int):(za0 l nm w).1.length ≤ l.length:=by
  unfold za0 zE1
  cases l.all qb <;> cases qn w <;> cases zeb nm <;> cases decide (zfU l < 0) <;> simp
theorem zPT (r:zf) (s:zb) (me:pMe) (k i w:Int):(zua r s me k i w).1.length ≤ (qa s me).length:=by
  unfold zua
  cases k == 2 with
  | true =>
    simp only [cond_true]
    unfold zm8
    cases (jM (qa s me) i (inH me.2.2.1) (inH me.2.2.1)).2.1 != 0 <;> simp
  | false =>
    cases k == 3 with
    | true=>exact zAL _ _ _ _
    | false =>
      cases k == 4 with
      | true=>exact zAL _ _ _ _
      | false =>
        show (zrd r s me i w).1.length ≤ _
        unfold zrd
        have:=zAL (qa s me) i (inH me.2.2.1) (inH w)
        cases jL r w && w != me.2.2.1 <;> cases yl (qa s me) i me.2.2.1 <;> cases eqI zv (zjY s me.2.1 w) (qo s me) <;> first | exact Nat.zero_le _ | exact this
theorem zPU {r:zf} {s:zb} (h:zhh s) (me:pMe) (k i w:Int) (nm:ByteArray):zhh (zE6 r s me k i w nm).1:=by
  have hf:=(zMz h me.2.1).items
  unfold zE6
  cases ql r s && qE r me with
  | false=>exact zAJ
  | true =>
    cases k == 1 with
    | true =>
      show zhh (zog s me (za0 (qa s me) nm me.2.2.1)).1
      unfold zog
      cases (za0 (qa s me) nm me.2.2.1).2.2.1 != 0 with
      | true=>exact zAJ
      | false=>exact zKG h (Nat.le_trans (Nat.mul_le_mul_right 56 (zPS _ _ _)) hf)
    | false =>
      show zhh (zfV s me (zua r s me k i w)).1
      unfold zfV
      cases (zua r s me k i w).2.1 != 0 with
      | true=>exact zAJ
      | false=>exact zKG h (Nat.le_trans (Nat.mul_le_mul_right 56 (zPT _ _ _ _ _ _)) hf)
theorem zQt (s:zb) (me:pMe):(zKE s me).length ≤ (qa s me).length:=zfT _ _
theorem zDg {r:zf} {j:Int} {a:qy}:∀ (l:List zp) (i:Nat),(∀ x ∈ l,x.2.2.1.length ≤ 12)→(vO r j a i l).length ≤ l.length * 12
  | [],_,_=>Nat.le_refl _
  | x :: l,i,h=>by
    have h1:=zDg (r:=r) (j:=j) (a:=a) l (i + 1) fun y hy=>h y (List.mem_cons_of_mem _ hy)
    have h2:=h x List.mem_cons_self
    have h3:=zfT (p:=yj (y5 a)) x.2.2.1 0
    have h4:(bif zij r (i:Int) j then zpP (i:Int) (z6 (yj (y5 a)) 0 x.2.2.1) else []).length ≤ 12:=by
      cases zij r (i:Int) j with
      | false=>exact Nat.zero_le _
      | true=>show (List.map _ _).length ≤ _; rw [List.length_map]; omega
    simp only [vO,List.length_append,List.length_cons]
    omega
theorem zKH {r:zf} {s:zb} (hr:z9 r) (hs:qJ s) (hf:zhh s) {me:pMe} {x:zd2}:zdE (r,s,me,x,()) = some (true,()):=by
  have hS:∀ t:zb,zhh t→ze1 (t,t,()) = some (true,()):=fun t ht=>by rw [zKk (zO7 ht),zNV]
  have hfa:=zPU (r:=r) hf me x.1 x.2.1 x.2.2.1 x.2.2.2.1
  have hb:∀ z:Int,(z == z) = true:=fun z=>beq_self_eq_true (α:=Int) z
  simp only [zdE]
  refine (bnd (zjl hf)).trans ?_
  refine (bnd (zRf hr hs x)).trans ?_
  refine (bnd (zQ4 hr hs x.1 x.2.1 x.2.2.1 x.2.2.2.1)).trans ?_
  refine (bnd (zMa hr hs me)).trans ?_
  refine (bnd (zMb hr hs me)).trans ?_
  refine (bnd (zE4 hr hs me)).trans ?_
  refine (bnd (zE5 hr hs me)).trans ?_
  refine (bnd zPb).trans ?_
  refine (cT rfl).trans ?_
  refine (bnd (hS _ hfa)).trans ?_
  refine (cT rfl).trans ?_
  refine (cT (hb _)).trans ?_
  refine (cT (hb _)).trans ?_
  have e1:zkt ((bif ql r s && qE r me then (zKE s me,(0:Int),()) else ([],1,())).1,(bif ql r s && qE r me then (zKE s me,(0:Int),()) else ([],1,())).1,()) = some (true,()):=by
    rw [zQV (zhi (n:=_) ?_),y4 (τ:=tI) rfl]
    cases h:ql r s && qE r me with
    | false=>exact Nat.zero_le _
    | true =>
      simp only [Bool.and_eq_true] at h
      exact Nat.le_trans (zQt s me) (show Ctx r s me from ⟨h.1,h.2⟩).small
  have e2:zfC ((bif ql r s && qE r me then (vO r me.2.1 (qo s me) 0 s.2.1,(0:Int),()) else ([],1,())).1,(bif ql r s && qE r me then (vO r me.2.1 (qo s me) 0 s.2.1,(0:Int),()) else ([],1,())).1,()) = some (true,()):=by
    rw [zNY (zhi (n:=_) ?_),y4 (τ:=zv) rfl]
    cases h:ql r s && qE r me with
    | false=>exact Nat.zero_le _
    | true =>
      simp only [Bool.and_eq_true] at h
      have c:Ctx r s me:=⟨h.1,h.2⟩
      obtain ⟨hb,hz,-⟩:=zaa c.rs
      have:=zDg (r:=r) (j:=me.2.1) (a:=qo s me) s.2.1 0 fun y hy=>((zfj hb hz).shelf y hy).2.2.1
      have:=c.count
      show (vO r me.2.1 (qo s me) 0 s.2.1).length ≤ 2000000
      omega
  refine (bnd e1).trans ?_
  refine (cT rfl).trans ?_
  refine (cT (hb _)).trans ?_
  refine (bnd e2).trans ?_
  refine (cT rfl).trans ?_
  refine (cT (hb _)).trans ?_
  refine (bnd (hS s hf)).trans ?_
  rfl
theorem zQ5 {x:zp} (h:WtR zy x):zxN x:=by
  obtain ⟨h1,h2,h3,h4,h5,h6,h7,-⟩:=h
  have hb:reachBytes ≤ 140737488355328:=by decide
  exact ⟨Nat.le_trans h1.1 hb,Nat.le_trans h2.1 hb,Nat.le_trans h3.1 hb,Nat.le_trans h4.1 hb,Nat.le_trans h5.1 hb,Nat.le_trans h6.1 hb,Nat.le_trans h7.1 hb⟩
theorem zQu {s:zb} (h:WtR zo s):zhh s:=by
  obtain ⟨-,h2,h3,h4,h5,h6,-⟩:=h
  have hb:reachBytes ≤ 140737488355328:=by decide
  exact ⟨Nat.le_trans h2.1 hb,Nat.le_trans h3.1 hb,Nat.le_trans h4.1 hb,Nat.le_trans h5.1 hb,Nat.le_trans h6.1 hb,fun x hx=>zQ5 (h2.2 x hx),fun l hl=>Nat.le_trans (h3.2 l hl).1 hb⟩
end Go.Proofs.YtejbgeokcpillaaGreatDoor
end
section
namespace Go.Proofs.YtejbgeokcpillaaGreatDoor.fnGoodsTells
open Go.ChangeShapes Go.WideShapes Go.ChangeAt Go.RowKit Go.Ev
theorem own:ownKnob Tryz.prog.godebug = none:=by kernel_rfl
def zPc:List Int→List Value:=List.map (Value.int .u8)
theorem zQ6:∀ f add,Ev.look ext f = some add→ExtOk Tryz.prog f add:=by
  intro f add h
  have h':(Nat.beq 292 f = true ∧ add = false) ∨ (Nat.beq 322 f = true ∧ add = true):=by
    simp only [ext,Ev.look] at h
    cases h1:Nat.beq 292 f with
    | true=>rw [h1] at h; exact .inl ⟨rfl,(Option.some.inj h).symm⟩
    | false =>
      rw [h1] at h
      cases h2:Nat.beq 322 f with
      | true=>rw [h2] at h; exact .inr ⟨rfl,(Option.some.inj h).symm⟩
      | false=>rw [h2] at h; cases h
  rcases h' with ⟨h1,rfl⟩ | ⟨h1,rfl⟩
  · obtain rfl:=Nat.eq_of_beq_eq_true h1
    intro x y w hx hy hy2
    obtain ⟨m,rfl⟩:=Int.eq_ofNat_of_zero_le hx
    obtain ⟨n,rfl⟩:=Int.eq_ofNat_of_zero_le hy
    rw [run_callFunc_extern (P:=Tryz.prog) (f:=292) Tryz.func292 (by kernel_rfl) (by kernel_rfl) (by kernel_rfl) (e:=sub64Entry) (by kernel_rfl)]
    have h0:(sub64Entry #[.int .u64 (m:Int),.int .u64 (n:Int),.int .u64 0]).run Tryz.prog w = .ok (.tuple #[.int .u64 (((m + 18446744073709551616 - n - 0) % 18446744073709551616:Nat):Int),.int .u64 ((if m < n + 0 then 1 else 0:Nat):Int)]) w:=run_sub64 m n 0 (by omega) w
    have e1:extA false (m:Int) (n:Int) = (((m + 18446744073709551616 - n - 0) % 18446744073709551616:Nat):Int):=by
      show ((m:Int) - (n:Int)) % 18446744073709551616 = _
      omega
    have e2:extB false (m:Int) (n:Int) = ((if m < n + 0 then 1 else 0:Nat):Int):=by
      show cond (decide ((m:Int) < (n:Int))) 1 0 = _
      by_cases h:m < n
      · rw [decide_eq_true (by omega),if_pos (by omega)]; rfl
      · rw [decide_eq_false (by omega),if_neg (by omega)]; rfl
    rw [h0,e1,e2]
    rfl
  · obtain rfl:=Nat.eq_of_beq_eq_true h1
    intro x y w hx hy hy2
    rw [run_callFunc_extern (P:=Tryz.prog) (f:=322) Tryz.func322 (by kernel_rfl) (by kernel_rfl) (by kernel_rfl) (e:=add64Entry) (by kernel_rfl),run_add64 x y 0 hx hy (by omega) (by omega),Int.add_zero]
    rfl
theorem env {W:World} (hL:laidMetH Tryz.prog Rows.goodsTellsRow.laid W):EnvOk Tryz.prog (FH.of W) E0:=by
  exact EnvOk.nil (by kernel_rfl) (fun g v hv=>by cases hv) zQ6
set_option maxRecDepth 100000 in
theorem zPV (H:Type) (enc:TypeId × Value→H) (W:World) (base:Nat) (args:Array Value) (ds gs:List (DataW H)) (before:List MemPlace)
    (hval:∀ (j:Nat) t v,Tryz.f3.params[j]? = some t→args[j]? = some v→Value.okWide Tryz.prog W .any base t v)
    (hW:DataW.Whole enc Tryz.prog Tryz.f3.params.toList Rows.goodsTellsSpec.vars false W args.toList ds gs before) (hL:laidMetH Tryz.prog Rows.goodsTellsRow.laid W) {us:List TypeId} (hz:(DataW.weightsEach Tryz.prog (Tryz.f3.params.toList ++ us) (ds ++ gs)).all (· ≤ reachBytes) = true) :
    Calls Tryz.prog 3 args W fun e W'=>∃ v,e = .returned v ∧ Rows.goodsTellsSpec.post enc Tryz.prog Tryz.f3 false true false false W args v W':=by
  refine zFQ (a:=zwd) (tb:=4) (by kernel_rfl) (by decide +kernel) (by kernel_rfl) (by kernel_rfl) (by kernel_rfl) rfl (fun ds hd=>?_) hval hW fun x hx hbk hwt hr=>?_
  · have:Tryz.f3.params.size = 4:=by kernel_rfl
    rw [this] at hd
    match ds,hd with
    | [d1,d2,d3,d4],_=>rfl
  · have hs:=zxC (FH.of W) (env hL)
    have hwt:=hwt fun n hn=>of_decide_eq_true (List.all_eq_true.1 hz n (zBr hn))
    have he:zdE x = some (true,()):=by
      obtain ⟨r,s,m,d,⟨⟩⟩:=x
      exact zKH (realmIn hx.1) (stateIn hx.2.1) (zQu hwt.2.1)
    have hc:=hs.2 x (true,()) he (FH.of W) W args.toList (FH.le.refl _) (FH.of_ok W) hr
    refine hc.mono fun e W' he=>?_
    obtain ⟨us,F',h1,h2,_,_,h3⟩:=he
    refine ⟨?_,h2⟩
    obtain ⟨v,r,hus,hv,hva,hnil⟩:=(show RepA Tryz.prog F' (.pair .bool .unit) (true,()) us from h3)
    have hr0:r = []:=hnil
    subst hr0
    have hv':v.cells.toList = [.bool true]:=hv
    rw [h1,hus]
    have hva':isAggV v = false:=hva
    have:v = .bool true:=by
      cases v <;> first | (simp [isAggV] at hva'; done) | (simp [Value.cells] at hv'; exact congrArg _ hv') | (simp [Value.cells] at hv')
    rw [this]
    rfl
def zQW (l:List Value):Obj→Obj
  | .cells _ t frozen=>.cells l.toArray t frozen
  | o=>o
noncomputable def laidWorld (os:Os):World :=
  { World.holding Tryz.prog os ⟨#[],#[],[]⟩ with heap:=((World.holding Tryz.prog os ⟨#[],#[],[]⟩).heap.modify 0 (zQW (zPc (Pinned.utf8FirstZ.map fun n:Nat=>(n:Int))))).modify 1 (zQW (zPc [128,191,160,191,128,159,144,191,128,143,0,0,0,0,0,0,0,0,0,0,0,0,0,0,0,0,0,0,0,0,0,0])) }
def arg0:Value:=.agg #[.slice none 0 0,.slice none 0 0,.slice none 0 0,.slice none 0 0,.slice none 0 0,.int .i64 0,.int .i64 0,.int .i64 0,.int .i64 0]
def zNZ:Value:=.agg #[.int .u64 0,.slice none 0 0,.slice none 0 0,.slice none 0 0,.slice none 0 0,.slice none 0 0]
def zN0:Value:=.agg #[.int .i64 0,.int .i64 0,.int .i64 0]
def zN1:Value:=.agg #[.int .i64 0,.int .i64 0,.int .i64 0,.string ⟨#[]⟩]
theorem laid_met (os:Os):laidMet Tryz.prog Rows.goodsTellsRow.laid ((laidWorld os).forCall (fun _ _=>0) ⟨#[],#[arg0,zNZ,zN0,zN1],[]⟩).memory :=
  laidMet_of_run' 8 (by kernel_rfl) (by kernel_rfl)
theorem reads (os:Os) {H:Type} (enc:TypeId × Value→H):∃ places,DataW.whole enc Tryz.prog ((laidWorld os).forCall (fun _ _=>0) ⟨#[],#[arg0,zNZ,zN0,zN1],[]⟩).memory Tryz.f3.params.toList Rows.goodsTellsSpec.vars false #[arg0,zNZ,zN0,zN1].toList 8 = some ([.agg [.nil,.nil,.nil,.nil,.nil,.lit (.int .i64 0),.lit (.int .i64 0),.lit (.int .i64 0),.lit (.int .i64 0)],.agg [.lit (.int .u64 0),.nil,.nil,.nil,.nil,.nil],.agg [.lit (.int .i64 0),.lit (.int .i64 0),.lit (.int .i64 0)],.agg [.lit (.int .i64 0),.lit (.int .i64 0),.lit (.int .i64 0),.lit (.string [])]],[],places) :=
  ⟨[],by kernel_rfl⟩
set_option maxRecDepth 100000 in
theorem lifted (os:Os) (started:os.Started) (H:Type) (enc:TypeId × Value→H) (F:Stop.Interp) :
    ReturnsInHanded {} Tryz.checked os 3 .any ((OpenSpec.ofChange Rows.goodsTellsSpec).preRow enc Tryz.prog Tryz.f3 Rows.goodsTellsRow.domain false Rows.goodsTellsRow.laid) (((OpenSpec.ofChange Rows.goodsTellsSpec).at F).post enc Tryz.prog Tryz.f3 false true false false):=by
  obtain ⟨places,hx⟩:=reads os enc
  refine returnsInHanded_of_row (C:=Tryz.checked) (s:=OpenSpec.ofChange Rows.goodsTellsSpec) own started (by kernel_rfl) Tryz.func3
    (witness_row_at (enc:=enc) (C:=Tryz.checked) false (laidWorld os) #[arg0,zNZ,zN0,zN1] rfl (by kernel_rfl) (by kernel_rfl) (by kernel_rfl)
      (OpenSpec.preRow_of_cond 8 hx (by kernel_rfl) (fun k hk=>by cases hk) (by kernel_rfl) (laid_met os))) ?_
  intro W base args ds gs before hval hW _ _ hz hL _ _
  exact zPV H enc W base args ds gs before hval hW hL hz
end Go.Proofs.YtejbgeokcpillaaGreatDoor.fnGoodsTells
end
section
namespace Go.Proofs.YtejbgeokcpillaaGreatDoor.fnGoodsTells
open Go.ChangeShapes Go.WideShapes Go.ChangeAt Go.RowKit Go.Ev
theorem k2:laidOutB Tryz.prog = true:=by kernel_rfl
theorem k3:mapsRowed Tryz.prog = true:=by kernel_rfl
theorem k10:(Rows.goodsTellsRow.inPlace == Tryz.prog.inPlace 3) = true:=by kernel_rfl
theorem k11:(Rows.goodsTellsRow.unfollowed == Tryz.prog.unfollowed 3) = true:=by kernel_rfl
theorem k12:(Rows.goodsTellsRow.recurses == Tryz.prog.recurses 3) = true:=by kernel_rfl
theorem k13:(Rows.goodsTellsRow.named == Tryz.prog.varsNamed 3) = true:=by kernel_rfl
theorem k23:(Rows.goodsTellsRow.plainKeys == Tryz.prog.plainKeys) = true:=by kernel_rfl
theorem k24:Tryz.prog.stopsHeard = true:=by kernel_rfl
theorem k25:Tryz.prog.mayEnter = true:=by kernel_rfl
theorem k26:(Rows.goodsTellsRow.lifted == Tryz.prog.liftsFinal) = true:=by kernel_rfl
theorem k27:(Tryz.prog.make == some Rows.goodsTellsRow.make) = true:=by kernel_rfl
theorem zQv:joinedFacts Tryz.prog 3 Tryz.f3 (OpenSpec.ofChange Rows.goodsTellsSpec).bare Rows.goodsTellsRow = true:=by
  unfold joinedFacts
  rw [k2,k3,k10,k11,k12,k13,k23,k24,k25,k26,k27]
  kernel_rfl
theorem peq:Tryz.pinned.checked.prog = Tryz.prog:=by kernel_rfl
theorem closed:joinedFacts Tryz.pinned.checked.prog 3 Tryz.f3 (OpenSpec.ofChange Rows.goodsTellsSpec).bare Rows.goodsTellsRow = true:=by
  rw [peq]; exact zQv
end Go.Proofs.YtejbgeokcpillaaGreatDoor.fnGoodsTells
end
