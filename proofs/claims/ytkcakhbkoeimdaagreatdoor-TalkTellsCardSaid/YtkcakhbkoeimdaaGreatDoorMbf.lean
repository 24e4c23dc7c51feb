import Derived.Test.YtkcakhbkoeimdaaGreatDoorMbe
import Derived.Shelf.Spec.BitsCarry
import Derived.Test.YtkcakhbkoeimdaaGreatDoorCards
import Derived.Test.YtkcakhbkoeimdaaGreatDoorTie
import Derived.ProofKit
import Derived.OpenShut
import Derived.Deep.DeepHandedRow
import Derived.Lib.LaidTab
set_option linter.unusedVariables false
set_option linter.unusedSimpArgs false
section
namespace Go.Proofs.YtkcakhbkoeimdaaGreatDoor
open Go.Ev
theorem zQZ {σ α ρ:Type} {B:(σ→Option ρ)→σ→Option ρ} {l:List α} (d:α) {p:α→Bool} {fin hit:Option ρ} (st:Int→σ) (hl:l.length ≤ Go.maxLen)
 (hin:∀ k (i:Nat) x,i < l.length→l.getD i d = x→x ∈ l→B k (st i) = bif p x then hit else k (st (wI (i + 1)))) (hout:∀ k,B k (st l.length) = fin):zg B K0 (st 0) = bif l.any p then hit else fin:=by
 have:=jD (B:=B) (p:=fun x=>!p x) (fin:=fin) (bad:=hit) d st hl (fun k i x h1 h2 h3=>by
  rw [hin k i x h1 h2 h3]; cases p x <;> rfl) hout
 rw [this,← List.not_any_eq_all_not]
 cases l.any p <;> rfl
theorem zBz {l:List zt} {a:zt} (hl:l.length ≤ Go.maxLen):zb2 (l,a,()) = some (l.any fun y=>eqI zj a y,()):=by
 have h:zbp (l,a,()) = some (qx (fun y=>eqI zj a y) l 0,()) :=
  zpF (B:=jk) (l:=l) zA (fun i=>(l,(l.length:Int),i,a)) hl (fun k i x hi hx _=>by
   simp only [jk]
   rw [ltT hi,zi hi,zC,hx]; rfl) (fun k=>by simp only [jk]; rw [ltF]; rfl)
 rw [zB]
 simp only [zb2,h,Option.bind_some]
 rw [zuf (p:=fun y=>eqI zj a y) l 0 (Int.le_refl 0)]
theorem zye {α:Type} {p:α→Bool}:∀ (xs:List α) (i:Int),0 ≤ i→decide (qx p xs i < 0) = !xs.any p
 | [],_,_=>rfl
 | x :: xs,i,h=>by
  have ih:=zye (p:=p) xs (i + 1) (by omega)
  simp only [qx,List.any_cons]
  by_cases hp:p x = true
  ·simp [hp]; omega
  ·simp only [Bool.not_eq_true] at hp
   simpa [hp] using ih
theorem zyf (b:Int) (h:vb b = true):zel (b,()) = some (vh b,()):=by
 simp only [zel]
 have hs:=zP1 h
 simp only [vb,Bool.and_eq_true,decide_eq_true_eq] at h
 have hw:wU b = b:=zla (by omega)
 rw [hw,decide_eq_false (by omega),cond_false]
 exact congrArg (fun z:Int=>some (((0,z,()),()):zt × Unit)) hs
theorem zvV {l:List zt} {a:zt} (hl:l.length ≤ Go.maxLen):zfL (l,a,()) = some (qx (fun y=>eqI zj y a) l 0,()) :=
 zpF (B:=zcx) (l:=l) zA (fun i=>(l,i,a)) hl (fun k i x hi hx _=>by
  simp only [zcx]
  rw [ltT hi,zi hi,zC,hx]; rfl) (fun k=>by simp only [zcx]; rw [ltF]; rfl)
theorem zMK {l:List zL} {b:Int} (hl:l.length ≤ Go.maxLen):zrQ (l,b,()) = some (l.any fun g=>(g.1:Int) == b,()):=by
 rw [zB]
 exact zQZ (B:=zfN) (l:=l) zD (fun i=>(l,b,i)) hl (fun k i x hi hx _=>by
  simp only [zfN]
  rw [ltT hi,zi hi,zC,hx]; rfl) (fun k=>by simp only [zfN]; rw [ltF]; rfl)
theorem ziK (a:zt) (b:Int) (ha:0 ≤ a.2.1) (hb:0 ≤ b ∧ b < 64):vV (a,b,()) = some (j3 a.2.1 b.toNat,()):=by
 rw [zB]
 simp only [vV]
 have hh:=has_eq a.2.1 b ha hb
 have hw:wU b = b:=zla (by omega)
 rw [hw,decide_eq_false (by omega),cond_false,← hh]
 have hw':Go.IntKind.wrap .u64 b = b:=hw
 rw [hw']
def zyg (labels:List zt) (n:Nat) (last:Int) (g:zL):Bool:=vb g.1 && (decide (last < g.1) && (zT g.2.1 0 ((n:Int) - 1) && labels.any fun y=>eqI zj (vh g.1) y))
def ze8 (labels:List zt) (n:Nat):Int→List zL→Bool
 | _,[]=>true
 | last,g :: gs=>zyg labels n last g && ze8 labels n g.1 gs
def zhV (labels:List zt) (n:Nat) (l:List zL):Bool:=decide (l.length ≤ 8) && (ze8 labels n (-1) l && zyd labels l)
theorem zrl {labels:List zt} {m:Nat}:∀ (l:List zL) (last:Int),ze8 labels m last l = true→∀ g ∈ l,vb g.1 = true
 | [],_,_,g,hg=>by cases hg
 | a :: l,last,h,g,hg=>by
  simp only [ze8,zyg,Bool.and_eq_true] at h
  rcases List.mem_cons.1 hg with rfl | hg
  ·exact h.1.1
  ·exact zrl l a.1 h.2 g hg
theorem zQ0 (r:za) (h1:r.1.length ≤ Go.maxLen) (h2:r.2.2.1.length ≤ 1000000) (h3:r.2.2.2.1.length ≤ Go.maxLen) (hL:zpD r.1):vQ (r,()) = some (zhV r.1 r.2.2.1.length r.2.2.2.1,()):=by
 have hloop:vQ (r,()) = some (ze8 r.1 r.2.2.1.length (-1) r.2.2.2.1 && (decide (r.2.2.2.1.length ≤ 8) && !(r.1.any fun a=>zhU a.2.1 (zof 0 r.2.2.2.1) != 0)),()) :=
  zql (B := zbC) (l:=r.2.2.2.1) (α:=Int × Int) zD (fun i s=>(s.1,r.2.2.2.1,(r.2.2.2.1.length:Int),i,r,s.2))
   (fun rest s=>some (ze8 r.1 r.2.2.1.length s.1 rest && (decide (r.2.2.2.1.length ≤ 8) && !(r.1.any fun a=>zhU a.2.1 (zof s.2 rest) != 0)),())) h3 (fun k i x rest s hi hx _ hr hk=>by
    simp only [zbC]
    have hw:wI (((List.length r.2.2.1:Nat):Int) - 1) = (r.2.2.1.length:Int) - 1:=by
     unfold wI
     exact IntWalk.i64_in _ (by omega)
    rw [ltT hi,zi hi,hw]
    simp only [zC,hx,cond_true,zpE,Option.bind_some,ze8,zyg,zof]
    cases hb:vb x.1 with
    | false=>rfl
    | true =>
     simp only [cond_true,zdS,Option.bind_some,Bool.true_and,zBz h1]
     have hk':=hk (x.1,orI s.2 (zuA x.1))
     have e:decide (s.1 < x.1) = !decide ((x.1:Int) ≤ s.1):=by grind
     rw [e]
     cases decide ((x.1:Int) ≤ s.1) with
     | true=>rfl
     | false =>
      cases zT x.2.1 0 ((r.2.2.1.length:Int) - 1) with
      | false=>rfl
      | true =>
       cases (r.1.any fun y=>eqI zj (vh x.1) y) with
       | false=>rfl
       | true=>exact hk') (fun k s=>by
    simp only [zbC]
    rw [ltF]
    simp only [cond_false,ze8,zof,Bool.true_and]
    rw [zk5 (p:=fun a=>zhU a.2.1 s.2 != 0) h1 fun x _=>zOH x s.2,Option.bind_some]
    grind) (-1,0)
 rw [hloop]
 unfold zhV
 cases hr:ze8 r.1 r.2.2.1.length (-1) r.2.2.2.1 with
 | false=>simp
 | true =>
  rw [zSb r.1 r.2.2.2.1 hL (zrl _ _ hr)]
  simp
theorem zD1 {labels:List zt} {n:Nat}:∀ {l:List zL} {last:Int},ze8 labels n last l = zW (fun i=>zyg labels n (if i = 0 then last else (l.getD (i - 1) zD).1) (l.getD i zD)) 0 l.length:=by
 intro l
 induction l with
 | nil=>intro last; rfl
 | cons a l ih =>
  intro last
  simp only [ze8,List.length_cons,zW,ih]
  rw [Bool.eq_iff_iff]
  simp only [Bool.and_eq_true,qo]
  constructor
  ·rintro ⟨h1,h2⟩
   refine ⟨h1,fun j h3 h4=>?_⟩
   obtain ⟨i,rfl⟩:∃ i,j = i + 1:=⟨j - 1,by omega⟩
   have:=h2 i (by omega) (by omega)
   rw [if_neg (by omega)]
   by_cases e:i = 0
   ·subst e; simpa using this
   ·rw [if_neg e] at this
    obtain ⟨m,rfl⟩:∃ m,i = m + 1:=⟨i - 1,by omega⟩
    exact this
  ·rintro ⟨h1,h2⟩
   refine ⟨h1,fun j h3 h4=>?_⟩
   have:=h2 (j + 1) (by omega) (by omega)
   rw [if_neg (by omega)] at this
   by_cases e:j = 0
   ·subst e; simpa using this
   ·rw [if_neg e]
    obtain ⟨m,rfl⟩:∃ m,j = m + 1:=⟨j - 1,by omega⟩
    exact this
theorem zFT (l:List zL) (labels:List zt) (n:Nat) (h1:labels.length ≤ Go.maxLen) (hL:zpD labels):zhD (l,labels,(n:Int),()) = some (zhV labels n l,()):=by
 rw [zB]
 simp only [zhD,zhC]
 unfold zhV
 by_cases h8:l.length ≤ 8
 ·have hl:l.length ≤ Go.maxLen:=by unfold Go.maxLen; omega
  have bits:∀ k1 (j:Nat),j < labels.length→zg (yU k1) K0 (l,labels,(j:Int),0) = bif zyN l (labels.getD j zA).2.1 0 64 then k1 (l,labels,wI ((j:Int) + 1)) else some (false,()):=fun k1 j hj=>by
   have hc:=(hL _ (zH (d:=zA) hj)).1
   have:=zGx (B:=yU k1) (n:=64) (by unfold Go.maxLen; omega) (p:=fun b=>!j3 (labels.getD j zA).2.1 b || l.any fun g=>(g.1:Int) == (b:Int)) (fin:=k1 (l,labels,wI ((j:Int) + 1))) (bad:=some (false,())) (fun i=>(l,labels,(j:Int),i)) (fun k i hi=>by
    simp only [yU]
    rw [decide_eq_true (by omega),zi hj,zC,ziK _ _ hc (by omega),zMK hl,Int.toNat_natCast]
    simp only [cond_true,Option.bind_some]
    grind) (fun k=>by
    simp only [yU]
    rfl)
   rw [this]
   unfold zyN
   rw [List.range_eq_range']
  have cover:zfF K0 (l,labels,0) = some (zyd labels l,()):=by
   rw [zB]
   exact jD (l:=labels) zA (p:=fun a=>zyN l a.2.1 0 64) (fun i=>(l,labels,i)) h1 (fun k i x hi hx _=>by
    simp only [zby]
    rw [ltT hi,cond_true]
    refine (bits k i hi).trans ?_
    rw [hx]) (fun k=>by simp only [zby]; rw [ltF]; rfl)
  have hloop:zjv K0 (l,labels,(n:Int),0) = bif zW (fun i=>zyg labels n (if i = 0 then -1 else (l.getD (i - 1) zD).1) (l.getD i zD)) 0 (l.length - 0) then some (zyd labels l,()) else some (false,()) :=
   qa (i0:=0) hl (Nat.zero_le _) (fun i=>(l,labels,(n:Int),i)) (fun k i h3 h4=>by
    simp only [zbz]
    rw [ltT h4]
    simp only [zi h4,cond_true,zC,zyg]
    by_cases hb:vb (l.getD i zD).1 = true
    ·rw [zyf _ hb,Option.bind_some,zvV h1,Option.bind_some,hb]
     have ha:(labels.any fun y=>eqI zj y (vh (l.getD i zD).1)) = labels.any fun y=>eqI zj (vh (l.getD i zD).1) y:=by congr 1; funext y; exact zOI _ _
     rw [zye labels 0 (Int.le_refl 0),ha]
     simp only [vb,Bool.and_eq_true,decide_eq_true_eq] at hb
     by_cases hi0:i = 0
     ·subst hi0
      unfold zT
      grind
     ·rw [zhq (by omega) (by unfold Go.maxLen; omega),zi (by omega),Int.toNat_natCast,if_neg hi0]
      unfold zT
      grind
    ·simp only [Bool.not_eq_true] at hb
     rw [hb]
     simp only [vb,Bool.and_eq_false_iff,decide_eq_false_iff_not] at hb
     grind) (fun k=>by
    simp only [zbz]
    rw [ltF,cond_false]
    exact cover)
  rw [hloop,zD1]
  grind
 ·grind
def z4 (r:za):Bool:=jZ r.1 && (zk8 r && (zfe r.2.2.1 && (zhV r.1 r.2.2.1.length r.2.2.2.1 && (zhT r.1.length r.2.2.2.2.1 && zyM r))))
structure zR (r:za):Prop where
 labels:zpD r.1
 guilds:r.2.2.2.1.length ≤ Go.maxLen
 quotas:r.2.2.2.2.1.length ≤ Go.maxLen
theorem zf9 (r:za) (h:zR r):vz (r,()) = some (z4 r,()):=by
 rw [zB]
 show zg zgG K0 (6,0,r,[some vS,some yt,some jS,some vQ,some vR,some zah]) = _
 obtain ⟨m,hm⟩:=zyK
 have hu:zg zgG (m + 8) (6,0,r,[some vS,some yt,some jS,some vQ,some vR,some zah]) =
  Option.bind (vS (r,())) fun q=>bif q.1 then Option.bind (yt (r,())) fun q=>bif q.1 then Option.bind (jS (r,())) fun q=>bif q.1 then Option.bind (vQ (r,())) fun q=>bif q.1 then Option.bind (vR (r,())) fun q=>bif q.1 then Option.bind (zah (r,())) fun q=>bif q.1 then some (true,()) else some (false,()) else some (false,()) else some (false,()) else some (false,()) else some (false,()) else some (false,()):=by kernel_rfl
 rw [hm,hu,zQV]
 unfold z4
 simp only [Option.bind_some]
 cases h1:jZ r.1 with
 | false=>rfl
 | true =>
  have hb:1 ≤ r.1.length ∧ r.1.length ≤ 8:=by unfold jZ zT at h1; grind
  rw [zRB r (by omega),zOF]
  simp only [Option.bind_some,cond_true]
  cases zk8 r with
  | false=>rfl
  | true =>
   cases h2:zfe r.2.2.1 with
   | false=>rfl
   | true =>
    have hc:r.2.2.1.length ≤ 8:=by unfold zfe zT at h2; grind
    rw [zQ0 r (by unfold Go.maxLen; omega) (by omega) h.guilds h.labels,zQX r (by omega),zSa]
    simp only [Option.bind_some]
    grind
theorem zvW (r:za) (h:zR r):zfX (r,()) = some (z4 r,()):=by
 rw [zB]
 simp only [zfX,zi3,zFR,zBy,Option.bind_some]
 unfold z4
 cases h1:jZ r.1 with
 | false=>rfl
 | true =>
  have hb:1 ≤ r.1.length ∧ r.1.length ≤ 8:=by unfold jZ zT at h1; grind
  rw [zFT _ _ _ (by unfold Go.maxLen; omega) h.labels]
  simp only [Option.bind_some]
  by_cases hw:zT (List.length r.2.1:Int) 1 8 = true
  ·have hloop:zkF K0 (0,r) = bif (r.2.1.all fun i=>decide (0 ≤ i) && decide (i < (r.1.length:Int))) then some (zhT r.1.length r.2.2.2.2.1 && zyM r,()) else some (false,()) :=
    jD (l:=r.2.1) (0:Int) (fun i=>(i,r)) (by unfold zT at hw; unfold Go.maxLen; grind) (fun k i x hi hx _=>by
     simp only [zgB]
     rw [ltT hi,zi hi,zi hi,zC,hx]
     grind) (fun k=>by
     simp only [zgB]
     rw [ltF,zFS _ h.quotas,ziR]
     simp only [Option.bind_some,zhT,zyM,zT]
     by_cases hn:r.2.2.2.2.1.length = r.1.length
     ·rw [hn]; grind
     ·grind)
   rw [hloop]
   unfold zk8
   unfold zT at hw ⊢
   grind
  ·unfold zk8
   unfold zT at hw ⊢
   grind
end Go.Proofs.YtkcakhbkoeimdaaGreatDoor
end
section
namespace Go.Proofs.YtkcakhbkoeimdaaGreatDoor
open Go.Ev
def qX (x:Int):Bool:=decide (0 ≤ x ∧ x ≤ 127)
theorem zOJ (x:Int):zfq (x,()) = some (qX x,()):=by simp only [zfq,qX]; grind
theorem zML (x:Int):ziz (x,()) = some (qX x,()):=by simp only [ziz,qX]; grind
theorem zP2 (x:Int):zjP (x,()) = some (qX x,()):=by simp only [zjP,qX]; grind
theorem zMM (x:Int):zge (x,()) = some (qX x,()):=by simp only [zge,qX]; grind
def zrm (x:vn):Bool:=qX x.1 && qX x.2.1
theorem zRD (x:vn):zgZ (x,()) = some (zrm x,()):=by simp only [zgZ,zrm,qX]; grind
theorem zvX (x:vn):qN (x,()) = some (zrm x,()):=by simp only [qN,zrm,qX]; grind
def zIJ (x:Int):Bool:=decide (0 ≤ x ∧ x ≤ 5)
theorem zRE (x:Int):zkd (x,()) = some (zIJ x,()):=by simp only [zkd,zIJ]; grind
def zpG (s:ByteArray):Bool:=ByteArray.toList s == ByteArray.toList (ByteArray.mk #[])
def zlb (x:qU):Bool:=bif x.1 then zk7 x.2.1 else zpG x.2.1
theorem zMN {s:ByteArray} (h:zpG s = true):zk7 s = false:=by
 unfold zpG at h
 have:=eq_of_beq h
 rw [Go.ByteArray.toList_eq,Go.ByteArray.toList_eq] at this
 have h2:s.size = 0:=by
  rw [← zon,this]; rfl
 unfold zk7; rw [h2]; rfl
theorem zP3 (x:qU):zhK (x,()) = some (!zlb x,()):=by
 rw [zB]
 simp only [zhK,zpC,Option.bind_some,zlb,zpG]
 grind
theorem zKT {l:List qU} (hl:l.length ≤ Go.maxLen):zkU (l,()) = some (l.all zlb,()):=by
 rw [zB]
 simp only [zkU]
 rw [zwr (p:=fun x=>!zlb x) hl fun x _=>zP3 x,Option.bind_some,← vi]
 cases l.any fun x=>!zlb x <;> rfl
theorem zH5 {l:List qU} (hl:l.length ≤ Go.maxLen):zni (l,()) = some (l.all zlb,()):=by
 rw [zB]
 exact jD (B:=zcK) (l:=l) zhr (fun i=>(l,i)) hl (fun k i x hi hx _=>by
  simp only [zcK]
  rw [ltT hi]
  simp only [zi hi,zC,hx,znH,Option.bind_some,cond_true,zlb]
  have:=@zMN x.2.1
  unfold zpG at this ⊢
  grind) (fun k=>by simp only [zcK]; rw [ltF]; rfl)
theorem zRF (a b:vn):eqI zP a b = ((a.1:Int) == b.1 && (a.2.1:Int) == b.2.1):=by
 show cond ((a.1:Int) == b.1) (cond ((a.2.1:Int) == b.2.1) true false) false = _
 cases ((a.1:Int) == b.1) <;> cases ((a.2.1:Int) == b.2.1) <;> rfl
def zyh (x:qg):Bool:=bif x.1 then zrm x.2.1 && (zrm x.2.2.1 && zIJ x.2.2.2.1) else eqI z3 x (ze z3)
theorem zKU (x:qg):zks (x,()) = some (!zyh x,()):=by
 rw [zB]
 simp only [zks,zRD,zRE,Option.bind_some,zyh]
 grind
def zhW (a b:qg):Bool:=a.1 && (eqI zP a.2.1 b.2.1 && (a.2.2.2.1:Int) == b.2.2.2.1)
theorem zFU (x:qg) (r:vn) (d:Int):zhs (x,some r,some d,()) = some (x.1 && (eqI zP x.2.1 r && (x.2.2.2.1:Int) == d),()):=by
 rw [zB]
 simp only [zhs,Option.bind_some]
 grind
theorem zNx {α:Type} {d:α} {p:α→Bool}:∀ (l:List α) (i:Nat) (a:Int),i < l.length→p (l.getD i d) = true→((qx p l a) == a + (i:Int)) = zW (fun j=>!p (l.getD j d)) 0 i:=by
 intro l
 induction l with
 | nil=>intro i a h; simp at h
 | cons x l ih =>
  intro i a h hp
  cases i with
  | zero =>
   have hx:p x = true:=hp
   simp only [qx,hx,cond_true,zW]
   simp
  | succ i =>
   have h':i < l.length:=by simpa using h
   have hp':p (l.getD i d) = true:=hp
   have:=ih i (a + 1) h' hp'
   have e:a + 1 + (i:Int) = a + ((i + 1:Nat):Int):=by omega
   rw [e] at this
   simp only [qx]
   rw [Bool.eq_iff_iff,qo]
   rw [Bool.eq_iff_iff,qo] at this
   cases hx:p x with
   | true =>
    simp only [cond_true]
    constructor
    ·intro h1
     have:=eq_of_beq h1
     omega
    ·intro h1
     have h2:(!p x) = true:=h1 0 (by omega) (by omega)
     rw [hx] at h2; cases h2
   | false =>
    simp only [cond_false]
    rw [this]
    constructor
    ·intro h1 j _ h2
     cases j with
     | zero=>show (!p x) = true; rw [hx]; rfl
     | succ j=>exact h1 j (by omega) (by omega)
    ·intro h1 j _ h2
     exact h1 (j + 1) (by omega) (by omega)
def zD2 (l:List qg):Bool:=zW (fun i=>zyh (l.getD i qj) && bif (l.getD i qj).1 then zW (fun j=>!zhW (l.getD j qj) (l.getD i qj)) 0 i else true) 0 (l.length - 0)
theorem zKV {l:List qg} (hl:l.length ≤ Go.maxLen):zpj (l,()) = some (zD2 l,()):=by
 rw [zB]
 exact qa (B:=zeL) (i0:=0) hl (Nat.zero_le _) (fun i=>(l,l,(l.length:Int),i)) (fun k i h1 h2=>by
  simp only [zeL]
  rw [ltT h2,zi h2]
  simp only [zC,zKU,Option.bind_some,cond_true]
  cases he:zyh (l.getD i qj) with
  | false=>rfl
  | true =>
   cases hs:(l.getD i qj).1 with
   | false=>rfl
   | true =>
    have hi:zkt (l,(l.getD i qj).2.1,(l.getD i qj).2.2.2.1,()) = some (qx (fun x=>zhW x (l.getD i qj)) l 0,()):=by
     simp only [zkt]
     rw [zpA (p:=fun x=>zhW x (l.getD i qj)) hl fun x _=>zFU x _ _]
     rfl
    have hp:zhW (l.getD i qj) (l.getD i qj) = true:=by
     unfold zhW; rw [zRF,hs]; simp
    have:=zNx (d:=qj) (p:=fun x=>zhW x (l.getD i qj)) l i 0 h2 hp
    rw [Int.zero_add] at this
    rw [hi,← this]
    simp only [Option.bind_some,Bool.not_true,cond_false,cond_true,Bool.true_and,bne]
    cases (qx (fun x=>zhW x (l.getD i qj)) l 0 == (i:Int)) <;> rfl) (fun k=>by simp only [zeL]; rw [ltF]; rfl)
theorem zH6 {l:List qg} (hl:l.length ≤ Go.maxLen):znk (l,()) = some (zD2 l,()):=by
 rw [zB]
 have inner:∀ k0 (i:Nat),i < l.length→zcN K0 k0 (l,(i:Int),0,l.getD i qj) = bif zW (fun j=>!((l.getD i qj).1 && zhW (l.getD j qj) (l.getD i qj))) 0 (i - 0) then k0 (l,wI ((i:Int) + 1)) else some (false,()):=fun k0 i hi =>
  qa (B:=zcM k0) (i0:=0) (n:=i) (by omega) (Nat.zero_le _) (fun j=>(l,(i:Int),j,l.getD i qj)) (fun k j h1 h2=>by
   simp only [zcM]
   rw [ltT h2]
   simp only [zi (show j < l.length by omega),zC,cond_true,zhW]
   grind) (fun k=>by simp only [zcM]; rw [ltF]; rfl)
 exact qa (B:=fun k=>zas (zcN K0 k) k) (i0:=0) hl (Nat.zero_le _) (fun i=>(l,i)) (fun k i h1 h2=>by
  simp only [zas]
  rw [ltT h2]
  simp only [zi h2,zC,zvX,Option.bind_some,cond_true,zyh,zIJ]
  have:=inner k i h2
  rw [this]
  cases hs:(l.getD i qj).1 with
  | false =>
   simp only [Bool.false_and,Bool.not_false,cond_false,Bool.and_true]
   have:zW (fun _=>true) 0 (i - 0) = true:=qo.2 fun _ _ _=>rfl
   rw [this]
   grind
  | true =>
   simp only [Bool.true_and,cond_true,Nat.sub_zero]
   grind) (fun k=>by simp only [zas]; rw [ltF]; rfl)
def zl0 (k n:Int) (r:vn):Bool:=((k == 1 || k == 3) && (qX n && eqI zP r (ze zP))) || (k == 2 && (n == 0 && zrm r))
def vc (x:qb):Bool:=bif x.1 then zk7 x.2.1 && zl0 x.2.2.1 x.2.2.2.1 x.2.2.2.2.1 else eqI zJ x (ze zJ)
theorem zKW (x:zyJ):zcG (x,()) = some (zl0 x.1 x.2.1 x.2.2.1,()):=by
 rw [zB]
 simp only [zcG,zOJ,Option.bind_some,zl0,zrm]
 grind
theorem zH7 (x:qb):zi6 (x,()) = some (!vc x,()):=by
 rw [zB]
 have h:zul (x,()) = some ((x.2.2.1,x.2.2.2.1,x.2.2.2.2.1,()),()):=rfl
 simp only [zi6,zpC,Option.bind_some,vc,h,zKW]
 grind
theorem zH8 {l:List qb} (hl:l.length ≤ Go.maxLen):zi8 (l,()) = some (l.all vc,()):=by
 rw [zB]
 simp only [zi8]
 rw [zlA (p:=fun x=>!vc x) hl fun x _=>zH7 x,Option.bind_some,← vi]
 cases l.any fun x=>!vc x <;> rfl
theorem zH9 {l:List qb} (hl:l.length ≤ Go.maxLen):znm (l,()) = some (l.all vc,()):=by
 rw [zB]
 exact jD (B:=zcP) (l:=l) zE (fun i=>(l,i)) hl (fun k i x hi hx _=>by
  simp only [zcP]
  rw [ltT hi]
  simp only [zi hi,zC,hx,znH,zML,zvX,Option.bind_some,cond_true,vc,zl0]
  grind) (fun k=>by simp only [zcP]; rw [ltF]; rfl)
def ztC (c:Int):Bool:=decide (32 ≤ c ∧ c ≤ 126)
theorem zRG (c:Int):zke (c,()) = some (ztC c,()):=by simp only [zke,ztC]; grind
theorem zSm (c:Int):zmn (c,()) = some (ztC c,()):=by simp only [zmn,ztC]; grind
def zhX (s:ByteArray):Bool:=decide (1 ≤ s.size ∧ s.size ≤ 40) && ((chr s 0 != 32 && chr s (s.size - 1) != 32) && zW (fun i=>ztC (chr s i)) 0 s.size)
theorem zD3 (a b:ByteArray) (h:a.size < b.size):(ByteArray.toList a == ByteArray.toList b) = false:=by
 rw [beq_eq_false_iff_ne]
 intro e
 rw [Go.ByteArray.toList_eq,Go.ByteArray.toList_eq] at e
 have:=congrArg List.length e
 rw [zon,zon] at this
 omega
theorem zSn (s:ByteArray):∀ (n:Nat) (t:ByteArray),t.size ≤ n→∀ fuel,n < fuel→∃ r,zg zZ fuel (t,32) = some (r,()) ∧ r.size ≤ t.size ∧ (chr t 0 ≠ 32→r = t) ∧ (1 ≤ t.size→chr t 0 = 32→r.size < t.size):=by
 intro n
 induction n with
 | zero =>
  intro t ht fuel hf
  obtain ⟨f,rfl⟩:∃ f,fuel = f + 1:=⟨fuel - 1,by omega⟩
  refine ⟨t,?_,Nat.le_refl _,fun _=>rfl,fun h=>by omega⟩
  show zZ _ (t,32) = _
  simp only [zZ]
  rw [decide_eq_false (by omega)]; rfl
 | succ n ih =>
  intro t ht fuel hf
  obtain ⟨f,rfl⟩:∃ f,fuel = f + 1:=⟨fuel - 1,by omega⟩
  by_cases h0:t.size = 0
  ·refine ⟨t,?_,Nat.le_refl _,fun _=>rfl,fun h=>by omega⟩
   show zZ _ (t,32) = _
   simp only [zZ]
   rw [decide_eq_false (by omega)]; rfl
  have hc:((UInt8.toNat (List.getD t.data.toList (Int.toNat 0) 0):Nat):Int) = chr t 0:=rfl
  by_cases h32:chr t 0 = 32
  ·have hsz:(ByteArray.extract t (Int.toNat 1) t.size).size = t.size - 1:=by
    rw [ByteArray.size_extract]
    show min t.size t.size - 1 = _
    omega
   obtain ⟨r,h1,h2,-⟩:=ih (ByteArray.extract t (Int.toNat 1) t.size) (by rw [hsz]; omega) f (by omega)
   refine ⟨r,?_,by omega,fun h=>absurd h32 h,fun _ _=>by omega⟩
   show zZ (zg zZ f) (t,32) = _
   simp only [zZ]
   rw [hc,h32,h1]
   grind
  ·refine ⟨t,?_,Nat.le_refl _,fun _=>rfl,fun _ h=>absurd h h32⟩
   show zZ (zg zZ f) (t,32) = _
   simp only [zZ]
   rw [hc,decide_eq_true (by omega),decide_eq_true (by omega)]
   grind
theorem zSo:∀ (n:Nat) (t:ByteArray),t.size ≤ n→n ≤ 100→∀ fuel,n < fuel→∃ r,zg zV fuel (t,32) = some (r,()) ∧ r.size ≤ t.size ∧ (chr t (t.size - 1) ≠ 32→r = t) ∧ (1 ≤ t.size→chr t (t.size - 1) = 32→r.size < t.size):=by
 intro n
 induction n with
 | zero =>
  intro t ht _ fuel hf
  obtain ⟨f,rfl⟩:∃ f,fuel = f + 1:=⟨fuel - 1,by omega⟩
  refine ⟨t,?_,Nat.le_refl _,fun _=>rfl,fun h=>by omega⟩
  show zV _ (t,32) = _
  simp only [zV]
  rw [decide_eq_false (by omega)]; rfl
 | succ n ih =>
  intro t ht hn fuel hf
  obtain ⟨f,rfl⟩:∃ f,fuel = f + 1:=⟨fuel - 1,by omega⟩
  by_cases h0:t.size = 0
  ·refine ⟨t,?_,Nat.le_refl _,fun _=>rfl,fun h=>by omega⟩
   show zV _ (t,32) = _
   simp only [zV]
   rw [decide_eq_false (by omega)]; rfl
  have hw:wI ((t.size:Int) - 1) = ((t.size - 1:Nat):Int):=zhq (by omega) (by unfold Go.maxLen; omega)
  have hc:((UInt8.toNat (List.getD t.data.toList (Int.toNat ((t.size - 1:Nat):Int)) 0):Nat):Int) = chr t (t.size - 1):=by rw [Int.toNat_natCast]; rfl
  by_cases h32:chr t (t.size - 1) = 32
  ·have hsz:(ByteArray.extract t 0 (Int.toNat ((t.size - 1:Nat):Int))).size = t.size - 1:=by
    rw [ByteArray.size_extract,Int.toNat_natCast]
    omega
   obtain ⟨r,h1,h2,-⟩:=ih (ByteArray.extract t 0 (Int.toNat ((t.size - 1:Nat):Int))) (by rw [hsz]; omega) (by omega) f (by omega)
   refine ⟨r,?_,by omega,fun h=>absurd h32 h,fun _ _=>by omega⟩
   show zV (zg zV f) (t,32) = _
   simp only [zV]
   rw [hw,hc,h32,h1,zi (by omega)]
   grind
  ·refine ⟨t,?_,Nat.le_refl _,fun _=>rfl,fun _ h=>absurd h h32⟩
   show zV (zg zV f) (t,32) = _
   simp only [zV]
   rw [hw,hc,zi (by omega),decide_eq_true (by omega)]
   grind
theorem zSc (s:ByteArray) (h:1 ≤ s.size ∧ s.size ≤ 40):∃ r,zhy (s,ByteArray.mk #[32],()) = some (r,()) ∧ (ByteArray.toList r == ByteArray.toList s) = (chr s 0 != 32 && chr s (s.size - 1) != 32):=by
 obtain ⟨r,h1,h2,h3,h4⟩:=zSo s.size s (Nat.le_refl _) (by omega) K0 (zIH (by unfold Go.maxLen; omega))
 obtain ⟨r',h5,h6,h7,h8⟩:=zSn s r.size r (Nat.le_refl _) K0 (zIH (by unfold Go.maxLen; omega))
 refine ⟨r',?_,?_⟩
 ·simp only [zhy]
  have e0:(ByteArray.toList s == ByteArray.toList (ByteArray.mk #[])) = false:=by
   cases he:zpG s with
   | false=>exact he
   | true =>
    unfold zpG at he
    have:=eq_of_beq he
    rw [Go.ByteArray.toList_eq,Go.ByteArray.toList_eq] at this
    have h2:s.size = 0:=by
     rw [← zon,this]; rfl
    omega
  have e1:(ByteArray.toList (ByteArray.mk #[32]) == ByteArray.toList (ByteArray.mk #[])) = false:=by
   rw [Go.ByteArray.toList_eq,Go.ByteArray.toList_eq]; rfl
  have p1:zb6 (s,32,()) = some (r,()):=h1
  have p2:zdJ (r,32,()) = some (r',()):=h5
  have z1:((ByteArray.size (ByteArray.mk #[32]):Nat):Int) = 1:=rfl
  have z2:((UInt8.toNat (List.getD (Array.toList (ByteArray.data (ByteArray.mk #[32]))) (Int.toNat 0) 0):Nat):Int) = 32:=rfl
  rw [e0,e1,z1,z2,p1,Option.bind_some,p2]
  rfl
 ·by_cases hl:chr s (s.size - 1) = 32
  ·have:=h4 h.1 hl
   rw [zD3 r' s (by omega),hl]; simp
  ·obtain rfl:=h3 hl
   by_cases hf:chr r 0 = 32
   ·have:=h8 h.1 hf
    rw [zD3 r' r (by omega),hf]; simp
   ·rw [h7 hf]
    simp [hf,hl]
theorem zr8 (s:ByteArray):zdQ (s,()) = some (zhX s,()):=by
 rw [zB]
 simp only [zdQ]
 unfold zhX
 by_cases hb:1 ≤ s.size ∧ s.size ≤ 40
 ·obtain ⟨r,h1,h2⟩:=zSc s hb
  rw [zDY (by unfold Go.maxLen; omega) zRG,h1,zDX,← h2]
  simp only [Option.bind_some]
  grind
 ·grind
theorem zpH (s:ByteArray):zeC (s,()) = some (zhX s,()):=by
 rw [zB]
 simp only [zeC,zku]
 unfold zhX
 by_cases hb:1 ≤ s.size ∧ s.size ≤ 40
 ·have hw:wI ((s.size:Int) - 1) = ((s.size - 1:Nat):Int):=zhq hb.1 (by unfold Go.maxLen; omega)
  have hc:((UInt8.toNat (List.getD s.data.toList (Int.toNat ((s.size - 1:Nat):Int)) 0):Nat):Int) = chr s (s.size - 1):=by rw [Int.toNat_natCast]; rfl
  have hc0:((UInt8.toNat (List.getD s.data.toList (Int.toNat 0) 0):Nat):Int) = chr s 0:=rfl
  have hloop:zlS K0 (s,0) = bif zW (fun i=>ztC (chr s i)) 0 (s.size - 0) then some (true,()) else some (false,()) :=
   qa (i0:=0) (n:=s.size) (by unfold Go.maxLen; omega) (Nat.zero_le _) (fun i=>(s,i)) (fun k i h1 h2=>by
    simp only [zhE]
    have hc:((UInt8.toNat (List.getD s.data.toList (Int.toNat (i:Int)) 0):Nat):Int) = chr s i:=by rw [Int.toNat_natCast]; rfl
    rw [hc,ltT h2,zi h2,zSm]; rfl) (fun k=>by simp only [zhE]; rw [ltF]; rfl)
  rw [hw,zi (by omega),hc,hc0,hloop]
  grind
 ·grind
def ziL (x:zU):Bool:=bif x.1 then (qX x.2.1 && (qX x.2.2.1 && qX x.2.2.2.1)) && zhX x.2.2.2.2.1 else eqI zz x (ze zz)
theorem zKX (x:zU):zkR (x,()) = some (!ziL x,()):=by
 rw [zB]
 simp only [zkR,zhx,zP2,zr8,Option.bind_some,ziL]
 grind
theorem zKY {l:List zU} (hl:l.length ≤ Go.maxLen):zeZ (l,()) = some (l.all ziL,()):=by
 rw [zB]
 simp only [zeZ]
 rw [zlB (p:=fun x=>!ziL x) hl fun x _=>zKX x,Option.bind_some,← vi]
 cases l.any fun x=>!ziL x <;> rfl
theorem zIa {l:List zU} (hl:l.length ≤ Go.maxLen):zno (l,()) = some (l.all ziL,()):=by
 rw [zB]
 exact jD (B:=zcS) (l:=l) ya (fun i=>(l,i)) hl (fun k i x hi hx _=>by
  simp only [zcS]
  rw [ltT hi]
  simp only [zi hi,zC,hx,zpH,zMM,Option.bind_some,cond_true,ziL]
  grind) (fun k=>by simp only [zcS]; rw [ltF]; rfl)
end Go.Proofs.YtkcakhbkoeimdaaGreatDoor
end
section
namespace Go.Proofs.YtkcakhbkoeimdaaGreatDoor
open Go.Ev
abbrev M62:Int:=4611686018427387904
abbrev U64:Int:=18446744073709551616
def qK (x:Int):Bool:=decide (0 ≤ x ∧ x ≤ 3)
theorem zbS (x:Int):jq (x,()) = some (qK x,()):=by simp only [jq,qK]; grind
def zuB (a b:Int):Int × Int × Unit:=bif decide (a + b > M62) then (0,7,()) else (a + b,0,())
theorem zMO {a b:Int} (ha:0 ≤ a) (hb:0 ≤ b ∧ b < U64):zmk (a,b,()) = some (zuB a b):=by
 simp only [zmk,extA,extB,zuB,cond_true]
 have h0:0 ≤ (a + b) / 18446744073709551616:=by omega
 have h1:((a + b) / 18446744073709551616 != 0) = decide (18446744073709551616 ≤ a + b):=by
  rw [Bool.eq_iff_iff]; simp only [bne_iff_ne,ne_eq,decide_eq_true_eq]; omega
 have h2:a + b < 18446744073709551616→(a + b) % 18446744073709551616 = a + b:=fun h=>by omega
 unfold M62 at *
 unfold U64 at *
 grind
theorem ze9 {a b:Int} (ha:0 ≤ a ∧ a < U64) (hb:0 ≤ b ∧ b < U64):yg (a,b,()) = some (zuB a b):=by
 simp only [yg,zuB]
 unfold M62
 unfold U64 at *
 by_cases h1:a > 4611686018427387904
 ·grind
 ·have hw:wU (4611686018427387904 - a) = 4611686018427387904 - a:=zla (by omega)
  rw [hw]
  by_cases h2:b > 4611686018427387904 - a
  ·grind
  ·have hw:wU (a + b) = a + b:=zla (by omega)
   rw [hw]
   grind
def ztD (a b:Int):Int × Int × Unit:=bif decide (a * b > M62) then (0,7,()) else (a * b,0,())
theorem zSp (a b:Nat) (ha:a < 18446744073709551616) (hb:b < 18446744073709551616):zdZ ((a:Int),(b:Int),()) = some ((((a * b) / 18446744073709551616:Nat):Int),(((a * b) % 18446744073709551616:Nat):Int),()):=by
 have e32:((2:Int) ^ min (Int.toNat 32) (Go.IntKind.bits .u64)) = 4294967296:=rfl
 have hand:∀ x:Nat,x < 18446744073709551616→wU (BitVec.toNat (BitVec.ofInt (Go.IntKind.bits .u64) (x:Int) &&& BitVec.ofInt (Go.IntKind.bits .u64) 4294967295):Int) = ((x % 4294967296:Nat):Int):=fun x hx=>by
  have h1:BitVec.ofInt (Go.IntKind.bits .u64) 4294967295 = BitVec.ofNat 64 4294967295:=rfl
  rw [zm3,h1]
  have h2:(BitVec.ofNat 64 x &&& BitVec.ofNat 64 4294967295).toNat = x % 4294967296:=by
   rw [BitVec.toNat_and,BitVec.toNat_ofNat,BitVec.toNat_ofNat,Nat.mod_eq_of_lt (show x < 2 ^ 64 by omega)]
   exact Nat.and_two_pow_sub_one_eq_mod x 32
  have h3:((BitVec.ofNat 64 x &&& BitVec.ofNat 64 4294967295:BitVec (Go.IntKind.bits .u64)).toNat:Int) = ((x % 4294967296:Nat):Int):=congrArg _ h2
  exact (congrArg wU h3).trans (zla (by omega))
 have hdiv:∀ x:Nat,Int.fdiv (x:Int) 4294967296 = ((x / 4294967296:Nat):Int):=fun x=>by
  rw [Int.fdiv_eq_ediv_of_nonneg _ (by omega)]; rfl
 have hw:∀ x:Nat,x < 18446744073709551616→wU (x:Int) = (x:Int):=fun x hx=>zla (by omega)
 have hmod:wU ((a:Int) * (b:Int)) = (((a * b) % 18446744073709551616:Nat):Int):=by
  rw [show ((a:Int) * (b:Int)) = ((a * b:Nat):Int) by simp]
  show ((a * b:Nat):Int) % ((2 ^ 64:Nat):Int) = _
  rfl
 simp only [zdZ,e32]
 have ha1:a / 4294967296 ≤ 4294967295:=by omega
 have ha0:a % 4294967296 ≤ 4294967295:=by omega
 have hb1:b / 4294967296 ≤ 4294967295:=by omega
 have hb0:b % 4294967296 ≤ 4294967295:=by omega
 have hp:=Nat.mul_le_mul ha1 hb1
 have hq:=Nat.mul_le_mul ha1 hb0
 have hr:=Nat.mul_le_mul ha0 hb1
 have hs:=Nat.mul_le_mul ha0 hb0
 have hab:a * b = (a / 4294967296 * (b / 4294967296)) * 18446744073709551616 + (a / 4294967296 * (b % 4294967296) + a % 4294967296 * (b / 4294967296)) * 4294967296 + a % 4294967296 * (b % 4294967296):=by
  conv=>lhs; rw [← Nat.div_add_mod a 4294967296,← Nat.div_add_mod b 4294967296]
  grind
 rw [hmod,hab,hand a ha,hand b hb,hdiv a,hdiv b]
 generalize a / 4294967296 = a1 at *
 generalize a % 4294967296 = a0 at *
 generalize b / 4294967296 = b1 at *
 generalize b % 4294967296 = b0 at *
 simp only [← Int.natCast_mul]
 generalize a1 * b1 = p at *
 generalize a1 * b0 = q at *
 generalize a0 * b1 = r at *
 generalize a0 * b0 = s at *
 rw [hw p (by omega),hw q (by omega),hw r (by omega),hw s (by omega),hdiv s]
 simp only [← Int.natCast_add]
 rw [hw (q + s / 4294967296) (by omega),hdiv (q + s / 4294967296),hand _ (by omega)]
 simp only [← Int.natCast_add]
 rw [hw (p + (q + s / 4294967296) / 4294967296) (by omega),hw ((q + s / 4294967296) % 4294967296 + r) (by omega),hdiv]
 simp only [← Int.natCast_add]
 rw [hw _ (by omega)]
 have:p + (q + s / 4294967296) / 4294967296 + ((q + s / 4294967296) % 4294967296 + r) / 4294967296 = (p * 18446744073709551616 + (q + r) * 4294967296 + s) / 18446744073709551616:=by omega
 rw [this]
theorem zKZ {a b:Int} (ha:0 ≤ a ∧ a < U64) (hb:0 ≤ b ∧ b < U64):zg4 (a,b,()) = some (ztD a b):=by
 obtain ⟨m,rfl⟩:=Int.eq_ofNat_of_zero_le ha.1
 obtain ⟨n,rfl⟩:=Int.eq_ofNat_of_zero_le hb.1
 unfold U64 at *
 simp only [zg4]
 rw [zSp m n (by omega) (by omega),Option.bind_some]
 unfold ztD M62
 have e:((m:Int) * (n:Int)) = ((m * n:Nat):Int):=by simp
 rw [e]
 generalize m * n = p
 by_cases h:p < 18446744073709551616
 ·have h1:p / 18446744073709551616 = 0:=by omega
  have h2:p % 18446744073709551616 = p:=by omega
  simp only [h1,h2]
  grind
 ·have h1:(((p / 18446744073709551616:Nat):Int) != 0) = true:=by simp only [bne_iff_ne,ne_eq]; omega
  simp only [h1]
  grind
theorem zIb {a b:Int} (ha:0 ≤ a ∧ a < U64) (hb:0 ≤ b ∧ b < U64):ziZ (a,b,()) = some (ztD a b):=by
 obtain ⟨m,rfl⟩:=Int.eq_ofNat_of_zero_le ha.1
 obtain ⟨n,rfl⟩:=Int.eq_ofNat_of_zero_le hb.1
 unfold U64 at *
 simp only [ziZ,ztD]
 unfold M62
 by_cases h0:m = 0
 ·subst h0
  simp only [Int.natCast_zero,Int.zero_mul]
  rfl
 ·have e:((m:Int) * (n:Int)) = ((m * n:Nat):Int):=by simp
  have hd:Int.tdiv 4611686018427387904 (m:Int) = ((4611686018427387904 / m:Nat):Int):=rfl
  have hle:4611686018427387904 / m ≤ 4611686018427387904:=Nat.div_le_self _ _
  have h1:4611686018427387904 / m < n ↔ 4611686018427387904 < m * n:=by
   have:=Nat.div_lt_iff_lt_mul (x:=4611686018427387904) (y:=n) (k:=m) (by omega)
   rw [Nat.mul_comm] at this
   exact this
  rw [hd]
  generalize 4611686018427387904 / m = q at *
  have hw:wU ((q:Nat):Int) = (q:Int):=zla (by omega)
  have b1:(((m:Nat):Int) != 0) = true:=by simp only [bne_iff_ne,ne_eq]; omega
  have b2:(((m:Nat):Int) == 0) = false:=by simp only [beq_eq_false_iff_ne,ne_eq]; omega
  rw [hw,b1,b2,e]
  by_cases h2:m * n > 4611686018427387904
  ·have:=h1.2 h2
   rw [decide_eq_true (by omega),decide_eq_true (by omega)]
   rfl
  ·have h3:¬ q < n:=fun h=>h2 (h1.1 h)
   have hw2:wU ((m * n:Nat):Int) = ((m * n:Nat):Int):=zla (by omega)
   rw [decide_eq_false (by omega),decide_eq_false (by omega),hw2]
   rfl
def zl1:Int→List Int→Int × Int × Unit
 | a,[]=>(a,0,())
 | a,x :: l=>bif decide (a + x > M62) then (0,7,()) else zl1 (a + x) l
theorem j4 {σ α β ρ:Type} {B:(σ→Option ρ)→σ→Option ρ} {l:List β} (d:β) (I:Nat→α→Prop) (st:Int→α→σ) (G:List β→α→Option ρ) (hl:l.length ≤ Go.maxLen)
 (hin:∀ k (i:Nat) x rest s,i < l.length→I i s→l.getD i d = x→x ∈ l→l.drop (i + 1) = rest→(∀ s',I (i + 1) s'→k (st (wI (i + 1)) s') = G rest s')→B k (st i s) = G (x :: rest) s) (hout:∀ k s,I l.length s→B k (st l.length s) = G [] s) (s:α) (h0:I 0 s):zg B K0 (st 0 s) = G l s:=by
 have:=yQ (B:=B) hl st (fun i s=>G (l.drop i) s) I (fun k i s hi hI h=>?_) (fun k s hI=>?_) s h0
 ·simpa using this
 ·rw [zcm d hi]
  exact hin k i _ _ s hi hI rfl (zH hi) rfl fun s' hI'=>h s' hI'
 ·rw [hout _ _ hI,List.drop_of_length_le (Nat.le_refl _)]
theorem zog {l:List Int} (hl:l.length ≤ Go.maxLen) (h:∀ x ∈ l,0 ≤ x ∧ x < U64):zhz (l,()) = some (zl1 0 l) :=
 j4 (B:=zg6) (l:=l) (α:=Int) (0:Int) (fun _ s=>0 ≤ s) (fun i s=>(s,l,(l.length:Int),i)) (fun rest s=>some (zl1 s rest)) hl (fun k i x rest s hi hI hx hm hr hk=>by
  simp only [zg6]
  have hxx:=h x hm
  rw [ltT hi,zi hi,zC,hx,zMO hI hxx]
  simp only [cond_true,Option.bind_some,zuB,zl1]
  by_cases hb:s + x > M62
  ·rw [decide_eq_true hb]; rfl
  ·rw [decide_eq_false hb]
   exact hk (s + x) (by omega)) (fun k s _=>by simp only [zg6]; rw [ltF]; rfl) 0 (Int.le_refl 0)
def zpI (a b:zt):Bool:=decide (a.1 ≤ b.1) && (List.range' 0 64).all fun i=>!j3 a.2.1 i || j3 b.2.1 i
def zpJ (a:zt):Prop:=0 ≤ a.2.1 ∧ a.2.1 < U64
theorem zAb {a b:zt} (ha:zpJ a) (hb:zpJ b):zix (a,b,()) = some (zpI a b,()):=by
 rw [zB]
 simp only [zix]
 unfold zpI
 unfold zpJ U64 at *
 obtain ⟨m,hm⟩:=Int.eq_ofNat_of_zero_le ha.1
 obtain ⟨n,hn⟩:=Int.eq_ofNat_of_zero_le hb.1
 have h1:=zAa m n (by omega) (by omega)
 unfold zhU at h1
 have h2:(wU (BitVec.toNat (BitVec.ofInt (Go.IntKind.bits .u64) (a.2.1:Int) &&& ~~~BitVec.ofInt (Go.IntKind.bits .u64) (b.2.1:Int)):Int) == 0) = (List.range' 0 64).all fun i=>!j3 a.2.1 i || j3 b.2.1 i:=by
  rw [hm,hn]
  have h3:∀ z:Int,(z != 0) = !(z == 0):=fun z=>rfl
  rw [h3] at h1
  have h4:=congrArg (!·) h1
  simp only [Bool.not_not] at h4
  exact h4
 rw [h2]
 grind
theorem zMP {a b:zt} (ha:zpJ a) (hb:zpJ b):zr1 (a,b,()) = some (zpI a b,()):=by
 rw [zB]
 unfold zpI
 unfold zpJ U64 at *
 have hr:List.range 64 = List.range' 0 64:=List.range_eq_range'
 rw [← hr]
 have hloop:=zGx (B:=zfW) (n:=64) (by unfold Go.maxLen; omega) (p:=fun i=>!j3 a.2.1 i || j3 b.2.1 i) (fin:=bif decide (a.1 ≤ b.1) then some (true,()) else some (false,())) (bad:=some (false,())) (fun i=>(i,a,b)) (fun k i hi=>by
  simp only [zfW]
  rw [decide_eq_true (by omega),ziK _ _ ha.1 (by omega),ziK _ _ hb.1 (by omega),Int.toNat_natCast]
  simp only [cond_true,Option.bind_some]
  grind) (fun k=>by simp only [zfW]; rfl)
 refine hloop.trans ?_
 grind
theorem zD4 (x:Int):zht (x,()) = some (qX x,()):=by simp only [zht,qX]; grind
theorem zMQ (x:Int):ju (x,()) = some (qX x,()):=by simp only [ju,qX]; grind
def ziM (x:zj2):Bool:=qK x.1 && (decide (x.2.1 ≤ M62) && decide (-1 ≤ x.2.2.1 ∧ x.2.2.1 ≤ 127))
theorem zMR (x:zj2):ziF (x,()) = some (ziM x,()):=by
 rw [zB]
 simp only [ziF,zbS,zD4,Option.bind_some,ziM,qX]
 unfold M62
 grind
theorem zMS (x:zj2):jw (x,()) = some (ziM x,()):=by
 rw [zB]
 simp only [jw,ziM,qK]
 unfold M62
 grind
def zrn (x:zj2):Bool:=(x.2.1:Int) == 0 && (x.2.2.1:Int) == -1
theorem zK0 (x:zj2):zg1 (x,()) = some (zrn x,()):=by
 rw [zB]
 simp only [zg1,zrn]
 have h:eqI zdY x (x.1,(ze zdY).2.1,-1,(ze zdY).2.2.2) = ((x.2.1:Int) == 0 && (x.2.2.1:Int) == -1):=by
  show cond ((x.1:Int) == x.1) (cond ((x.2.1:Int) == 0) (cond ((x.2.2.1:Int) == -1) true false) false) false = _
  rw [beq_self_eq_true]
  cases ((x.2.1:Int) == 0) <;> cases ((x.2.2.1:Int) == -1) <;> rfl
 rw [h]
def zpK (x:zu):Bool:=(qX x.2.1 && (qX x.2.2.1 && (x.2.1:Int) != x.2.2.1)) && ((ziM x.2.2.2.1 && ziM x.2.2.2.2.1) && !(zrn x.2.2.2.1 && zrn x.2.2.2.2.1))
def zhY (x:zu):Prop:=(0 ≤ x.2.2.2.1.2.1 ∧ x.2.2.2.1.2.1 < U64) ∧ (0 ≤ x.2.2.2.2.1.2.1 ∧ x.2.2.2.2.1.2.1 < U64)
theorem zMT (x:zu):zmp (x,()) = some (zpK x,()):=by
 rw [zB]
 simp only [zmp,zD4,zMR,zK0,Option.bind_some,zpK]
 grind
theorem zK1 {x:zu} (h:zhY x):zkv (x,()) = some (zpK x,()):=by
 rw [zB]
 simp only [zkv,zMQ,zMS,Option.bind_some,zpK]
 have h1:ziM x.2.2.2.1 = true→zrn x.2.2.2.1 = !(decide (x.2.2.2.1.2.1 > 0) || decide (x.2.2.2.1.2.2.1 ≥ 0)):=fun hp=>by
  unfold ziM at hp; unfold zrn; unfold zhY at h; grind
 have h2:ziM x.2.2.2.2.1 = true→zrn x.2.2.2.2.1 = !(decide (x.2.2.2.2.1.2.1 > 0) || decide (x.2.2.2.2.1.2.2.1 ≥ 0)):=fun hp=>by
  unfold ziM at hp; unfold zrn; unfold zhY at h; grind
 generalize decide (x.2.2.2.1.2.1 > 0) = c1 at *
 generalize decide (x.2.2.2.1.2.2.1 ≥ 0) = c2 at *
 generalize decide (x.2.2.2.2.1.2.1 > 0) = c3 at *
 generalize decide (x.2.2.2.2.1.2.2.1 ≥ 0) = c4 at *
 cases c1 <;> cases c2 <;> cases c3 <;> cases c4 <;> grind
def zhZ (x:zu):Bool:=bif x.1 then zpK x else eqI zw x (ze zw)
theorem zD5 (x:zu):zgC (x,()) = some (!zhZ x,()):=by
 rw [zB]
 simp only [zgC,zMT,Option.bind_some,zhZ]
 grind
theorem zIc {l:List zu} (hl:l.length ≤ Go.maxLen):zi7 (l,()) = some (l.all zhZ,()):=by
 rw [zB]
 simp only [zi7]
 rw [zk6 (p:=fun x=>!zhZ x) hl fun x _=>zD5 x,Option.bind_some,← vi]
 cases l.any fun x=>!zhZ x <;> rfl
theorem zId {l:List zu} (hl:l.length ≤ Go.maxLen) (h:∀ x ∈ l,zhY x):znq (l,()) = some (l.all zhZ,()):=by
 rw [zB]
 exact jD (B:=zcU) (l:=l) zY (fun i=>(l,i)) hl (fun k i x hi hx hm=>by
  simp only [zcU]
  rw [ltT hi]
  simp only [zi hi,zC,hx,zK1 (h x hm),Option.bind_some,cond_true,zhZ]
  grind) (fun k=>by simp only [zcU]; rw [ltF]; rfl)
end Go.Proofs.YtkcakhbkoeimdaaGreatDoor
end
section
namespace Go.Proofs.YtkcakhbkoeimdaaGreatDoor
open Go.Ev
theorem zl2 {α:Type} {p:α→Bool} {x:α} {l:List α}:(x :: l).filter p = bif p x then x :: l.filter p else l.filter p:=by
 rw [List.filter_cons]; cases p x <;> rfl
def qR {α:Type} (p:α→Bool):Nat→List α→List Int
 | _,[]=>[]
 | i,x :: l=>bif p x then (i:Int) :: qR p (i + 1) l else qR p (i + 1) l
theorem zoh {α:Type} {p:α→Bool}:∀ (l:List α) (i:Nat),(qR p i l).length ≤ l.length
 | [],_=>Nat.le_refl _
 | x :: l,i=>by
  have:=zoh (p:=p) l (i + 1)
  simp only [qR,List.length_cons]
  cases p x <;> simp <;> omega
theorem zoi {α:Type} {p:α→Bool}:∀ (l:List α) (i:Nat),∀ z ∈ qR p i l,∃ j:Nat,z = (j:Int) ∧ i ≤ j ∧ j < i + l.length
 | [],i,z,h=>by cases h
 | x :: l,i,z,h=>by
  simp only [qR] at h
  have ih:=zoi (p:=p) l (i + 1)
  cases hp:p x with
  | true =>
   rw [hp,cond_true] at h
   rcases List.mem_cons.1 h with rfl | h
   ·exact ⟨i,rfl,Nat.le_refl _,by simp⟩
   ·obtain ⟨j,h1,h2,h3⟩:=ih z h
    exact ⟨j,h1,by omega,by simp; omega⟩
  | false =>
   rw [hp,cond_false] at h
   obtain ⟨j,h1,h2,h3⟩:=ih z h
   exact ⟨j,h1,by omega,by simp; omega⟩
theorem znI {α β:Type} {p q:α→Bool} {g:α→β} (d:α) (L:List α):∀ (l:List α) (i:Nat),(∀ j,j < l.length→L.getD (i + j) d = l.getD j d)→((qR p i l).filter fun z=>q (L.getD z.toNat d)).map (fun z=>g (L.getD z.toNat d)) = (l.filter fun x=>p x && q x).map g
 | [],_,_=>rfl
 | x :: l,i,h=>by
  have ih:=znI (p:=p) (q:=q) (g:=g) d L l (i + 1) fun j hj=>by
   have:=h (j + 1) (by simp; omega)
   rw [show i + 1 + j = i + (j + 1) by omega,this]; rfl
  have h0:L.getD i d = x:=h 0 (by simp)
  simp only [qR,zl2]
  cases hp:p x with
  | false=>simp only [cond_false,Bool.false_and]; exact ih
  | true =>
   simp only [cond_true,Bool.true_and,zl2,Int.toNat_natCast,h0]
   cases hq:q x with
   | false=>exact ih
   | true=>simp only [cond_true,List.map_cons,Int.toNat_natCast,h0,ih]
theorem zyi {l:List zu} {g:zu × Unit→Option (Bool × Unit)}:zfw (some (l,some g,()),()) = some (true,()):=rfl
theorem zAc {l:List zu} {g:zu × Unit→Option (Bool × Unit)} {p:zu→Bool} (hg:∀ x,g (x,()) = some (p x,())) {i:Nat} (hi:i < l.length):yi (some (l,some g,()),(i:Int),()) = some (p (l.getD i zY),()):=by
 rw [zB]
 simp only [yi,zyi,Option.bind_some,cond_true]
 rw [decide_eq_true (by omega),ltT hi,zi hi,zC,hg]
 simp only [cond_true,Option.bind_some]
theorem zvY {l:List zu} {g:zu × Unit→Option (Bool × Unit)} {p:zu→Bool} (hl:l.length ≤ lim) (hg:∀ x,g (x,()) = some (p x,())):zd5 (some (l,some g,()),()) = some (qR p 0 l,()):=by
 have hl':l.length ≤ Go.maxLen:=by unfold lim at hl; unfold Go.maxLen; omega
 have:=yQ (B:=yM) (α:=List Int) hl' (fun i o=>(some (l,some g,()),(l.length:Int),i,o)) (fun i o=>some (o ++ qR p i (l.drop i),())) (fun i o=>o.length ≤ i) (fun k i o hi hI hk=>by
  simp only [yM]
  rw [ltT hi,zAc hg hi,zfl,zcm zY hi]
  simp only [cond_true,Option.bind_some,qR]
  rw [decide_eq_true (by simp; omega)]
  cases hp:p (l.getD i zY) with
  | false =>
   simp only [cond_false]
   exact hk o (by omega)
  | true =>
   simp only [cond_true]
   rw [hk _ (by simp; omega)]
   simp) (fun k o _=>by
  simp only [yM]
  rw [ltF,List.drop_of_length_le (Nat.le_refl _)]
  simp [qR]) [] (Nat.le_refl _)
 refine Eq.trans ?_ (this.trans ?_)
 ·rfl
 ·simp
theorem zK2 {l:List zr} {g:zr × Unit→Option (Bool × Unit)}:zfx (some (l,some g,()),()) = some (true,()):=rfl
theorem zMU {l:List zr} {g:zr × Unit→Option (Bool × Unit)} {p:zr→Bool} (hg:∀ x,g (x,()) = some (p x,())) {i:Nat} (hi:i < l.length):zgy (some (l,some g,()),(i:Int),()) = some (p (l.getD i zK),()):=by
 rw [zB]
 simp only [zgy,zK2,Option.bind_some,cond_true]
 rw [decide_eq_true (by omega),ltT hi,zi hi,zC,hg]
 simp only [cond_true,Option.bind_some]
theorem zIe {l:List zr} {g:zr × Unit→Option (Bool × Unit)} {p:zr→Bool} (hl:l.length ≤ lim) (hg:∀ x,g (x,()) = some (p x,())):zij (some (l,some g,()),()) = some (qR p 0 l,()):=by
 have hl':l.length ≤ Go.maxLen:=by unfold lim at hl; unfold Go.maxLen; omega
 have:=yQ (B:=yO) (α:=List Int) hl' (fun i o=>(some (l,some g,()),(l.length:Int),i,o)) (fun i o=>some (o ++ qR p i (l.drop i),())) (fun i o=>o.length ≤ i) (fun k i o hi hI hk=>by
  simp only [yO]
  rw [ltT hi,zMU hg hi,zfl,zcm zK hi]
  simp only [cond_true,Option.bind_some,qR]
  rw [decide_eq_true (by simp; omega)]
  cases hp:p (l.getD i zK) with
  | false =>
   simp only [cond_false]
   exact hk o (by omega)
  | true =>
   simp only [cond_true]
   rw [hk _ (by simp; omega)]
   simp) (fun k o _=>by
  simp only [yO]
  rw [ltF,List.drop_of_length_le (Nat.le_refl _)]
  simp [qR]) [] (Nat.le_refl _)
 refine Eq.trans ?_ (this.trans ?_)
 ·rfl
 ·simp
def zjS (l:List zu) (c:Int):Int × Int × Unit:=bif qK c then zl1 0 ((l.filter fun x=>x.1 && (x.2.2.2.1.1:Int) == c).map fun x=>x.2.2.2.1.2.1) else (0,1,())
theorem zMV (l:List zu) (hl:l.length ≤ lim):zmq (l,()) = some (some (l,some ziU,()),()):=by
 simp only [zmq,yT,zvT hl,Option.bind_some]
 rfl
theorem zIf (x:zu):ziU (x,()) = some (x.1,()):=by
 rw [zB]; rfl
theorem zK3 {l:List zu} (hl:l.length ≤ lim) (h:∀ x ∈ l,zhY x) (c:Int):zkO (l,c,()) = some (zjS l c):=by
 have hl':l.length ≤ Go.maxLen:=by unfold lim at hl; unfold Go.maxLen; omega
 simp only [zkO,zkN,zbS,Option.bind_some]
 unfold zjS
 cases hc:qK c with
 | false=>rfl
 | true =>
  simp only [cond_true]
  rw [zMV l hl,Option.bind_some,zvY hl zIf,Option.bind_some]
  have hsl:=zoh (p:=fun x:zu=>x.1) l 0
  have hsm:=zoi (p:=fun x:zu=>x.1) l 0
  have hloop:=j4 (B:=zeU) (l:=qR (fun x:zu=>x.1) 0 l) (α:=List Int) (0:Int) (fun i o=>o.length ≤ i ∧ ∀ x ∈ o,0 ≤ x ∧ x < U64) (fun i o=>(l,c,qR (fun x:zu=>x.1) 0 l,((qR (fun x:zu=>x.1) 0 l).length:Int),i,o))
   (fun rest o=>some (zl1 0 (o ++ (rest.filter fun z=>((l.getD z.toNat zY).2.2.2.1.1:Int) == c).map fun z=>(l.getD z.toNat zY).2.2.2.1.2.1))) (by omega) (fun k i x rest o hi hI hx hm hr hk=>by
    simp only [zeU]
    obtain ⟨j,rfl,-,hj⟩:=hsm x hm
    rw [ltT hi,zi hi,zC,hx,zi (by omega),zi (by omega),Int.toNat_natCast,zfl]
    have hxx:=(h (l.getD j zY) (zH (by omega))).1
    simp only [cond_true,zl2,Int.toNat_natCast]
    rw [decide_eq_true (by simp; omega)]
    simp only [cond_true]
    cases hq:((l.getD j zY).2.2.2.1.1:Int) == c with
    | false =>
     exact hk o ⟨by omega,hI.2⟩
    | true =>
     simp only [cond_true,List.map_cons,Int.toNat_natCast]
     refine (hk _ ⟨by simp; omega,fun x hx=>?_⟩).trans ?_
     ·rcases List.mem_append.1 hx with hx | hx
      ·exact hI.2 x hx
      ·rcases List.mem_singleton.1 hx with rfl
       exact hxx
     ·rw [List.append_assoc]; rfl) (fun k o hI=>by
    simp only [zeU]
    rw [ltF]
    simp only [cond_false]
    rw [zog (by omega) hI.2,List.filter_nil,List.map_nil,List.append_nil]
    rfl) [] ⟨Nat.le_refl _,fun x hx=>by cases hx⟩
  refine hloop.trans ?_
  rw [List.nil_append,znI (q:=fun x:zu=>(x.2.2.2.1.1:Int) == c) (g:=fun x:zu=>x.2.2.2.1.2.1) zY l l 0 fun j _=>by rw [Nat.zero_add]]
theorem zK4 {l:List zu} (hl:l.length ≤ Go.maxLen) (h:∀ x ∈ l,zhY x) (c:Int):zkA (l,c,()) = some (zjS l c):=by
 simp only [zkA,zkz]
 unfold zjS
 cases hc:qK c with
 | false=>unfold qK at hc; grind
 | true =>
  have hloop:=j4 (B:=zeG) (l:=l) (α:=Int) zY (fun _ s=>0 ≤ s ∧ s ≤ M62) (fun i s=>(l,c,s,i)) (fun rest s=>some (zl1 s ((rest.filter fun x=>x.1 && (x.2.2.2.1.1:Int) == c).map fun x=>x.2.2.2.1.2.1))) hl (fun k i x rest s hi hI hx hm hr hk=>by
   simp only [zeG]
   have hxx:=(h x hm).1
   rw [ltT hi]
   simp only [zi hi,zC,hx,cond_true,zl2]
   unfold M62 at *
   unfold U64 at *
   rw [ze9 (by unfold U64; omega) (by unfold U64; omega)]
   cases hl:x.1 with
   | false=>exact hk s hI
   | true =>
    cases hq:(x.2.2.2.1.1:Int) == c with
    | false=>exact hk s hI
    | true =>
     simp only [cond_true,Option.bind_some,zuB,Bool.and_self,List.map_cons,zl1]
     unfold M62
     by_cases hb:s + x.2.2.2.1.2.1 > 4611686018427387904
     ·rw [decide_eq_true hb]; rfl
     ·rw [decide_eq_false hb]
      exact hk (s + x.2.2.2.1.2.1) (by omega)) (fun k s _=>by simp only [zeG]; rw [ltF]; rfl) 0 (by unfold M62; omega)
  refine Eq.trans ?_ hloop
  unfold qK at hc
  grind
end Go.Proofs.YtkcakhbkoeimdaaGreatDoor
end
section
namespace Go.Proofs.YtkcakhbkoeimdaaGreatDoor
open Go.Ev
def zyj (x:Int):Bool:=decide (0 ≤ x ∧ x ≤ 2)
theorem zFV (x:Int):za7 (x,()) = some (!zyj x,()):=by simp only [za7,zyj]; grind
def zpL (r:za) (i:Nat) (row:List Int):Bool:=decide (row.length = r.2.2.1.length) && (row.all zyj && row.getD (Int.toNat (r.2.2.2.1.getD i zD).2.1) (0:Int) == 2)
def vT (r:za) (l:List (List Int)):Bool:=decide (l.length = r.2.2.2.1.length) && zW (fun i=>zpL r i (l.getD i [])) 0 (l.length - 0)
structure zh0 (r:za):Prop where
 labels:1 ≤ r.1.length ∧ r.1.length ≤ 8
 lines:1 ≤ r.2.1.length ∧ r.2.1.length ≤ 8
 accounts:1 ≤ r.2.2.1.length ∧ r.2.2.1.length ≤ 8
 guilds:r.2.2.2.1.length ≤ 8
 quotas:r.2.2.2.2.1.length = r.1.length
 heads:∀ i,i < r.2.2.2.1.length→0 ≤ (r.2.2.2.1.getD i zD).2.1 ∧ (r.2.2.2.1.getD i zD).2.1 < (r.2.2.1.length:Int)
theorem qG {r:za} (h:z4 r = true):zh0 r:=by
 simp only [z4,Bool.and_eq_true] at h
 obtain ⟨h1,h2,h3,h4,h5,-⟩:=h
 simp only [jZ,zk8,zfe,zhV,zhT,zT,Bool.and_eq_true,decide_eq_true_eq,zD1,qo] at h1 h2 h3 h4 h5
 refine ⟨by omega,by omega,by omega,h4.1,by omega,fun i hi=>?_⟩
 have:=h4.2.1 i (by omega) (by omega)
 simp only [zyg,zT,Bool.and_eq_true,decide_eq_true_eq] at this
 omega
theorem ixR {n:Nat} {x:Int} {ρ:Type} {y:Option ρ} (h:0 ≤ x ∧ x < (n:Int)):inR x (n:Int) y = y:=zPP h.1 h.2
theorem zpM {r:za} (hr:zR r) (l:List (List Int)):ze4 (r,l,()) = some (z4 r && vT r l,()):=by
 rw [zB]
 simp only [ze4,zk1,zf9 r hr,Option.bind_some]
 cases hb:z4 r with
 | false=>rfl
 | true =>
  have ok:=qG hb
  rw [ziR]
  unfold vT
  by_cases hn:l.length = r.2.2.2.1.length
  ·have hg:=ok.guilds
   have hloop:zlZ K0 (some za7,l,(l.length:Int),0,r) = bif zW (fun i=>zpL r i (l.getD i [])) 0 (l.length - 0) then some (true,()) else some (false,()) :=
    qa (i0:=0) (n:=l.length) (by unfold Go.maxLen; omega) (Nat.zero_le _) (fun i=>(some za7,l,(l.length:Int),i,r)) (fun k i h1 h2=>by
     simp only [zhN]
     rw [ltT h2,zi h2,Int.toNat_natCast,ziR]
     unfold zpL
     by_cases hm:(l.getD i []).length = r.2.2.1.length
     ·have ha:=ok.accounts
      have hh:=ok.heads i (by omega)
      rw [zal (p:=fun x=>!zyj x) (l:=l.getD i []) (by unfold Go.maxLen; omega) fun x _=>zFV x,zi (by omega),zC,ixR (by rw [hm]; exact hh)]
      have:=vi (l:=l.getD i []) (p:=zyj)
      simp only [Option.bind_some,cond_true]
      grind
     ·grind) (fun k=>by simp only [zhN]; rw [ltF]; rfl)
   rw [hloop]
   grind
  ·grind
theorem zvZ {r:za} (hr:zR r) (l:List (List Int)):zfZ (r,l,()) = some (z4 r && vT r l,()):=by
 rw [zB]
 simp only [zfZ,zi4,zvW r hr,Option.bind_some]
 cases hb:z4 r with
 | false=>rfl
 | true =>
  have ok:=qG hb
  rw [ziR]
  unfold vT
  by_cases hn:l.length = r.2.2.2.1.length
  ·have hg:=ok.guilds
   have ha:=ok.accounts
   have inner:∀ k0 (i:Nat),i < l.length→(l.getD i []).length = r.2.2.1.length→zgE K0 k0 (l,(i:Int),0,r) = bif (l.getD i []).all zyj then k0 (l,wI ((i:Int) + 1),r) else some (false,()):=fun k0 i hi hm =>
    jD (l:=l.getD i []) (0:Int) (fun j=>(l,(i:Int),j,r)) (by unfold Go.maxLen; omega) (fun k j x h1 h2 _=>by
     simp only [zgD]
     have h2':List.getD (l.getD i []) j (0:Int) = x:=h2
     simp only [zi hi,Int.toNat_natCast,ltT h1,zi h1,h2',cond_true,zyj]
     grind) (fun k=>by
     simp only [zgD]
     simp only [zi hi,Int.toNat_natCast]
     rw [ltF]; rfl)
   have hloop:zkQ K0 (l,0,r) = bif zW (fun i=>zpL r i (l.getD i [])) 0 (l.length - 0) then some (true,()) else some (false,()) :=
    qa (i0:=0) (n:=l.length) (by unfold Go.maxLen; omega) (Nat.zero_le _) (fun i=>(l,i,r)) (fun k i h1 h2=>by
     simp only [zc1]
     rw [ltT h2]
     simp only [zi h2,Int.toNat_natCast]
     rw [ziR]
     unfold zpL
     by_cases hm:(l.getD i []).length = r.2.2.1.length
     ·have hh:=ok.heads i (by omega)
      have hi:=inner k i h2 hm
      rw [zi (by omega),zC,ixR (by rw [hm]; exact hh),hi]
      simp only [cond_true]
      grind
     ·grind) (fun k=>by simp only [zc1]; rw [ltF]; rfl)
   rw [hloop]
   grind
  ·grind
theorem zP4 (x:Int):zmO (x,()) = some (qX x,()):=by simp only [zmO,qX]; grind
theorem zMW (x:Int):ziy (x,()) = some (qX x,()):=by simp only [ziy,qX]; grind
theorem zOK (x:Int):zfs (x,()) = some (qX x,()):=by simp only [zfs,qX]; grind
theorem zMX (x:Int):zdN (x,()) = some (qX x,()):=by simp only [zdN,qX]; grind
def zlc (k a b:Int):Int × Int × Unit:=bif (k != 1 && k != 2) || (a == 0 || b == 0) then (0,1,()) else bif decide (a * b > M62) then (0,7,()) else bif k == 2 then (a,0,()) else (a * b,0,())
theorem zAd {k a b:Int} (ha:0 ≤ a ∧ a < U64) (hb:0 ≤ b ∧ b < U64):ziI (k,a,b,()) = some (zlc k a b):=by
 simp only [ziI,zKZ ha hb,Option.bind_some,ztD,zlc]
 generalize a * b = p
 cases h:decide (p > M62) <;> simp only [cond_true,cond_false] <;> grind
theorem zyk {k a b:Int} (ha:0 ≤ a ∧ a < U64) (hb:0 ≤ b ∧ b < U64):zg8 (k,a,b,()) = some (zlc k a b):=by
 simp only [zg8,zIb ha hb,Option.bind_some,ztD,zlc]
 generalize a * b = p
 cases h:decide (p > M62) <;> simp only [cond_true,cond_false] <;> grind
def zgO (x:Int):Prop:=0 ≤ x ∧ x < U64
structure zh1 (x:zr):Prop where
 amount:zgO x.2.2.2.2.2.2.1
 price:zgO x.2.2.2.2.2.2.2.1
 held:zgO x.2.2.2.2.2.2.2.2.1
def zjB (x:zr):Bool:=((zlc x.2.2.2.1 x.2.2.2.2.2.2.2.1 x.2.2.2.2.2.2.1).2.1 == 0 && (zlc x.2.2.2.1 x.2.2.2.2.2.2.2.1 x.2.2.2.2.2.2.1).1 == x.2.2.2.2.2.2.2.2.1) && ((qX x.2.1 && qX x.2.2.1) && ((qK x.2.2.2.2.1 && qK x.2.2.2.2.2.1) && ((x.2.2.2.2.1:Int) != x.2.2.2.2.2.1 && decide (0 ≤ x.2.2.2.2.2.2.2.2.2.1))))
theorem zOL {x:zr} (h:zh1 x):zod (x,()) = some (zjB x,()):=by
 rw [zB]
 simp only [zod,zAd h.price h.amount,zP4,zbS,Option.bind_some,zjB]
 generalize zlc x.2.2.2.1 x.2.2.2.2.2.2.2.1 x.2.2.2.2.2.2.1 = n
 grind
theorem zMY {x:zr} (h:zh1 x):ziJ (x,()) = some (zjB x,()):=by
 rw [zB]
 simp only [ziJ,zyk h.price h.amount,zMW,Option.bind_some,zjB]
 generalize zlc x.2.2.2.1 x.2.2.2.2.2.2.2.1 x.2.2.2.2.2.2.1 = n
 unfold qK
 grind
def zl3 (x:zr):Bool:=bif x.1 then zjB x else eqI zq x (ze zq)
def zr9 (l:List zr):List Int:=(l.filter fun x=>x.1).map fun x=>x.2.2.2.2.2.2.2.2.2.1
theorem zOM (o:List (Int × Int)) (x z v:Int):jI tI (jM tI o x v) z = (jI tI o z || z == x):=by
 induction o with
 | nil=>simp only [jM,jI]; show (bif z == x then true else false) = (false || z == x); cases z == x <;> rfl
 | cons e o ih =>
  obtain ⟨e1,e2⟩:=e
  have hx:∀ y:Int,eqI tI y e1 = (y == e1):=fun y=>rfl
  simp only [jM,jI,hx]
  cases h:x == e1 with
  | true =>
   have:=eq_of_beq h
   subst this
   simp only [cond_true,jI,hx]
   cases z == x <;> simp
  | false =>
   simp only [cond_false,jI,ih,hx]
   cases z == e1 <;> rfl
theorem zGD (o:List (Int × Int)) (x v:Int):(jM tI o x v).length = o.length + (bif jI tI o x then 0 else 1):=by
 induction o with
 | nil=>rfl
 | cons e o ih =>
  simp only [jM,jI]
  cases h:eqI tI x e.1 with
  | true=>simp only [cond_true,List.length_cons,Nat.add_zero]
  | false =>
   simp only [cond_false,List.length_cons,ih]
   generalize (bif jI tI o x then 0 else 1) = n
   omega
def zsa:List Int→List (Int × Int)→Nat
 | [],o=>o.length
 | x :: l,o=>zsa l (jM tI o x (wI (zaR tI (0:Int) o x + 1)))
theorem zNy:∀ (l:List Int) (o:List (Int × Int)),zsa l o ≤ o.length + l.length
 | [],o=>Nat.le_refl _
 | x :: l,o=>by
  have h:=zNy l (jM tI o x (wI (zaR tI (0:Int) o x + 1)))
  rw [zGD] at h
  simp only [zsa,List.length_cons]
  cases hm:jI tI o x <;> (rw [hm] at h; simp only [cond_true,cond_false] at h; omega)
theorem zNz:∀ (l:List Int) (o:List (Int × Int)),zsa l o = o.length + l.length ↔ (l.Pairwise (· ≠ ·) ∧ ∀ x ∈ l,jI tI o x = false)
 | [],o=>by simp [zsa]
 | x :: l,o=>by
  have h:=zNy l (jM tI o x (wI (zaR tI (0:Int) o x + 1)))
  have ih:=zNz l (jM tI o x (wI (zaR tI (0:Int) o x + 1)))
  rw [zGD] at h ih
  simp only [zsa,List.length_cons,List.pairwise_cons]
  cases hm:jI tI o x with
  | true =>
   rw [hm] at h
   simp only [cond_true] at h
   constructor
   ·intro h1; omega
   ·rintro ⟨-,h1⟩
    have:=h1 x (by simp)
    rw [hm] at this; cases this
  | false =>
   rw [hm] at ih
   simp only [cond_false] at ih
   rw [show o.length + (l.length + 1) = o.length + 1 + l.length by omega,ih]
   simp only [zOM]
   constructor
   ·rintro ⟨h1,h2⟩
    refine ⟨⟨fun z hz=>?_,h1⟩,fun z hz=>?_⟩
    ·have:=h2 z hz
     simp only [Bool.or_eq_false_iff,beq_eq_false_iff_ne] at this
     exact fun e=>this.2 e.symm
    ·rcases List.mem_cons.1 hz with rfl | hz
     ·exact hm
     ·have:=h2 z hz
      simp only [Bool.or_eq_false_iff] at this
      exact this.1
   ·rintro ⟨⟨h1,h2⟩,h3⟩
    refine ⟨h2,fun z hz=>?_⟩
    simp only [Bool.or_eq_false_iff,beq_eq_false_iff_ne]
    exact ⟨h3 z (by simp [hz]),fun e=>h1 z hz e.symm⟩
def zgh (l:List zr):Bool:=l.all zl3 && zsa (zr9 l) [] == (zr9 l).length
theorem zK5 {l:List zr} (hl:l.length ≤ 1000000) (h:∀ x ∈ l,zh1 x):zpu (l,()) = some (zgh l,()):=by
 have hloop:=j4 (B:=zeW) (l:=l) (α:=Nat × List (Int × Int)) zK (fun i s=>s.1 ≤ i) (fun i s=>((s.1:Int),l,(l.length:Int),i,s.2))
  (fun rest s=>some (rest.all zl3 && zsa (zr9 rest) s.2 == s.1 + (zr9 rest).length,())) (by unfold Go.maxLen; omega) (fun k i x rest s hi hI hx hm hr hk=>by
   obtain ⟨n,o⟩:=s
   simp only [zeW]
   have hn:n ≤ i:=hI
   have hw:wI ((n:Int) + 1) = ((n + 1:Nat):Int):=by
    unfold wI
    rw [IntWalk.i64_in _ (by omega)]; rfl
   rw [ltT hi,zi hi]
   simp only [zC,hx,cond_true,zOL (h x hm),Option.bind_some,hw,zr9,zl2,List.all_cons,zl3]
   cases hlive:x.1 with
   | false =>
    simp only [cond_false]
    have:=hk (n,o) (by show n ≤ i + 1; omega)
    cases eqI zq x (ze zq) with
    | false=>rfl
    | true=>exact this
   | true =>
    simp only [cond_true,List.map_cons,zsa,List.length_cons]
    have:=hk (n + 1,jM tI o x.2.2.2.2.2.2.2.2.2.1 (wI (zaR tI (0:Int) o x.2.2.2.2.2.2.2.2.2.1 + 1))) (by show n + 1 ≤ i + 1; omega)
    cases zjB x with
    | false=>rfl
    | true =>
     refine this.trans ?_
     simp only [zr9,Bool.true_and]
     rw [show n + 1 + (List.map (fun x:zr=>x.2.2.2.2.2.2.2.2.2.1) (List.filter (fun x=>x.1) rest)).length = n + ((List.map (fun x:zr=>x.2.2.2.2.2.2.2.2.2.1) (List.filter (fun x=>x.1) rest)).length + 1) by omega]) (fun k s _=>by
   obtain ⟨n,o⟩:=s
   simp only [zeW]
   rw [ltF]
   simp only [cond_false,zr9,List.filter_nil,List.map_nil,zsa,List.length_nil,List.all_nil,Bool.true_and,Nat.add_zero]
   rw [zP0]
   cases o.length == n <;> rfl) (0,[]) (Nat.le_refl _)
 refine hloop.trans ?_
 unfold zgh
 rw [Nat.zero_add]
theorem zMZ {l:List zr} (hl:l.length ≤ Go.maxLen) (n:Nat) (hn:n ≤ l.length) (b:Int):zmm (l,(n:Int),b,()) = some (!zW (fun j=>!((l.getD j zK).1 && ((l.getD j zK).2.2.2.2.2.2.2.2.2.1:Int) == b)) 0 (n - 0),()):=by
 have hloop:=qa (B:=zfP) (i0:=0) (n:=n) (p:=fun j=>!((l.getD j zK).1 && ((l.getD j zK).2.2.2.2.2.2.2.2.2.1:Int) == b)) (fin:=some (false,())) (bad:=some (true,())) (by omega) (Nat.zero_le _) (fun i=>(l,(n:Int),b,i)) (fun k i h1 h2=>by
  simp only [zfP]
  rw [ltT h2]
  simp only [zi (show i < l.length by omega),zC,cond_true]
  grind) (fun k=>by simp only [zfP]; rw [ltF]; rfl)
 refine hloop.trans ?_
 cases zW (fun j=>!((l.getD j zK).1 && ((l.getD j zK).2.2.2.2.2.2.2.2.2.1:Int) == b)) 0 (n - 0) <;> rfl
theorem zON {l:List zr}:(zr9 l).Pairwise (· ≠ ·) ↔ ∀ i j:Nat,i < j→j < l.length→(l.getD i zK).1 = true→(l.getD j zK).1 = true→(l.getD i zK).2.2.2.2.2.2.2.2.2.1 ≠ (l.getD j zK).2.2.2.2.2.2.2.2.2.1:=by
 unfold zr9
 rw [List.pairwise_map,List.pairwise_filter,List.pairwise_iff_getElem]
 have e:∀ i (h:i < l.length),l.getD i zK = l[i]:=fun i h=>by simp [List.getD,h]
 constructor
 ·intro h i j hij hj h1 h2
  rw [e i (by omega)] at h1 ⊢
  rw [e j hj] at h2 ⊢
  exact h i j (by omega) hj hij h1 h2
 ·intro h i j hi hj hij h1 h2
  have:=h i j hij hj (by rw [e i hi]; exact h1) (by rw [e j hj]; exact h2)
  rw [e i hi,e j hj] at this
  exact this
theorem zOO (l:List zr):zgh l = zW (fun i=>zl3 (l.getD i zK) && (!(l.getD i zK).1 || zW (fun j=>!((l.getD j zK).1 && ((l.getD j zK).2.2.2.2.2.2.2.2.2.1:Int) == (l.getD i zK).2.2.2.2.2.2.2.2.2.1)) 0 (i - 0))) 0 (l.length - 0):=by
 rw [Bool.eq_iff_iff,qo]
 unfold zgh
 have hc:=zNz (zr9 l) []
 simp only [List.length_nil,Nat.zero_add] at hc
 simp only [Bool.and_eq_true,List.all_eq_true,beq_iff_eq,hc,zON]
 constructor
 ·rintro ⟨h1,h2,-⟩ i _ hi
  refine ⟨h1 _ (zH (by omega)),?_⟩
  cases hlive:(l.getD i zK).1 with
  | false=>rfl
  | true =>
   simp only [Bool.not_true,Bool.false_or,qo]
   intro j _ hj
   cases hj1:(l.getD j zK).1 with
   | false=>rfl
   | true =>
    have:=h2 j i (by omega) (by omega) hj1 hlive
    simp only [Bool.true_and,Bool.not_eq_true',beq_eq_false_iff_ne]
    exact this
 ·intro h
  refine ⟨fun x hx=>?_,fun i j hij hj h1 h2=>?_,fun x _=>rfl⟩
  ·obtain ⟨i,hi,rfl⟩:=List.mem_iff_getElem.1 hx
   have e:l.getD i zK = l[i]:=by simp [List.getD,hi]
   rw [← e]
   exact (h i (by omega) (by omega)).1
  ·have:=(h j (by omega) (by omega)).2
   rw [h2] at this
   simp only [Bool.not_true,Bool.false_or,qo] at this
   have:=this i (by omega) (by omega)
   rw [h1] at this
   simp only [Bool.true_and,Bool.not_eq_true',beq_eq_false_iff_ne] at this
   exact this
theorem zIg {l:List zr} (hl:l.length ≤ Go.maxLen) (h:∀ x ∈ l,zh1 x):znu (l,()) = some (zgh l,()):=by
 rw [zB,zOO]
 exact qa (B:=zc3) (i0:=0) hl (Nat.zero_le _) (fun i=>(l,i)) (fun k i h1 h2=>by
  simp only [zc3]
  rw [ltT h2]
  simp only [zi h2,zC,cond_true]
  rw [zMY (h _ (zH h2)),zMZ hl i (by omega)]
  simp only [Option.bind_some,zl3]
  grind) (fun k=>by simp only [zc3]; rw [ltF]; rfl)
structure zoo (x:zI):Prop where
 amount:zgO x.2.2.2.2.2.2.2.1
 price:zgO x.2.2.2.2.2.2.2.2.1
def zh2 (x:zI):Bool:=(decide (x.1 ≤ M62) && (qX x.2.1 && (qX x.2.2.1 && (qX x.2.2.2.1 && qX x.2.2.2.2.2.2.2.2.2.1)))) && bif (x.2.2.2.2.1:Int) == 3 then ((x.2.2.2.2.2.1:Int) == 0 && (x.2.2.2.2.2.2.1:Int) == 0) && ((x.2.2.2.2.2.2.2.1:Int) == 0 && (x.2.2.2.2.2.2.2.2.1:Int) == 0)
 else ((zlc x.2.2.2.2.1 x.2.2.2.2.2.2.2.1 x.2.2.2.2.2.2.2.2.1).2.1 == 0 && (x.2.2.2.2.2.2.2.2.2.1:Int) == 0) && ((x.2.2.2.2.2.1:Int) != x.2.2.2.2.2.2.1 && (qK x.2.2.2.2.2.1 && qK x.2.2.2.2.2.2.1))
theorem zP5 (x:zI):eqI zx x (x.1,x.2.1,x.2.2.1,x.2.2.2.1,x.2.2.2.2.1,(ze zx).2.2.2.2.2.1,(ze zx).2.2.2.2.2.2.1,(ze zx).2.2.2.2.2.2.2.1,(ze zx).2.2.2.2.2.2.2.2.1,x.2.2.2.2.2.2.2.2.2.1,(ze zx).2.2.2.2.2.2.2.2.2.2) = (((x.2.2.2.2.2.1:Int) == 0 && (x.2.2.2.2.2.2.1:Int) == 0) && ((x.2.2.2.2.2.2.2.1:Int) == 0 && (x.2.2.2.2.2.2.2.2.1:Int) == 0)):=by
 show cond ((x.1:Int) == x.1) (cond ((x.2.1:Int) == x.2.1) (cond ((x.2.2.1:Int) == x.2.2.1) (cond ((x.2.2.2.1:Int) == x.2.2.2.1) (cond ((x.2.2.2.2.1:Int) == x.2.2.2.2.1) (cond ((x.2.2.2.2.2.1:Int) == 0) (cond ((x.2.2.2.2.2.2.1:Int) == 0) (cond ((x.2.2.2.2.2.2.2.1:Int) == 0) (cond ((x.2.2.2.2.2.2.2.2.1:Int) == 0) (cond ((x.2.2.2.2.2.2.2.2.2.1:Int) == x.2.2.2.2.2.2.2.2.2.1) true false) false) false) false) false) false) false) false) false) false = _
 simp only [beq_self_eq_true,cond_true]
 cases ((x.2.2.2.2.2.1:Int) == 0) <;> cases ((x.2.2.2.2.2.2.1:Int) == 0) <;> cases ((x.2.2.2.2.2.2.2.1:Int) == 0) <;> cases ((x.2.2.2.2.2.2.2.2.1:Int) == 0) <;> rfl
theorem zM0 {x:zI} (h:zoo x):zms (x,()) = some (zh2 x,()):=by
 rw [zB]
 simp only [zms,zAd h.amount h.price,zOK,zbS,Option.bind_some,zh2]
 rw [zP5 x]
 generalize zlc x.2.2.2.2.1 x.2.2.2.2.2.2.2.1 x.2.2.2.2.2.2.2.2.1 = n
 unfold M62
 grind
theorem zM1 {x:zI} (h:zoo x):zmr (x,()) = some (zh2 x,()):=by
 rw [zB]
 simp only [zmr,zyk h.amount h.price,zMX,Option.bind_some,zh2]
 have hz:(x.2.2.2.2.2.2.2.2.2.1:Int) == 0→qX x.2.2.2.2.2.2.2.2.2.1 = true:=fun h=>by unfold qX; grind
 generalize zlc x.2.2.2.2.1 x.2.2.2.2.2.2.2.1 x.2.2.2.2.2.2.2.2.1 = n
 unfold M62 qK
 grind
def zD6 (a b:zI):Int:=orV (zhc a.1 b.1) (zhc a.2.1 b.2.1)
theorem zIh (a b:zI):zi2 (a,b,()) = some (zD6 a b,()):=by
 simp only [zi2,zvU,zpB,Option.bind_some]
 show Option.bind (zec ([zhc a.1 b.1,zhc a.2.1 b.2.1],())) _ = _
 rw [zR8]; rfl
theorem zFW (a b:zI):zhu (a,b,()) = some (!decide (zD6 b a ≥ 0),()):=by
 rw [zB]
 simp only [zhu,zD6,orV,zhc]
 grind
def zjC (l:List zI):Bool:=zW (fun i=>zh2 (l.getD i yb) && (decide (i = 0) || !decide (zD6 (l.getD (i - 1) yb) (l.getD i yb) ≥ 0))) 0 (l.length - 0)
theorem zIi {l:List zI} (hl:l.length ≤ Go.maxLen) (h:∀ x ∈ l,zoo x):zny (l,()) = some (zjC l,()):=by
 rw [zB]
 exact qa (B:=zc8) (i0:=0) hl (Nat.zero_le _) (fun i=>(l,l,(l.length:Int),i)) (fun k i h1 h2=>by
  simp only [zc8]
  rw [ltT h2,zi h2,zC,zM0 (h _ (zH h2))]
  by_cases h0:i = 0
  ·subst h0
   simp only [cond_true,Option.bind_some]
   grind
  ·rw [zhq (by omega) (by omega),zi (by omega),Int.toNat_natCast,zIh]
   simp only [cond_true,Option.bind_some]
   grind) (fun k=>by simp only [zc8]; rw [ltF]; rfl)
theorem zIj {l:List zI} (hl:l.length ≤ Go.maxLen) (h:∀ x ∈ l,zoo x):znw (l,()) = some (zjC l,()):=by
 rw [zB]
 exact qa (B:=zc5) (i0:=0) hl (Nat.zero_le _) (fun i=>(l,i)) (fun k i h1 h2=>by
  simp only [zc5]
  rw [ltT h2,zi h2,zC,zM1 (h _ (zH h2))]
  by_cases h0:i = 0
  ·subst h0
   simp only [cond_true,Option.bind_some]
   grind
  ·rw [zhq (by omega) (by omega),zi h2,zi (by omega),Int.toNat_natCast,zFW]
   simp only [cond_true,Option.bind_some]
   grind) (fun k=>by simp only [zc5]; rw [ltF]; rfl)
end Go.Proofs.YtkcakhbkoeimdaaGreatDoor
end
section
namespace Go.Proofs.YtkcakhbkoeimdaaGreatDoor
open Go.Ev
def zuC (a:List Int):Prop:=∀ x ∈ a,zgO x
theorem zbT {a:List Int} (h:zuC a) (i:Nat):zgO (a.getD i 0):=by
 by_cases hi:i < a.length
 ·exact h _ (zH hi)
 ·rw [List.getD_eq_getElem?_getD,List.getElem?_eq_none (by omega)]
  unfold zgO U64; decide
structure ztE (x:zp):Prop where
 trades:∀ t ∈ x.2.2.2.2.1,zhY t
 purses:∀ a ∈ x.2.2.2.2.2.1,zuC a
 made:zuC x.2.2.2.2.2.2.2.1
 spent:zuC x.2.2.2.2.2.2.2.2.1
structure jh (s:zd):Prop where
 shelves:∀ x ∈ s.2.1,ztE x
 orders:∀ x ∈ s.2.2.2.1,zh1 x
 entries:∀ x ∈ s.2.2.2.2.1,zoo x
def zjT (r:za) (x:zp) (q:zbl):Bool:=((decide ((x.1.length:Int) = q.1) && decide ((x.2.1.length:Int) = q.2.1)) && (decide ((x.2.2.1.length:Int) = q.2.2.1) && decide ((x.2.2.2.1.length:Int) = q.2.2.2.1))) && (decide ((x.2.2.2.2.1.length:Int) = q.2.2.2.2.1) && (decide (x.2.2.2.2.2.1.length = r.2.2.1.length) && decide (x.2.2.2.2.2.2.1.length = r.2.2.1.length)))
def zhf (r:za) (s:zd):Bool:=(decide (s.2.1.length = r.1.length) && (decide ((s.2.2.2.1.length:Int) = r.2.2.2.2.2.1) && decide ((s.2.2.2.2.1.length:Int) ≤ r.2.2.2.2.2.2.1))) && ((decide (s.2.2.2.2.2.1.length = r.2.1.length) && decide (s.1 ≤ M62)) && zW (fun i=>zjT r (s.2.1.getD i zf) (r.2.2.2.2.1.getD i qy)) 0 (s.2.1.length - 0))
theorem neI (a b:Int):(a != b) = !decide (a = b):=by
 rw [Bool.eq_iff_iff]; simp
theorem zIk {r:za} (hr:zR r) (s:zd):zcb ((r,s,()),()) = some (z4 r && zhf r s,()):=by
 rw [zB]
 simp only [zcb,zjc,zf9 r hr,Option.bind_some]
 cases hb:z4 r with
 | false=>rfl
 | true =>
  have ok:=qG hb
  have ok1:=ok.labels
  have ok2:=ok.quotas
  rw [ziR,ziR]
  unfold zhf M62
  by_cases hn:s.2.1.length = r.1.length
  ·have hloop:zk0 K0 ((r.2.2.1.length:Int),s.2.1,(s.2.1.length:Int),0,(r,s,())) = bif zW (fun i=>zjT r (s.2.1.getD i zf) (r.2.2.2.2.1.getD i qy)) 0 (s.2.1.length - 0) then some (true,()) else some (false,()) :=
    qa (i0:=0) (n:=s.2.1.length) (by unfold Go.maxLen; omega) (Nat.zero_le _) (fun i=>((r.2.2.1.length:Int),s.2.1,(s.2.1.length:Int),i,(r,s,()))) (fun k i h1 h2=>by
     simp only [zgK]
     rw [ltT h2,zi h2,zi (by omega)]
     simp only [zC,neI,cond_true,zjT]
     generalize s.2.1.getD i zf = x
     generalize r.2.2.2.2.1.getD i qy = q
     generalize k _ = kk
     grind (splits:=30)) (fun k=>by simp only [zgK]; rw [ltF]; rfl)
   rw [hloop]
   grind
  ·grind
theorem zIl {r:za} (hb:z4 r = true) (s:zd):ziY (r,s,()) = some (zhf r s,()):=by
 rw [zB]
 simp only [ziY,ziX]
 have ok:=qG hb
 have ok1:=ok.labels
 have ok2:=ok.quotas
 rw [ziR,ziR]
 unfold zhf M62
 by_cases hn:s.2.1.length = r.1.length
 ·have hloop:zkm K0 (0,r,s) = bif zW (fun i=>zjT r (s.2.1.getD i zf) (r.2.2.2.2.1.getD i qy)) 0 (s.2.1.length - 0) then some (true,()) else some (false,()) :=
   qa (i0:=0) (n:=s.2.1.length) (by unfold Go.maxLen; omega) (Nat.zero_le _) (fun i=>(i,r,s)) (fun k i h1 h2=>by
    simp only [zgw]
    rw [ltT h2,zi h2,zi (by omega)]
    simp only [zC,neI,cond_true,zjT]
    generalize s.2.1.getD i zf = x
    generalize r.2.2.2.2.1.getD i qy = q
    generalize k _ = kk
    grind (splits:=30)) (fun k=>by simp only [zgw]; rw [ltF]; rfl)
  rw [hloop]
  grind
 ·grind
structure zfa (r:za) (s:zd):Prop where
 shelves:s.2.1.length = r.1.length
 orders:s.2.2.2.1.length ≤ 24
 entries:s.2.2.2.2.1.length ≤ 48
 people:s.2.2.2.2.2.1.length = r.2.1.length
 shelf:∀ x ∈ s.2.1,x.1.length ≤ 12 ∧ x.2.1.length ≤ 12 ∧ x.2.2.1.length ≤ 12 ∧ x.2.2.2.1.length ≤ 12 ∧ x.2.2.2.2.1.length ≤ 12 ∧ x.2.2.2.2.2.1.length = r.2.2.1.length ∧ x.2.2.2.2.2.2.1.length = r.2.2.1.length
theorem zK6:∀ (l:List zbl) (n:Int),zk9 n l = true→∀ q ∈ l,ztB q = true
 | [],_,_,q,h=>by cases h
 | a :: l,n,h,q,hq=>by
  simp only [zk9,Bool.and_eq_true] at h
  rcases List.mem_cons.1 hq with rfl | hq
  ·exact h.1
  ·exact zK6 l _ h.2.2 q hq
theorem zam {r:za} {s:zd} (hb:z4 r = true) (h:zhf r s = true):zfa r s:=by
 have ok:=qG hb
 simp only [z4,Bool.and_eq_true] at hb
 obtain ⟨-,-,-,-,h5,h6⟩:=hb
 simp only [zhT,zyM,zT,Bool.and_eq_true,decide_eq_true_eq] at h5 h6
 simp only [zhf,Bool.and_eq_true,decide_eq_true_eq,qo] at h
 obtain ⟨⟨h7,h8,h9⟩,⟨h10,-⟩,h11⟩:=h
 refine ⟨h7,by omega,by omega,h10,fun x hx=>?_⟩
 obtain ⟨i,hi,rfl⟩:=List.mem_iff_getElem.1 hx
 have h12:=h11 i (by omega) (by omega)
 have e:s.2.1.getD i zf = s.2.1[i]:=by simp [List.getD,hi]
 rw [e] at h12
 have hq:=zK6 _ _ h5.2.2.2 (r.2.2.2.2.1.getD i qy) (zH (by have:=ok.quotas; omega))
 simp only [ztB,zT,Bool.and_eq_true,decide_eq_true_eq] at hq
 simp only [zjT,Bool.and_eq_true,decide_eq_true_eq] at h12
 omega
def qY (x:zp):Bool:=(x.1.all zlb) && (zD2 x.2.1 && (x.2.2.1.all vc && (x.2.2.2.1.all ziL && x.2.2.2.2.1.all zhZ)))
theorem zD7 {x:zp} (h:x.1.length ≤ 12 ∧ x.2.1.length ≤ 12 ∧ x.2.2.1.length ≤ 12 ∧ x.2.2.2.1.length ≤ 12 ∧ x.2.2.2.2.1.length ≤ 12):zgH (x,()) = some (qY x,()):=by
 rw [zB]
 have hm:12 ≤ Go.maxLen:=by unfold Go.maxLen; omega
 simp only [zgH]
 rw [zKT (by omega),zKV (by omega),zH8 (by omega),zKY (by omega),zIc (by omega)]
 simp only [Option.bind_some,qY]
 grind
theorem zIm {r:za} {s:zd} (ok:zh0 r) (sz:zfa r s):zcc ((r,s,()),()) = some (s.2.1.all qY,()):=by
 rw [zB]
 simp only [zcc]
 have h1:=ok.labels
 have h2:=sz.shelves
 rw [zMB (p:=qY) (by unfold Go.maxLen; omega) fun x hx=>zD7 (by have:=sz.shelf x hx; omega)]
 simp only [Option.bind_some]
def qr (r:za) (x:Int):Bool:=decide (0 ≤ x ∧ x < (r.2.2.1.length:Int))
def qn (r:za) (x:Int):Bool:=decide (0 ≤ x ∧ x < (r.1.length:Int))
theorem zax (r:za) (s:zd) (x:Int):qW ((r,s,()),x,()) = some (qr r x,()):=by simp only [qW,qr]; grind
theorem zv0 (r:za) (s:zd) (x:Int):zb9 ((r,s,()),x,()) = some (qn r x,()):=by simp only [zb9,qn]; grind
theorem zdT (r:za) (x:Int):jV (r,x,()) = some (qr r x,()):=by simp only [jV,qr]; grind
def zpN (s:zd) (x:vn):Bool:=decide (0 ≤ x.1 ∧ x.1 < (s.2.1.length:Int)) && (decide (0 ≤ x.2.1 ∧ x.2.1 < ((s.2.1.getD x.1.toNat zf).1.length:Int)) && ((s.2.1.getD x.1.toNat zf).1.getD x.2.1.toNat zhr).1)
theorem zv1 (s:zd) (x:vn):zfK (s,x,()) = some (zpN s x,()):=by
 rw [zB]
 simp only [zfK,zpN,ix]
 by_cases h1:0 ≤ x.1 ∧ x.1 < (s.2.1.length:Int)
 ·rw [ixR h1,ixR h1]
  by_cases h2:0 ≤ x.2.1 ∧ x.2.1 < ((s.2.1.getD x.1.toNat zf).1.length:Int)
  ·rw [ixR h2]
   grind
  ·grind
 ·grind
theorem zv2 (s:zd) (x:vn):zfQ (s,x,()) = some (zpN s x,()):=by
 rw [zB]
 simp only [zfQ,zpN,ix]
 by_cases h1:0 ≤ x.1 ∧ x.1 < (s.2.1.length:Int)
 ·rw [ixR h1,ixR h1]
  by_cases h2:0 ≤ x.2.1 ∧ x.2.1 < ((s.2.1.getD x.1.toNat zf).1.length:Int)
  ·rw [ixR h2]
   grind
  ·grind
 ·grind
def zl4 (r:za) (s:zd) (x:zr):Bool:=!x.1 || (qn r x.2.1 && (qr r x.2.2.1 && decide (x.2.2.2.2.2.2.2.2.2.1 < (s.2.2.2.2.1.length:Int))))
def zl5 (r:za) (s:zd) (x:zI):Bool:=decide (x.2.1 < (r.2.1.length:Int)) && ((x.2.2.1:Int) == r.2.1.getD x.2.1.toNat 0 && (qr r x.2.2.2.1 && decide (x.1 ≤ s.1)))
def zl6 (r:za) (x:Int):Bool:=x == -1 || qr r x
theorem zOP (r:za) (s:zd) (x:zr):zfB (x,some (r,s,()),()) = some (zl4 r s x,()):=by
 rw [zB]
 simp only [zfB,zax,zv0,Option.bind_some,zl4]
 grind
theorem zOQ (r:za) (s:zd) {x:zI} (h:zh2 x = true):zbt (x,some (r,s,()),()) = some (zl5 r s x,()):=by
 rw [zB]
 simp only [zbt,zax,Option.bind_some,zl5,ix]
 have:0 ≤ x.2.1:=by unfold zh2 qX at h; grind
 by_cases h1:x.2.1 < (r.2.1.length:Int)
 ·rw [ixR ⟨this,h1⟩]
  grind
 ·grind
theorem zOR (r:za) (s:zd) (x:Int):vC (x,some (r,s,()),()) = some (zl6 r x,()):=by
 rw [zB]
 simp only [vC,zax,Option.bind_some,zl6]
 grind
def zcd (r:za) (s:zd):Bool:=vT r s.2.2.1 && (zgh s.2.2.2.1 && (zjC s.2.2.2.2.1 && (zpN s (ze zP) && (s.2.2.2.1.all (zl4 r s) && (s.2.2.2.2.1.all (zl5 r s) && s.2.2.2.2.2.1.all (zl6 r))))))
theorem zyl {l:List zI} (h:zjC l = true):∀ x ∈ l,zh2 x = true:=by
 intro x hx
 simp only [zjC,qo,Bool.and_eq_true] at h
 obtain ⟨i,hi,rfl⟩:=List.mem_iff_getElem.1 hx
 have e:l.getD i yb = l[i]:=by simp [List.getD,hi]
 rw [← e]
 exact (h i (by omega) (by omega)).1
theorem zM2 {l:List zr} (h:zgh l = true):∀ x ∈ l,zl3 x = true:=by
 intro x hx
 simp only [zgh,Bool.and_eq_true,List.all_eq_true] at h
 exact h.1 x hx
theorem zFX {r:za} {s:zd} (hr:zR r) (hb:z4 r = true) (hs:jh s) (sz:zfa r s):zbf ((r,s,()),()) = some (zcd r s,()):=by
 rw [zB]
 have ok:=qG hb
 have h1:=ok.lines
 have h2:=sz.orders
 have h3:=sz.entries
 have h4:=sz.people
 have hm:48 ≤ Go.maxLen:=by unfold Go.maxLen; omega
 simp only [zbf,zpM hr,hb,Bool.true_and,Option.bind_some]
 unfold zcd
 cases vT r s.2.2.1 with
 | false=>rfl
 | true =>
  rw [zK5 (by omega) hs.orders,zIi (by omega) hs.entries,zv1]
  simp only [Option.bind_some,cond_true]
  cases zgh s.2.2.2.1 with
  | false=>rfl
  | true =>
   cases he:zjC s.2.2.2.2.1 with
   | false=>rfl
   | true =>
    rw [zMC (p:=zl4 r s) (by omega) fun x _=>zOP r s x,zMD (p:=zl5 r s) (by omega) fun x hx=>zOQ r s (zyl he x hx),zPX (p:=zl6 r) (by omega) fun x _=>zOR r s x]
    simp only [Option.bind_some,cond_true]
    grind
theorem zFY {r:za} {s:zd} (hr:zR r) (hb:z4 r = true) (hs:jh s) (sz:zfa r s):zhM (r,s,()) = some (zcd r s,()):=by
 rw [zB]
 have ok:=qG hb
 have h1:=ok.lines
 have h2:=sz.orders
 have h3:=sz.entries
 have h4:=sz.people
 have hm:48 ≤ Go.maxLen:=by unfold Go.maxLen; omega
 simp only [zhM,zhL,zvZ hr,hb,Bool.true_and,Option.bind_some]
 unfold zcd
 cases vT r s.2.2.1 with
 | false=>rfl
 | true =>
  rw [zIg (by omega) hs.orders,zIj (by omega) hs.entries,zv2]
  simp only [Option.bind_some,cond_true]
  cases ho:zgh s.2.2.2.1 with
  | false=>rfl
  | true =>
   cases he:zjC s.2.2.2.2.1 with
   | false=>rfl
   | true =>
    cases zpN s (ze zP) with
    | false=>rfl
    | true =>
     simp only [cond_true,Bool.true_and]
     have l2:zbL K0 (0,r,s) = bif s.2.2.2.2.2.1.all (zl6 r) then some (true,()) else some (false,()) :=
      jD (l:=s.2.2.2.2.2.1) (0:Int) (fun i=>(i,r,s)) (by omega) (fun k i x hi hx _=>by
       simp only [zfJ]
       rw [ltT hi]
       simp only [zi hi,zC,hx,zdT,Option.bind_some,cond_true,zl6]
       grind) (fun k=>by simp only [zfJ]; rw [ltF]; rfl)
     have l1:zbN K0 (0,r,s) = bif s.2.2.2.2.1.all (zl5 r s) then zbL K0 (0,r,s) else some (false,()) :=
      jD (l:=s.2.2.2.2.1) yb (fun i=>(i,r,s)) (by omega) (fun k i x hi hx hmem=>by
       have hok:=zyl he x hmem
       have h0:0 ≤ x.2.1:=by unfold zh2 qX at hok; grind
       simp only [zbM]
       rw [ltT hi]
       simp only [zi hi,zC,hx,zdT,Option.bind_some,cond_true,zl5]
       by_cases h1:x.2.1 < (r.2.1.length:Int)
       ·rw [ixR ⟨h0,h1⟩]
        grind
       ·grind) (fun k=>by simp only [zbM]; rw [ltF]; rfl)
     have l0:zjA K0 (0,r,s) = bif s.2.2.2.1.all (zl4 r s) then zbN K0 (0,r,s) else some (false,()) :=
      jD (l:=s.2.2.2.1) zK (fun i=>(i,r,s)) (by omega) (fun k i x hi hx hmem=>by
       have hok:=zM2 ho x hmem
       have h0:x.1 = true→0 ≤ x.2.1:=fun h=>by unfold zl3 zjB qX at hok; grind
       simp only [zbO]
       rw [ltT hi]
       simp only [zi hi,zC,hx,zdT,Option.bind_some,cond_true,zl4,qn]
       grind) (fun k=>by simp only [zbO]; rw [ltF]; rfl)
     rw [l0,l1,l2]
     grind
end Go.Proofs.YtkcakhbkoeimdaaGreatDoor
end
section
namespace Go.Proofs.YtkcakhbkoeimdaaGreatDoor
open Go.Ev
def zik (r:za) (a b:Int):Bool:=qn r a && (qn r b && zpI (r.1.getD a.toNat zA) (r.1.getD b.toNat zA))
theorem zld {r:za} (hr:zR r) (a:Int) (h:qn r a = true):zpJ (r.1.getD a.toNat zA):=by
 simp only [qn,decide_eq_true_eq] at h
 exact hr.labels _ (zH (by omega))
theorem zAe {r:za} (hr:zR r) (s:zd) (a b:Int):ziG ((r,s,()),a,b,()) = some (zik r a b,()):=by
 rw [zB]
 simp only [ziG,zv0,Option.bind_some,zik,ix]
 cases ha:qn r a with
 | false=>rfl
 | true =>
  cases hb:qn r b with
  | false=>rfl
  | true =>
   rw [zAb (zld hr a ha) (zld hr b hb)]
   simp only [qn,decide_eq_true_eq] at ha hb
   rw [ixR ha,ixR hb]
   simp only [Option.bind_some]
   grind
theorem zsb {r:za} (hr:zR r) (a b:Int):zgf (r,a,b,()) = some (zik r a b,()):=by
 rw [zB]
 simp only [zgf,zik,ix]
 cases ha:qn r a with
 | false=>unfold qn at ha; grind
 | true =>
  cases hb:qn r b with
  | false=>unfold qn at ha hb; grind
  | true =>
   rw [zMP (zld hr a ha) (zld hr b hb)]
   simp only [qn,decide_eq_true_eq] at ha hb
   rw [ixR ha,ixR hb]
   simp only [Option.bind_some]
   grind
def zdA (r:za) (s:zd) (i:Int) (x:vn):Bool:=zpN s x && zik r x.1 i
theorem zle {r:za} (hr:zR r) (s:zd) (i:Int) (x:vn):yk (x,some (r,s,()),some i,()) = some (zdA r s i x,()):=by
 rw [zB]
 simp only [yk,zv1,zAe hr,Option.bind_some,zdA]
 grind
theorem znJ {r:za} (hr:zR r) (s:zd) (i:Int) (x:vn):zaF (r,s,x,i,()) = some (zdA r s i x,()):=by
 rw [zB]
 simp only [zaF,zv2,zsb hr,Option.bind_some,zdA]
 grind
def zhg (r:za) (s:zd) (i:Int) (x:qg):Bool:=!x.1 || (zdA r s i x.2.1 && zdA r s i x.2.2.1)
def zff (r:za) (s:zd) (i:Int) (x:qb):Bool:=(x.2.2.1:Int) != 2 || zdA r s i x.2.2.2.2.1
def ztF (r:za) (s:zd) (i:Int) (x:zp):Bool:=x.2.1.all (zhg r s i) && (x.2.2.1.all (zff r s i) && x.2.2.2.2.2.2.1.all (zdA r s i))
theorem zP6 {r:za} (hr:zR r) (s:zd) (i:Int) (x:qg):zgu (x,some (some fun z=>yk (z.1,some (r,s,()),some i,())),()) = some (zhg r s i x,()):=by
 rw [zB]
 simp only [zgu,zle hr,Option.bind_some,zhg]
 grind
theorem zP7 {r:za} (hr:zR r) (s:zd) (i:Int) (x:qb):zcr (x,some (some fun z=>yk (z.1,some (r,s,()),some i,())),()) = some (zff r s i x,()):=by
 rw [zB]
 simp only [zcr,zle hr,Option.bind_some,zff]
 grind
theorem zIn {r:za} {s:zd} (hr:zR r) (ok:zh0 r) (sz:zfa r s):zf0 ((r,s,()),()) = some (zW (fun i=>ztF r s (i:Int) (s.2.1.getD i zf)) 0 (s.2.1.length - 0),()):=by
 rw [zB]
 have h1:=ok.labels
 have h2:=sz.shelves
 have h3:=ok.accounts
 exact qa (B:=zda) (i0:=0) (n:=s.2.1.length) (by unfold Go.maxLen; omega) (Nat.zero_le _) (fun i=>(s.2.1,(s.2.1.length:Int),i,(r,s,()))) (fun k i _ h=>by
  have hm:12 ≤ Go.maxLen:=by unfold Go.maxLen; omega
  have hz:=sz.shelf _ (zH (d:=zf) h)
  simp only [zda]
  have hbelow:znr ((r,s,()),(i:Int),()) = some (some fun z=>yk (z.1,some (r,s,()),some (i:Int),()),()):=rfl
  rw [ltT h,zi h,zC,hbelow,Option.bind_some,zOA (p:=zhg r s i) (by omega) fun x _=>zP6 hr s i x,zDW (p:=zff r s i) (by omega) fun x _=>zP7 hr s i x,zPY (p:=zdA r s i) (by omega) fun x _=>zle hr s i x]
  simp only [Option.bind_some,cond_true]
  unfold ztF
  grind) (fun k=>by simp only [zda]; rw [ltF]; rfl)
theorem zM3 {σ ρ:Type} {B:(σ→Option ρ)→σ→Option ρ} {i0 n:Nat} (hn:n ≤ Go.maxLen) (h0:i0 ≤ n) {p:Nat→Bool} {fin bad:Option ρ} (st:Int→σ)
 (hin:∀ k (i:Nat),i0 ≤ i→i < n→B k (st i) = bif p i then k (st (wI (i + 1))) else bad) (hout:∀ k,B k (st n) = fin) (K:Nat) (hK:n - i0 < K):zg B K (st i0) = bif zW p i0 (n - i0) then fin else bad:=by
 have key:∀ (m i fuel:Nat),i0 ≤ i→i + m = n→m < fuel→zg B fuel (st i) = bif zW p i m then fin else bad:=by
  intro m
  induction m with
  | zero =>
   intro i fuel _ h1 h2
   obtain ⟨f,rfl⟩:∃ f,fuel = f + 1:=⟨fuel - 1,by omega⟩
   obtain rfl:i = n:=by omega
   exact hout _
  | succ m ih =>
   intro i fuel h1 h2 h3
   obtain ⟨f,rfl⟩:∃ f,fuel = f + 1:=⟨fuel - 1,by omega⟩
   show B (zg B f) (st i) = _
   rw [hin _ i h1 (by omega),wI,zCl (len:=n) (by omega) hn,show ((i:Int) + 1) = ((i + 1:Nat):Int) by omega,ih (i + 1) f (by omega) (by omega) (by omega)]
   simp only [zW]
   cases p i <;> rfl
 exact key (n - i0) i0 K (Nat.le_refl _) (by omega) hK
def zjU (r:za) (x:qb):Bool:=(x.2.2.1:Int) != 1 || qr r x.2.2.2.1
def zl7 (r:za) (i:Int) (x:zU):Bool:=!x.1 || (zik r x.2.1 i && (qr r x.2.2.1 && qr r x.2.2.2.1))
def zl8 (r:za) (x:zu):Bool:=!x.1 || (qr r x.2.1 && qr r x.2.2.1)
def zgi (r:za) (i:Int) (x:zp):Bool:=x.2.2.1.all (zjU r) && (x.2.2.2.1.all (zl7 r i) && x.2.2.2.2.1.all (zl8 r))
theorem zOS (r:za) (s:zd) (x:qb):zbu (x,some (r,s,()),()) = some (zjU r x,()):=by
 rw [zB]
 simp only [zbu,zax,Option.bind_some,zjU]
 grind
theorem zOT {r:za} (hr:zR r) (s:zd) (i:Int) (x:zU):vE (x,some (r,s,()),some i,()) = some (zl7 r i x,()):=by
 rw [zB]
 simp only [vE,zax,zAe hr,Option.bind_some,zl7]
 grind
theorem zOU (r:za) (s:zd) (x:zu):qP (x,some (r,s,()),()) = some (zl8 r x,()):=by
 rw [zB]
 simp only [qP,zax,Option.bind_some,zl8]
 grind
theorem zFZ {r:za} {s:zd} (hr:zR r) (ok:zh0 r) (sz:zfa r s):zbd ((r,s,()),()) = some (zW (fun i=>zgi r (i:Int) (s.2.1.getD i zf)) 0 s.2.1.length,()):=by
 rw [zB]
 have h1:=ok.labels
 have h2:=sz.shelves
 have hm:12 ≤ Go.maxLen:=by unfold Go.maxLen; omega
 have step:∀ k (i:Nat),i < s.2.1.length→qZ k (s.2.1,(s.2.1.length:Int),(i:Int),(r,s,())) = bif zgi r (i:Int) (s.2.1.getD i zf) then k (s.2.1,(s.2.1.length:Int),wI ((i:Int) + 1),(r,s,())) else some (false,()):=fun k i h=>by
  have hz:=sz.shelf _ (zH (d:=zf) h)
  simp only [qZ]
  rw [ltT h,zi h,zC,zDW (p:=zjU r) (by omega) fun x _=>zOS r s x,zOB (p:=zl7 r i) (by omega) fun x _=>zOT hr s i x,zME (p:=zl8 r) (by omega) fun x _=>zOU r s x]
  simp only [Option.bind_some,cond_true]
  unfold zgi
  grind
 have hend:∀ k,qZ k (s.2.1,(s.2.1.length:Int),(s.2.1.length:Int),(r,s,())) = some (true,()):=fun k=>by simp only [qZ]; rw [ltF]; rfl
 have first:zbd ((r,s,()),()) = zCm (qZ) (qZ) K0 (s.2.1,(s.2.1.length:Int),((0:Nat):Int),(r,s,())):=rfl
 have hw:wI (((0:Nat):Int) + 1) = ((1:Nat):Int):=rfl
 obtain ⟨m,hK⟩:=zyK
 have hf:∀ (B0 B1:(vF→Option (Bool × Unit))→vF→Option (Bool × Unit)) (x:vF),zCm B0 B1 K0 x = B0 (zg B1 (m + 7)) x:=fun B0 B1 x=>by rw [hK]; rfl
 have rest:=zM3 (B:=qZ) (i0:=1) (n:=s.2.1.length) (by unfold Go.maxLen; omega) (by omega) (p:=fun i=>zgi r (i:Int) (s.2.1.getD i zf)) (fun i=>(s.2.1,(s.2.1.length:Int),i,(r,s,()))) (fun k i _ h=>step k i h) hend (m + 7) (by unfold K0 Go.maxLen at hK; omega)
 rw [hf] at first
 rw [first,step _ 0 (by omega),hw]
 refine (congrArg (fun z=>bif zgi r ((0:Nat):Int) (s.2.1.getD 0 zf) then z else some (false,())) rest).trans ?_
 obtain ⟨n,hn⟩:∃ n,s.2.1.length = n + 1:=⟨s.2.1.length - 1,by omega⟩
 rw [hn]
 simp only [zW,Nat.add_sub_cancel]
 cases zgi r ((0:Nat):Int) (s.2.1.getD 0 zf) <;> rfl
theorem zK7 {l:List zu} {g:zu × Unit→Option (Bool × Unit)} {p:zu→Bool} (hg:∀ x,g (x,()) = some (p x,())) (z:Int):yi (some (l,some g,()),z,()) = some (decide (0 ≤ z ∧ z < (l.length:Int)) && p (l.getD z.toNat zY),()):=by
 by_cases h:0 ≤ z ∧ z < (l.length:Int)
 ·obtain ⟨n,rfl⟩:=Int.eq_ofNat_of_zero_le h.1
  rw [zAc hg (by omega),decide_eq_true h,Bool.true_and,Int.toNat_natCast]
 ·rw [decide_eq_false h,Bool.false_and]
  simp only [yi,zyi,Option.bind_some,cond_true]
  grind
theorem zD8 {α:Type} {p:α→Bool} (d:α) (L:List α) (q:Int→Bool):∀ (l:List α) (i:Nat),(∀ j,j < l.length→L.getD (i + j) d = l.getD j d)→(qR p i l).all q = zW (fun j=>!p (L.getD j d) || q (j:Int)) i l.length
 | [],_,_=>rfl
 | x :: l,i,h=>by
  have ih:=zD8 (p:=p) d L q l (i + 1) fun j hj=>by
   have:=h (j + 1) (by simp; omega)
   rw [show i + 1 + j = i + (j + 1) by omega,this]; rfl
  have h0:L.getD i d = x:=h 0 (by simp)
  simp only [qR,List.length_cons,zW,h0]
  rw [← ih]
  cases p x <;> simp
def zjD (x:zp) (j:Nat) (t:qb):Bool:=(t.2.2.1:Int) != 3 || (decide (0 ≤ t.2.2.2.1 ∧ t.2.2.2.1 < (x.2.2.2.2.1.length:Int)) && ((x.2.2.2.2.1.getD (Int.toNat t.2.2.2.1) zY).1 && ((x.2.2.2.2.1.getD (Int.toNat t.2.2.2.1) zY).2.2.2.1.2.2.1:Int) == (j:Int)))
def zfg (x:zp) (j:Int) (t:zu):Bool:=(decide (t.2.2.2.1.2.2.1 < (x.2.2.1.length:Int)) && decide (t.2.2.2.2.1.2.2.1 < (x.2.2.1.length:Int))) && (decide (t.2.2.2.1.2.2.1 < 0) || (((x.2.2.1.getD (Int.toNat t.2.2.2.1.2.2.1) zE).2.2.1:Int) == 3 && ((x.2.2.1.getD (Int.toNat t.2.2.2.1.2.2.1) zE).2.2.2.1:Int) == j))
def zm4 (x:zp):Bool:=zW (fun j=>zjD x j (x.2.2.1.getD j zE)) 0 (x.2.2.1.length - 0) && zW (fun j=>!(x.2.2.2.2.1.getD j zY).1 || zfg x (j:Int) (x.2.2.2.2.1.getD j zY)) 0 x.2.2.2.2.1.length
theorem zro (x:zu):yf (x,()) = some (x.1,()):=by
 rw [zB]; rfl
theorem zIo {r:za} {s:zd} (ok:zh0 r) (sz:zfa r s):zfY ((r,s,()),()) = some (zW (fun i=>zm4 (s.2.1.getD i zf)) 0 (s.2.1.length - 0),()):=by
 rw [zB]
 have h1:=ok.labels
 have h2:=sz.shelves
 have hm:12 ≤ Go.maxLen:=by unfold Go.maxLen; omega
 have hlm:12 ≤ lim:=by unfold lim; omega
 have l2:∀ k0 (i:Nat) (x:zp),x.2.2.2.2.1.length ≤ 12→zcY K0 k0 (s.2.1,(s.2.1.length:Int),(i:Int),qR (fun t:zu=>t.1) 0 x.2.2.2.2.1,((qR (fun t:zu=>t.1) 0 x.2.2.2.2.1).length:Int),0,x) = bif zW (fun j=>!(x.2.2.2.2.1.getD j zY).1 || zfg x (j:Int) (x.2.2.2.2.1.getD j zY)) 0 x.2.2.2.2.1.length then k0 (s.2.1,(s.2.1.length:Int),wI ((i:Int) + 1)) else some (false,()):=fun k0 i x hx=>by
  have hsl:=zoh (p:=fun t:zu=>t.1) x.2.2.2.2.1 0
  have hsm:=zoi (p:=fun t:zu=>t.1) x.2.2.2.2.1 0
  have:=jD (B:=fun k2=>zcX k0 k2) (l:=qR (fun t:zu=>t.1) 0 x.2.2.2.2.1) (0:Int) (p:=fun z=>zfg x z (x.2.2.2.2.1.getD z.toNat zY)) (fin:=k0 (s.2.1,(s.2.1.length:Int),wI ((i:Int) + 1))) (bad:=some (false,())) (fun j=>(s.2.1,(s.2.1.length:Int),(i:Int),qR (fun t:zu=>t.1) 0 x.2.2.2.2.1,((qR (fun t:zu=>t.1) 0 x.2.2.2.2.1).length:Int),j,x)) (by omega) (fun k j z hj hz hmem=>by
   obtain ⟨n,rfl,-,hn⟩:=hsm z hmem
   simp only [zcX]
   rw [ltT hj,zi hj,zC,hz,zi (by omega),zi (by omega),Int.toNat_natCast]
   simp only [cond_true,zfg,neI]
   by_cases ha:(x.2.2.2.2.1.getD n zY).2.2.2.1.2.2.1 < (x.2.2.1.length:Int)
   ·by_cases hb:0 ≤ (x.2.2.2.2.1.getD n zY).2.2.2.1.2.2.1
    ·rw [ixR ⟨hb,ha⟩,ixR ⟨hb,ha⟩]
     grind
    ·grind
   ·grind) (fun k=>by simp only [zcX]; rw [ltF]; rfl)
  refine this.trans ?_
  rw [zD8 (p:=fun t:zu=>t.1) zY x.2.2.2.2.1 (fun z=>zfg x z (x.2.2.2.2.1.getD z.toNat zY)) x.2.2.2.2.1 0 fun j _=>by rw [Nat.zero_add]]
  simp only [Int.toNat_natCast]
 have l1:∀ k0 (i:Nat) (x:zp),x.2.2.1.length ≤ 12→x.2.2.2.2.1.length ≤ 12→zcZ K0 k0 (some (x.2.2.2.2.1,some yf,()),s.2.1,(s.2.1.length:Int),(i:Int),x.2.2.1,(x.2.2.1.length:Int),0,x) = bif zm4 x then k0 (s.2.1,(s.2.1.length:Int),wI ((i:Int) + 1)) else some (false,()):=fun k0 i x hx hx2=>by
  have:=qa (B:=fun k1=>zav (zcY K0 k0) k0 k1) (i0:=0) (n:=x.2.2.1.length) (p:=fun j=>zjD x j (x.2.2.1.getD j zE)) (fin:=bif zW (fun j=>!(x.2.2.2.2.1.getD j zY).1 || zfg x (j:Int) (x.2.2.2.2.1.getD j zY)) 0 x.2.2.2.2.1.length then k0 (s.2.1,(s.2.1.length:Int),wI ((i:Int) + 1)) else some (false,())) (bad:=some (false,())) (by omega) (Nat.zero_le _) (fun j=>(some (x.2.2.2.2.1,some yf,()),s.2.1,(s.2.1.length:Int),(i:Int),x.2.2.1,(x.2.2.1.length:Int),j,x)) (fun k j _ hj=>by
   simp only [zav]
   rw [ltT hj,zi hj,zC,zK7 zro]
   simp only [cond_true,Option.bind_some,zjD,neI]
   by_cases ha:0 ≤ (x.2.2.1.getD j zE).2.2.2.1 ∧ (x.2.2.1.getD j zE).2.2.2.1 < (x.2.2.2.2.1.length:Int)
   ·rw [ixR ha]
    grind
   ·grind) (fun k=>by
   simp only [zav]
   rw [ltF,zvY (by omega) zro,Option.bind_some]
   exact l2 k0 i x hx2)
  refine this.trans ?_
  unfold zm4
  cases zW (fun j=>zjD x j (x.2.2.1.getD j zE)) 0 (x.2.2.1.length - 0) <;> rfl
 exact qa (B:=fun k0=>zaw (zcZ K0 k0) k0) (i0:=0) (n:=s.2.1.length) (by omega) (Nat.zero_le _) (fun i=>(s.2.1,(s.2.1.length:Int),i)) (fun k i _ h=>by
  have hz:=sz.shelf _ (zH (d:=zf) h)
  simp only [zaw]
  have hq:yT ((s.2.1.getD i zf).2.2.2.2.1,some yf,()) = some (some ((s.2.1.getD i zf).2.2.2.2.1,some yf,()),()):=by
   simp only [yT,zvT (show (s.2.1.getD i zf).2.2.2.2.1.length ≤ lim by omega),Option.bind_some]
   rfl
  rw [ltT h,zi h,zC,hq,Option.bind_some]
  exact l1 k i _ (by omega) (by omega)) (fun k=>by simp only [zaw]; rw [ltF]; rfl)
end Go.Proofs.YtkcakhbkoeimdaaGreatDoor
end
section
namespace Go.Proofs.YtkcakhbkoeimdaaGreatDoor
open Go.Ev
def zop (r:za) (s:zd) (i:Int) (x:zp) (j:Nat) (t:qb):Bool:=!t.1 || bif (t.2.2.1:Int) == 1 then qr r t.2.2.2.1 else bif (t.2.2.1:Int) == 2 then zdA r s i t.2.2.2.2.1 else decide (t.2.2.2.1 < (x.2.2.2.2.1.length:Int)) && ((x.2.2.2.2.1.getD (Int.toNat t.2.2.2.1) zY).1 && ((x.2.2.2.2.1.getD (Int.toNat t.2.2.2.1) zY).2.2.2.1.2.2.1:Int) == (j:Int))
theorem zK8 {r:za} (hr:zR r) {s:zd} {i j:Nat} (hi:i < s.2.1.length) (hj:j < (s.2.1.getD i zf).2.2.1.length) (hok:vc ((s.2.1.getD i zf).2.2.1.getD j zE) = true) :
 zkS (r,s,(i:Int),(j:Int),()) = some (zop r s i (s.2.1.getD i zf) j ((s.2.1.getD i zf).2.2.1.getD j zE),()):=by
 rw [zB]
 simp only [zkS]
 rw [zi hi,zC,zi hj,Int.toNat_natCast]
 simp only [zdT,znJ hr,Option.bind_some,zop]
 generalize s.2.1.getD i zf = x at *
 have ht:(x.2.2.1.getD j zE).1 = true→((x.2.2.1.getD j zE).2.2.1 == (1:Int)) = false→((x.2.2.1.getD j zE).2.2.1 == (2:Int)) = false→0 ≤ (x.2.2.1.getD j zE).2.2.2.1:=fun h1 h2 h3=>by
  unfold vc zl0 qX at hok; grind
 generalize x.2.2.1.getD j zE = t at *
 cases h1:t.1 with
 | false=>rfl
 | true =>
  cases h2:(t.2.2.1:Int) == 1 with
  | true=>cases hw:qr r t.2.2.2.1 <;> rfl
  | false =>
   cases h3:(t.2.2.1:Int) == 2 with
   | true=>cases hw:zdA r s i t.2.2.2.2.1 <;> rfl
   | false =>
    have h0:=ht h1 h2 h3
    by_cases h4:t.2.2.2.1 < (x.2.2.2.2.1.length:Int)
    ·rw [ixR ⟨h0,h4⟩,ixR ⟨h0,h4⟩]
     grind
    ·grind
def zoq (r:za) (x:zp) (j:Nat) (t:zu):Bool:=!t.1 || ((qr r t.2.1 && qr r t.2.2.1) && ((decide (t.2.2.2.1.2.2.1 < (x.2.2.1.length:Int)) && decide (t.2.2.2.2.1.2.2.1 < (x.2.2.1.length:Int))) && (decide (t.2.2.2.1.2.2.1 < 0) || ((x.2.2.1.getD (Int.toNat t.2.2.2.1.2.2.1) zE).1 && (((x.2.2.1.getD (Int.toNat t.2.2.2.1.2.2.1) zE).2.2.1:Int) == 3 && ((x.2.2.1.getD (Int.toNat t.2.2.2.1.2.2.1) zE).2.2.2.1:Int) == (j:Int))))))
theorem zK9 (r:za) (x:zp) {j:Nat} (hj:j < x.2.2.2.2.1.length):zkw (r,x,(j:Int),()) = some (zoq r x j (x.2.2.2.2.1.getD j zY),()):=by
 rw [zB]
 simp only [zkw]
 rw [zi hj,zC]
 simp only [zdT,Option.bind_some,zoq]
 generalize x.2.2.2.2.1.getD j zY = t
 cases h1:t.1 with
 | false=>rfl
 | true =>
  by_cases ha:t.2.2.2.1.2.2.1 < (x.2.2.1.length:Int)
  ·by_cases hb:0 ≤ t.2.2.2.1.2.2.1
   ·rw [ixR ⟨hb,ha⟩]
    grind
   ·grind
  ·grind
def zuD (r:za) (s:zd) (i:Int) (x:zp):Bool:=x.2.1.all (zhg r s i) && (zW (fun j=>zop r s i x j (x.2.2.1.getD j zE)) 0 (x.2.2.1.length - 0) && (zW (fun j=>zoq r x j (x.2.2.2.2.1.getD j zY)) 0 (x.2.2.2.2.1.length - 0) && (x.2.2.2.1.all (zl7 r i) && x.2.2.2.2.2.2.1.all (zdA r s i))))
theorem zF0 {r:za} {s:zd} (hr:zR r) (ok:zh0 r) (hs:jh s) (sz:zfa r s) {i:Nat} (hi:i < s.2.1.length):zf3 (r,s,(i:Int),()) = some (qY (s.2.1.getD i zf) && zuD r s i (s.2.1.getD i zf),()):=by
 rw [zB]
 have hm:12 ≤ Go.maxLen:=by unfold Go.maxLen; omega
 have hz:=sz.shelf _ (zH (d:=zf) hi)
 have hin:=hs.shelves _ (zH (d:=zf) hi)
 have h3:=ok.accounts
 simp only [zf3,zi9]
 have hitem:=fun (j:Nat) (hj:j < (s.2.1.getD i zf).2.2.1.length) (hok:vc ((s.2.1.getD i zf).2.2.1.getD j zE) = true)=>zK8 hr hi hj hok
 rw [zi hi,zC]
 generalize s.2.1.getD i zf = x at *
 rw [zH5 (by omega),zH6 (by omega),zH9 (by omega),zIa (by omega),zId (by omega) hin.trades]
 simp only [Option.bind_some]
 unfold qY
 cases x.1.all zlb with
 | false=>rfl
 | true =>
  cases zD2 x.2.1 with
  | false=>rfl
  | true =>
   cases hit:x.2.2.1.all vc with
   | false=>rfl
   | true =>
    cases x.2.2.2.1.all ziL with
    | false=>rfl
    | true =>
     cases x.2.2.2.2.1.all zhZ with
     | false=>rfl
     | true =>
      have l4:zdg K0 ((i:Int),0,r,s,x) = bif x.2.2.2.2.2.2.1.all (zdA r s i) then some (true,()) else some (false,()) :=
       jD (l:=x.2.2.2.2.2.2.1) zJC (fun j=>((i:Int),j,r,s,x)) (by omega) (fun k j y hj hy _=>by
        simp only [zgF]
        rw [ltT hj,zi hj,zC,hy,znJ hr]
        simp only [Option.bind_some,cond_true]) (fun k=>by simp only [zgF]; rw [ltF]; rfl)
      have l3:zdi K0 ((i:Int),0,r,s,x) = bif x.2.2.2.1.all (zl7 r i) then zdg K0 ((i:Int),0,r,s,x) else some (false,()) :=
       jD (l:=x.2.2.2.1) ya (fun j=>((i:Int),j,r,s,x)) (by omega) (fun k j y hj hy _=>by
        simp only [zdh]
        rw [ltT hj,zi hj,zC,hy,zsb hr]
        simp only [zdT,Option.bind_some,cond_true,zl7]
        grind) (fun k=>by simp only [zdh]; rw [ltF]; rfl)
      have l2:zdk K0 ((i:Int),0,r,s,x) = bif zW (fun j=>zoq r x j (x.2.2.2.2.1.getD j zY)) 0 (x.2.2.2.2.1.length - 0) then zdi K0 ((i:Int),0,r,s,x) else some (false,()) :=
       qa (i0:=0) (n:=x.2.2.2.2.1.length) (by omega) (Nat.zero_le _) (fun j=>((i:Int),j,r,s,x)) (fun k j _ hj=>by
        simp only [zdj]
        rw [ltT hj,zK9 r x hj]
        simp only [Option.bind_some,cond_true]) (fun k=>by simp only [zdj]; rw [ltF]; rfl)
      have l1:zdm K0 ((i:Int),0,r,s,x) = bif zW (fun j=>zop r s i x j (x.2.2.1.getD j zE)) 0 (x.2.2.1.length - 0) then zdk K0 ((i:Int),0,r,s,x) else some (false,()) :=
       qa (i0:=0) (n:=x.2.2.1.length) (by omega) (Nat.zero_le _) (fun j=>((i:Int),j,r,s,x)) (fun k j _ hj=>by
        simp only [zdl]
        rw [ltT hj,hitem j hj (List.all_eq_true.1 hit _ (zH hj))]
        simp only [Option.bind_some,cond_true]) (fun k=>by simp only [zdl]; rw [ltF]; rfl)
      have l0:zkX K0 ((i:Int),0,r,s,x) = bif x.2.1.all (zhg r s i) then zdm K0 ((i:Int),0,r,s,x) else some (false,()) :=
       jD (l:=x.2.1) qj (fun j=>((i:Int),j,r,s,x)) (by omega) (fun k j y hj hy _=>by
        simp only [zdn]
        rw [ltT hj,zi hj,zC,hy]
        simp only [znJ hr,Option.bind_some,cond_true,zhg]
        grind) (fun k=>by simp only [zdn]; rw [ltF]; rfl)
      simp only [cond_true]
      rw [l0,l1,l2,l3,l4]
      unfold zuD
      grind
def zpO (r:za) (s:zd) (i:Int) (x:zp):Bool:=ztF r s i x && (zgi r i x && zm4 x)
theorem zBA {α:Type} {d:α} {l:List α} {p:α→Bool}:l.all p = true ↔ ∀ j,j < l.length→p (l.getD j d) = true:=by
 rw [List.all_eq_true]
 constructor
 ·exact fun h j hj=>h _ (zH hj)
 ·intro h x hx
  obtain ⟨i,hi,rfl⟩:=List.mem_iff_getElem.1 hx
  have:=h i hi
  simpa [List.getD,hi] using this
theorem zGE {t:qb} (h:vc t = true) (h1:t.1 = false):t.2.2.1 = 0:=by
 unfold vc at h
 rw [h1,cond_false] at h
 have e:eqI zJ t (ze zJ) = cond (t.1 == false) (cond (ByteArray.toList t.2.1 == ByteArray.toList (ze zJ).2.1) (cond ((t.2.2.1:Int) == 0) (cond ((t.2.2.2.1:Int) == 0) (cond (eqI zP t.2.2.2.2.1 (ze zP)) true false) false) false) false) false:=rfl
 rw [e] at h
 cases hk:(t.2.2.1:Int) == 0 with
 | true=>exact eq_of_beq hk
 | false =>
  rw [hk] at h
  revert h
  cases (t.1 == false) <;> cases (ByteArray.toList t.2.1 == ByteArray.toList (ze zJ).2.1) <;> intro h <;> cases h
theorem zD9 {r:za} {s:zd} {i:Int} {x:zp} {j:Nat} {t:qb} (h:vc t = true):zop r s i x j t = (zff r s i t && (zjU r t && zjD x j t)):=by
 unfold zop zff zjU zjD
 cases h1:t.1 with
 | false =>
  have:=zGE h h1
  rw [this]; rfl
 | true =>
  unfold vc zl0 qX at h
  rw [h1] at h
  generalize qr r t.2.2.2.1 = a at *
  generalize zdA r s i t.2.2.2.2.1 = b at *
  grind
theorem zOV {r:za} {x:zp} (hit:x.2.2.1.all vc = true) {j:Nat} {t:zu}:zoq r x j t = (zl8 r t && (!t.1 || zfg x (j:Int) t)):=by
 unfold zoq zl8 zfg
 have hi:0 ≤ t.2.2.2.1.2.2.1→t.2.2.2.1.2.2.1 < (x.2.2.1.length:Int)→((x.2.2.1.getD (Int.toNat t.2.2.2.1.2.2.1) zE).2.2.1 == (3:Int)) = true→(x.2.2.1.getD (Int.toNat t.2.2.2.1.2.2.1) zE).1 = true:=fun h1 h2 h3=>by
  have h4:=List.all_eq_true.1 hit _ (zH (d:=zE) (show (Int.toNat t.2.2.2.1.2.2.1) < x.2.2.1.length by omega))
  cases h5:(x.2.2.1.getD (Int.toNat t.2.2.2.1.2.2.1) zE).1 with
  | true=>rfl
  | false =>
   have:=zGE h4 h5
   rw [this] at h3
   exact absurd h3 (by decide)
 generalize x.2.2.1.getD (Int.toNat t.2.2.2.1.2.2.1) zE = y at *
 cases t.1 with
 | false=>rfl
 | true=>grind
theorem zM4 {r:za} {s:zd} {i:Int} {x:zp} (hit:x.2.2.1.all vc = true):zuD r s i x = zpO r s i x:=by
 have hi:=List.all_eq_true.1 hit
 rw [Bool.eq_iff_iff]
 unfold zuD zpO ztF zgi zm4
 simp only [Bool.and_eq_true,qo,@zBA qb zE,@zBA zu zY,zOV hit]
 constructor
 ·rintro ⟨h1,h2,h3,h4,h5⟩
  have h2':∀ j,j < x.2.2.1.length→zff r s i (x.2.2.1.getD j zE) = true ∧ zjU r (x.2.2.1.getD j zE) = true ∧ zjD x j (x.2.2.1.getD j zE) = true:=fun j hj=>by
   have:=h2 j (Nat.zero_le _) (by omega)
   rw [zD9 (hi _ (zH hj))] at this
   simpa [Bool.and_eq_true] using this
  exact ⟨⟨h1,fun j hj=>(h2' j hj).1,h5⟩,⟨fun j hj=>(h2' j hj).2.1,h4,fun j hj=>(h3 j (Nat.zero_le _) (by omega)).1⟩,fun j _ hj=>(h2' j (by omega)).2.2,fun j _ hj=>(h3 j (Nat.zero_le _) (by omega)).2⟩
 ·rintro ⟨⟨h1,h2,h3⟩,⟨h4,h5,h6⟩,h7,h8⟩
  refine ⟨h1,fun j _ hj=>?_,fun j _ hj=>⟨h6 j (by omega),h8 j (by omega) (by omega)⟩,h5,h3⟩
  rw [zD9 (hi _ (zH (by omega))),h2 j (by omega),h4 j (by omega),h7 j (by omega) (by omega)]
  rfl
theorem zIp {r:za} {s:zd} (hr:zR r) (ok:zh0 r) (hs:jh s) (sz:zfa r s) {i:Nat} (hi:i < s.2.1.length):zf3 (r,s,(i:Int),()) = some (qY (s.2.1.getD i zf) && zpO r s i (s.2.1.getD i zf),()):=by
 rw [zF0 hr ok hs sz hi]
 cases h:qY (s.2.1.getD i zf) with
 | false=>rfl
 | true =>
  have hit:(s.2.1.getD i zf).2.2.1.all vc = true:=by
   simp only [qY,Bool.and_eq_true] at h
   exact h.2.2.1
  rw [zM4 hit]
end Go.Proofs.YtkcakhbkoeimdaaGreatDoor
end
section
namespace Go.Proofs.YtkcakhbkoeimdaaGreatDoor
open Go.Ev
def z6:List Int→Int
 | []=>0
 | x :: l=>x + z6 l
theorem zBB:∀ (l m:List Int),z6 (l ++ m) = z6 l + z6 m
 | [],m=>by simp [z6]
 | x :: l,m=>by simp only [List.cons_append,z6,zBB l m]; omega
theorem zuE:∀ {l:List Int},(∀ x ∈ l,0 ≤ x)→0 ≤ z6 l
 | [],_=>Int.le_refl 0
 | x :: l,h=>by
  have h1:=h x (by simp)
  have h2:=zuE (l:=l) fun y hy=>h y (by simp [hy])
  simp only [z6]; omega
theorem ji {α:Type} {g:α→Int} {l:List α} (h:∀ x ∈ l,0 ≤ g x):0 ≤ z6 (l.map g):=zuE fun x hx=>by
 obtain ⟨y,hy,rfl⟩:=List.mem_map.1 hx
 exact h y hy
def zl9 (n:Int):Int × Int × Unit:=bif decide (n > M62) then (0,7,()) else (n,0,())
theorem j5 {n:Int} (h:n > M62):zl9 n = (0,7,()):=by unfold zl9; rw [decide_eq_true h]; rfl
theorem zay {n:Int} (h:n ≤ M62):zl9 n = (n,0,()):=by unfold zl9; rw [decide_eq_false (by omega)]; rfl
theorem zpP:∀ (l:List Int) (a:Int),a ≤ M62→(∀ x ∈ l,0 ≤ x)→zl1 a l = zl9 (a + z6 l)
 | [],a,h,_=>by simp only [zl1,z6,Int.add_zero]; exact (zay h).symm
 | x :: l,a,h,hp=>by
  have h2:=zuE (l:=l) fun y hy=>hp y (by simp [hy])
  simp only [zl1,z6]
  by_cases hb:a + x > M62
  ·rw [decide_eq_true hb,j5 (by omega)]; rfl
  ·rw [decide_eq_false hb,cond_false,zpP l (a + x) (by omega) fun y hy=>hp y (by simp [hy])]
   congr 1; omega
theorem zsc {α:Type} (p:α→Bool) (g:α→Int):∀ l:List α,z6 ((l.filter p).map g) = z6 (l.map fun x=>bif p x then g x else 0)
 | []=>rfl
 | x :: l=>by
  have ih:=zsc p g l
  rw [zl2]
  simp only [List.map_cons,z6]
  cases hp:p x with
  | true=>simp only [cond_true,List.map_cons,z6,ih]
  | false=>simp only [cond_false,ih]; omega
def zm5 (x:zr):Int:=bif (x.2.2.2.1:Int) == 2 then x.2.2.2.2.1 else x.2.2.2.2.2.1
theorem zQ1 (x:zr):ziT (x,()) = some (zm5 x,()):=by
 simp only [ziT,zm5]; grind
def jc (c:Int) (x:zr):Int:=bif x.1 && zm5 x == c then x.2.2.2.2.2.2.2.2.1 else 0
def zma (l:List zr) (c:Int):Int × Int × Unit:=bif qK c then zl9 (z6 (l.map (jc c))) else (0,1,())
theorem zOW (l:List zr) (hl:l.length ≤ lim):zoc (l,()) = some (some (l,some zkj,()),()):=by
 simp only [zoc,zjr,zHZ hl,Option.bind_some]
 rfl
theorem zLa (x:zr):zkj (x,()) = some (x.1,()):=by
 rw [zB]; rfl
theorem zM5 {l:List zr} (hl:l.length ≤ lim) (h:∀ x ∈ l,zh1 x) (c:Int):zmu (l,c,()) = some (zma l c):=by
 have hl':l.length ≤ Go.maxLen:=by unfold lim at hl; unfold Go.maxLen; omega
 simp only [zmu,zmt,zbS,Option.bind_some]
 unfold zma
 cases hc:qK c with
 | false=>rfl
 | true =>
  have hslots:zkM (l,()) = some (qR (fun x:zr=>x.1) 0 l,()):=by
   simp only [zkM]
   rw [zOW l hl,Option.bind_some,zIe hl zLa,Option.bind_some]
  simp only [cond_true]
  rw [hslots,Option.bind_some]
  have hsl:=zoh (p:=fun x:zr=>x.1) l 0
  have hsm:=zoi (p:=fun x:zr=>x.1) l 0
  have hloop:=j4 (B:=zf2) (l:=qR (fun x:zr=>x.1) 0 l) (α:=List Int) (0:Int) (fun i o=>o.length ≤ i ∧ ∀ x ∈ o,0 ≤ x ∧ x < U64) (fun i o=>(l,c,qR (fun x:zr=>x.1) 0 l,((qR (fun x:zr=>x.1) 0 l).length:Int),i,o))
   (fun rest o=>some (zl1 0 (o ++ (rest.filter fun z=>zm5 (l.getD z.toNat zK) == c).map fun z=>(l.getD z.toNat zK).2.2.2.2.2.2.2.2.1))) (by omega) (fun k i x rest o hi hI hx hm hr hk=>by
    simp only [zf2]
    obtain ⟨j,rfl,-,hj⟩:=hsm x hm
    rw [ltT hi,zi hi,zC,hx,zi (by omega),zi (by omega),Int.toNat_natCast,zfl,zQ1]
    have hxx:=(h (l.getD j zK) (zH (by omega))).held
    simp only [cond_true,zl2,Int.toNat_natCast,Option.bind_some]
    rw [decide_eq_true (by simp; omega)]
    simp only [cond_true]
    cases hq:zm5 (l.getD j zK) == c with
    | false =>
     exact hk o ⟨by omega,hI.2⟩
    | true =>
     simp only [cond_true,List.map_cons,Int.toNat_natCast]
     refine (hk _ ⟨by simp; omega,fun x hx=>?_⟩).trans ?_
     ·rcases List.mem_append.1 hx with hx | hx
      ·exact hI.2 x hx
      ·rcases List.mem_singleton.1 hx with rfl
       exact hxx
     ·rw [List.append_assoc]; rfl) (fun k o hI=>by
    simp only [zf2]
    rw [ltF]
    simp only [cond_false]
    rw [zog (by omega) hI.2,List.filter_nil,List.map_nil,List.append_nil]
    rfl) [] ⟨Nat.le_refl _,fun x hx=>by cases hx⟩
  refine hloop.trans ?_
  rw [List.nil_append,znI (q:=fun x:zr=>zm5 x == c) (g:=fun x:zr=>x.2.2.2.2.2.2.2.2.1) zK l l 0 fun j _=>by rw [Nat.zero_add]]
  rw [zpP _ 0 (by unfold M62; omega) fun x hx=>?_,zsc,Int.zero_add]
  ·rfl
  ·obtain ⟨y,hy,rfl⟩:=List.mem_map.1 hx
   exact (h y (List.mem_filter.1 hy).1).held.1
theorem zjj {x:zr} (h:zh1 x) (c:Int):zgO (jc c x):=by
 unfold jc
 cases x.1 && zm5 x == c with
 | true=>exact h.held
 | false=>exact (⟨Int.le_refl 0,by unfold U64; decide⟩:zgO 0)
theorem zIq (x:zr) (c:Int):zi0 (x,c,()) = some (jc c x,()):=by
 simp only [zi0,jc,zm5]; grind
theorem zpQ {a b:Int}:zuB a b = zl9 (a + b):=rfl
theorem zLb {l:List zr} (hl:l.length ≤ Go.maxLen) (h:∀ x ∈ l,zh1 x) (c:Int):zky (l,c,()) = some (zma l c):=by
 simp only [zky,zkx]
 unfold zma
 cases hc:qK c with
 | false=>unfold qK at hc; grind
 | true =>
  have hloop:=j4 (B:=zeE) (l:=l) (α:=Int) zK (fun _ s=>0 ≤ s ∧ s ≤ M62) (fun i s=>(l,c,s,i)) (fun rest s=>some (zl9 (s + z6 (rest.map (jc c))))) hl (fun k i x rest s hi hI hx hm hr hk=>by
   simp only [zeE]
   have hxx:=zjj (h x hm) c
   have hrest:0 ≤ z6 (rest.map (jc c)):=ji fun y hy=>(zjj (h y (by rw [← hr] at hy; exact List.mem_of_mem_drop hy)) c).1
   rw [ltT hi,zi hi,zC,hx,zIq]
   simp only [cond_true,Option.bind_some,List.map_cons,z6]
   rw [ze9 (by unfold M62 at hI; unfold U64; omega) hxx,zpQ,Option.bind_some]
   by_cases hb:s + jc c x > M62
   ·rw [j5 hb,j5 (by omega)]; rfl
   ·rw [zay (by omega)]
    have:=hk (s + jc c x) ⟨by have:=hxx.1; omega,by omega⟩
    refine this.trans ?_
    rw [Int.add_assoc]) (fun k s hI=>by
   simp only [zeE]; rw [ltF]
   simp only [cond_false,List.map_nil,z6,Int.add_zero]
   rw [zay hI.2]) 0 (by unfold M62; omega)
  refine Eq.trans ?_ (hloop.trans ?_)
  ·unfold qK at hc
   grind
  ·rw [Int.zero_add]; rfl
def za1 (c:Int) (x:zu):Int:=bif x.1 && (x.2.2.2.1.1:Int) == c then x.2.2.2.1.2.1 else 0
theorem zym {l:List zu} (h:∀ x ∈ l,zhY x) {c:Int} (hc:qK c = true):zjS l c = zl9 (z6 (l.map (za1 c))):=by
 unfold zjS
 rw [hc,cond_true,zpP _ 0 (by unfold M62; omega) fun x hx=>?_,zsc,Int.zero_add]
 ·rfl
 ·obtain ⟨y,hy,rfl⟩:=List.mem_map.1 hx
  exact (h y (List.mem_filter.1 hy).1).1.1
theorem zIr {x:zu} (h:zhY x) (c:Int):zgO (za1 c x):=by
 unfold za1
 cases x.1 && (x.2.2.2.1.1:Int) == c with
 | true=>exact h.1
 | false=>exact (⟨Int.le_refl 0,by unfold U64; decide⟩:zgO 0)
def vU (c:Int) (a:List Int):Int:=a.getD c.toNat 0
def zan (c:Int) (x:zp):Int:=z6 (x.2.2.2.2.1.map (za1 c)) + z6 (x.2.2.2.2.2.1.map (vU c))
theorem zuF {x:zp} (h:ztE x) (c:Int):0 ≤ z6 (x.2.2.2.2.1.map (za1 c)):=ji fun y hy=>(zIr (h.trades y hy) c).1
theorem zuG {x:zp} (h:ztE x) (c:Int):0 ≤ z6 (x.2.2.2.2.2.1.map (vU c)):=ji fun y hy=>(zbT (h.purses y hy) _).1
theorem zjk {x:zp} (h:ztE x) (c:Int):0 ≤ zan c x:=by
 have:=zuF h c
 have:=zuG h c
 unfold zan; omega
def zrp (s:zd) (c:Int):Int × Int × Unit:=bif qK c then zl9 (z6 (s.2.2.2.1.map (jc c)) + z6 (s.2.1.map (zan c))) else (0,1,())
def wts:List zp→Nat
 | []=>0
 | x :: l=>1 + x.2.2.2.2.2.1.length + wts l
structure zyO (s:zd):Prop where
 shelves:s.2.1.length ≤ 2000000
 orders:s.2.2.2.1.length ≤ 2000000
 shelf:∀ x ∈ s.2.1,x.2.2.2.2.1.length ≤ 2000000 ∧ x.2.2.2.2.2.1.length ≤ 2000000
 all:wts s.2.1 ≤ 2000000
theorem zQ2 {l:List zp} {i:Nat} {x:zp} {rest:List zp} (hi:i < l.length) (hx:l.getD i zf = x) (hr:l.drop (i + 1) = rest):wts (l.drop i) = 1 + x.2.2.2.2.2.1.length + wts rest:=by
 rw [zcm zf hi,hx,hr]; rfl
theorem zP8 {n:Nat}:∀ {l:List zp},(∀ x ∈ l,x.2.2.2.2.2.1.length ≤ n)→wts l ≤ l.length * (n + 1)
 | [],_=>Nat.zero_le _
 | x :: l,h=>by
  have h1:=h x (by simp)
  have h2:=zP8 (l:=l) fun y hy=>h y (by simp [hy])
  simp only [wts,List.length_cons,Nat.add_mul]
  omega
theorem zrq {c:Int} (hc:qK c = true):0 ≤ c ∧ c < ((4:Nat):Int):=by
 simp only [qK,decide_eq_true_eq] at hc; omega
theorem zLc {s:zd} (hs:jh s) (sh:zyO s) (c:Int):zkW (s,c,()) = some (zrp s c):=by
 have hlm:10000000 ≤ lim:=by unfold lim; omega
 have hmm:10000000 ≤ Go.maxLen:=by unfold Go.maxLen; omega
 have hsh:=sh.shelves
 have hso:=sh.orders
 simp only [zkW,zkV,zbS,Option.bind_some]
 rw [zM5 (by omega) hs.orders]
 unfold zrp zma
 cases hc:qK c with
 | false=>rfl
 | true =>
  have hcin:=zrq hc
  simp only [cond_true,Option.bind_some]
  have hbook:0 ≤ z6 (s.2.2.2.1.map (jc c)):=ji fun y hy=>(zjj (hs.orders y hy) c).1
  have hall:0 ≤ z6 (s.2.1.map (zan c)):=ji fun y hy=>zjk (hs.shelves y hy) c
  have inner:∀ k0 (i:Nat) (x:zp) (o:List Int),x.2.2.2.2.2.1.length ≤ 2000000→o.length ≤ 2000001→ze2 K0 k0 (c,s.2.1,(s.2.1.length:Int),(i:Int),x.2.2.2.2.2.1,(x.2.2.2.2.2.1.length:Int),0,o) = k0 (c,s.2.1,(s.2.1.length:Int),wI ((i:Int) + 1),o ++ x.2.2.2.2.2.1.map (vU c)):=fun k0 i x o hx ho =>
   j4 (B:=fun k1=>ze1 k0 k1) (l:=x.2.2.2.2.2.1) (α:=List Int) (ze (Ty.arr 4 tU)) (fun j o'=>o'.length ≤ 2000001 + j) (fun j o'=>(c,s.2.1,(s.2.1.length:Int),(i:Int),x.2.2.2.2.2.1,(x.2.2.2.2.2.1.length:Int),j,o')) (fun rest o'=>k0 (c,s.2.1,(s.2.1.length:Int),wI ((i:Int) + 1),o' ++ rest.map (vU c))) (by omega) (fun k j a rest o' hj hI ha hm hr hk=>by
    simp only [ze1]
    have h4:((4:Int)) = ((4:Nat):Int):=rfl
    rw [ltT hj,zi hj,Int.toNat_natCast,ha,zfl,decide_eq_true (by simp; omega)]
    simp only [cond_true]
    refine Eq.trans (ixR hcin) ?_
    refine (hk _ (by simp; omega)).trans ?_
    rw [List.append_assoc]; rfl) (fun k o' _=>by
    simp only [ze1]; rw [ltF]
    simp only [cond_false,List.map_nil,List.append_nil]) o ho
  by_cases hb:z6 (s.2.2.2.1.map (jc c)) > M62
  ·rw [j5 hb,j5 (by omega)]; rfl
  ·rw [zay (by omega)]
   have hloop:=j4 (B:=fun k0=>zbe (ze2 K0 k0) k0) (l:=s.2.1) (α:=List Int) zf (fun i o=>o.length + wts (s.2.1.drop i) ≤ 2000001 ∧ ∀ x ∈ o,0 ≤ x ∧ x < U64) (fun i o=>(c,s.2.1,(s.2.1.length:Int),i,o)) (fun rest o=>some (zl9 (z6 o + z6 (rest.map (zan c))))) (by omega) (fun k i x rest o hi hI hx hm hr hk=>by
    simp only [zbe]
    have hin:=hs.shelves x hm
    have hlen:=sh.shelf x hm
    have hw:=zQ2 hi hx hr
    have hw2:=hI.1
    rw [hw] at hw2
    have h1:=zuF hin c
    have h2:=zuG hin c
    have ho:0 ≤ z6 o:=zuE fun y hy=>(hI.2 y hy).1
    have hrest:0 ≤ z6 (rest.map (zan c)):=ji fun y hy=>zjk (hs.shelves y (by rw [← hr] at hy; exact List.mem_of_mem_drop hy)) c
    rw [ltT hi,zi hi,zC,hx,zK3 (by omega) hin.trades,zym hin.trades hc]
    simp only [cond_true,Option.bind_some,List.map_cons,z6,zan]
    by_cases hb:z6 (x.2.2.2.2.1.map (za1 c)) > M62
    ·rw [j5 hb,j5 (by omega)]; rfl
    ·rw [zay (by omega),zfl,inner k i x _ (by omega) (by simp; omega)]
     rw [decide_eq_true (by simp; omega)]
     simp only [bne_self_eq_false,cond_true,cond_false]
     refine (hk _ ⟨by rw [hr]; simp; omega,fun y hy=>?_⟩).trans ?_
     ·rcases List.mem_append.1 hy with hy | hy
      ·rcases List.mem_append.1 hy with hy | hy
       ·exact hI.2 y hy
       ·rcases List.mem_singleton.1 hy with rfl
        unfold M62 at hb; unfold U64; omega
      ·obtain ⟨a,ha,rfl⟩:=List.mem_map.1 hy
       exact zbT (hin.purses a ha) _
     ·rw [zBB,zBB]
      simp only [z6]
      congr 2; omega) (fun k o hI=>by
    simp only [zbe]
    rw [ltF]
    simp only [cond_false]
    rw [zog (by omega) hI.2,zpP o 0 (by unfold M62; omega) fun y hy=>(hI.2 y hy).1]
    simp only [List.map_nil,z6,Int.add_zero,Int.zero_add]
    rfl) [z6 (s.2.2.2.1.map (jc c))] ⟨by have:=sh.all; simp; omega,fun y hy=>by
     rcases List.mem_singleton.1 hy with rfl
     unfold M62 at hb; unfold U64; omega⟩
   refine hloop.trans ?_
   simp only [z6,Int.add_zero]
theorem zLd {s:zd} (hs:jh s) (sh:zyO s) (c:Int):zkH (s,c,()) = some (zrp s c):=by
 have hmm:10000000 ≤ Go.maxLen:=by unfold Go.maxLen; omega
 have hsh:=sh.shelves
 have hso:=sh.orders
 simp only [zkH,zkG]
 rw [zLb (by omega) hs.orders]
 unfold zrp zma
 cases hc:qK c with
 | false=>rfl
 | true =>
  have hcin:=zrq hc
  simp only [cond_true,Option.bind_some]
  have hbook:0 ≤ z6 (s.2.2.2.1.map (jc c)):=ji fun y hy=>(zjj (hs.orders y hy) c).1
  have hall:0 ≤ z6 (s.2.1.map (zan c)):=ji fun y hy=>zjk (hs.shelves y hy) c
  have inner:∀ k0 (i:Nat) (a:Int),i < s.2.1.length→0 ≤ a ∧ a ≤ M62→zeO K0 k0 (c,a,(i:Int),0,s) = bif decide (a + z6 ((s.2.1.getD i zf).2.2.2.2.2.1.map (vU c)) > M62) then some (0,7,()) else k0 (c,a + z6 ((s.2.1.getD i zf).2.2.2.2.2.1.map (vU c)),wI ((i:Int) + 1),s):=fun k0 i a hi ha=>by
   have hlen:=sh.shelf _ (zH (d:=zf) hi)
   have hin:=hs.shelves _ (zH (d:=zf) hi)
   exact j4 (B:=fun k1=>zeN k0 k1) (l:=(s.2.1.getD i zf).2.2.2.2.2.1) (α:=Int) (ze (Ty.arr 4 tU)) (fun j a=>0 ≤ a ∧ a ≤ M62) (fun j a=>(c,a,(i:Int),j,s)) (fun rest a=>bif decide (a + z6 (rest.map (vU c)) > M62) then some (0,7,()) else k0 (c,a + z6 (rest.map (vU c)),wI ((i:Int) + 1),s)) (by omega) (fun k j y rest a hj hI hy hm hr hk=>by
    have hyy:=zbT (hin.purses y hm) c.toNat
    have hrest:0 ≤ z6 (rest.map (vU c)):=ji fun z hz=>(zbT (hin.purses z (by rw [← hr] at hz; exact List.mem_of_mem_drop hz)) _).1
    simp only [zeN]
    simp only [zi hi,zC]
    rw [ltT hj,zi hj,hy]
    simp only [cond_true,List.map_cons,z6]
    refine Eq.trans (ixR hcin) ?_
    rw [ze9 (by unfold M62 at hI; unfold U64; omega) hyy,zpQ,Option.bind_some]
    have hp:vU c y = List.getD y c.toNat 0:=rfl
    rw [hp]
    by_cases hb:a + List.getD y c.toNat 0 > M62
    ·rw [j5 hb,decide_eq_true (by omega)]; rfl
    ·rw [zay (by omega)]
     have:=hk (a + List.getD y c.toNat 0) ⟨by have:=hyy.1; omega,by omega⟩
     refine this.trans ?_
     rw [Int.add_assoc]) (fun k a hI=>by
    simp only [zeN]
    simp only [zi hi,zC]
    rw [ltF]
    simp only [cond_false,List.map_nil,z6,Int.add_zero]
    rw [decide_eq_false (by omega)]; rfl) a ha
  by_cases hb:z6 (s.2.2.2.1.map (jc c)) > M62
  ·rw [j5 hb,j5 (by omega)]; rfl
  ·rw [zay (by omega)]
   have hloop:=j4 (B:=fun k0=>zbb (zeO K0 k0) k0) (l:=s.2.1) (α:=Int) zf (fun i a=>0 ≤ a ∧ a ≤ M62) (fun i a=>(c,a,i,s)) (fun rest a=>some (zl9 (a + z6 (rest.map (zan c))))) (by omega) (fun k i x rest a hi hI hx hm hr hk=>by
    simp only [zbb]
    have hin:=hs.shelves x hm
    have hlen:=sh.shelf x hm
    have h1:=zuF hin c
    have h2:=zuG hin c
    have hrest:0 ≤ z6 (rest.map (zan c)):=ji fun y hy=>zjk (hs.shelves y (by rw [← hr] at hy; exact List.mem_of_mem_drop hy)) c
    have hinn:=fun a ha=>inner k i a hi ha
    rw [hx] at hinn
    rw [ltT hi,zi hi,zC,hx,zK4 (by omega) hin.trades,zym hin.trades hc]
    simp only [cond_true,Option.bind_some,List.map_cons,z6,zan]
    by_cases hb:z6 (x.2.2.2.2.1.map (za1 c)) > M62
    ·rw [j5 hb,j5 (by omega)]; rfl
    ·rw [zay (by omega),ze9 (by unfold M62 at hI; unfold U64; omega) (by unfold M62 at hb; unfold U64; omega),zpQ,Option.bind_some]
     by_cases hb2:a + z6 (x.2.2.2.2.1.map (za1 c)) > M62
     ·rw [j5 hb2,j5 (by omega)]; rfl
     ·rw [zay (by omega),hinn _ (by omega)]
      simp only [bne_self_eq_false,cond_false]
      by_cases hb3:a + z6 (x.2.2.2.2.1.map (za1 c)) + z6 (x.2.2.2.2.2.1.map (vU c)) > M62
      ·rw [decide_eq_true hb3,j5 (by omega)]; rfl
      ·rw [decide_eq_false hb3,cond_false]
       refine (hk _ (by omega)).trans ?_
       congr 2; omega) (fun k a hI=>by
    simp only [zbb]
    rw [ltF]
    simp only [cond_false,List.map_nil,z6,Int.add_zero]
    rw [zay hI.2]) (z6 (s.2.2.2.1.map (jc c))) (by omega)
   exact hloop
end Go.Proofs.YtkcakhbkoeimdaaGreatDoor
end
section
namespace Go.Proofs.YtkcakhbkoeimdaaGreatDoor
open Go.Ev
def zpR (a b:Int):Int × Int × Unit:=bif decide (a < b) then (0,6,()) else (a - b,0,())
theorem zLe {a b:Int} (ha:0 ≤ a ∧ a ≤ M62) (hb:0 ≤ b ∧ b ≤ M62):zkk (a,b,()) = some (zpR a b):=by
 simp only [zkk,extA,extB,zpR,cond_false]
 unfold M62 at *
 have h2:b ≤ a→(a - b) % 18446744073709551616 = a - b:=fun h=>by omega
 grind
theorem zIs {a b:Int} (ha:0 ≤ a ∧ a ≤ M62) (hb:0 ≤ b ∧ b ≤ M62):zfR (a,b,()) = some (zpR a b):=by
 simp only [zfR,zpR]
 unfold M62 at *
 by_cases h:b > a
 ·grind
 ·have hw:wU (a - b) = a - b:=zla (by omega)
  rw [hw]; grind
def zmb (f:zp→List Int) (s:zd) (c:Int):Int:=z6 (s.2.1.map fun x=>vU c (f x))
theorem zuH {f:zp→List Int} {s:zd} (h:∀ x ∈ s.2.1,zuC (f x)) (c:Int):0 ≤ zmb f s c:=ji fun y hy=>(zbT (h y hy) _).1
theorem zLf {s:zd} (sh:zyO s) {f:zp→List Int} {g:zp × Unit→Option (List Int × Unit)} (hg:∀ x,g (x,()) = some (f x,())) (h:∀ x ∈ s.2.1,zuC (f x)) {c:Int} (hc:qK c = true):zhH (s,c,some g,()) = some (zl9 (zmb f s c)):=by
 have hlm:10000000 ≤ lim:=by unfold lim; omega
 have hmm:10000000 ≤ Go.maxLen:=by unfold Go.maxLen; omega
 have hsh:=sh.shelves
 have hcin:=zrq hc
 have hloop:=j4 (B:=zbF) (l:=s.2.1) (α:=List Int) zf (fun i o=>o.length ≤ i ∧ ∀ x ∈ o,0 ≤ x ∧ x < U64) (fun i o=>(c,some g,s.2.1,(s.2.1.length:Int),i,o)) (fun rest o=>some (zl1 0 (o ++ rest.map fun x=>vU c (f x)))) (by omega) (fun k i x rest o hi hI hx hm hr hk=>by
  simp only [zbF]
  rw [ltT hi,zi hi,zC,hx]
  simp only [cond_true,Option.bind_some]
  rw [hg]
  simp only [Option.bind_some]
  refine Eq.trans (ixR hcin) ?_
  rw [zfl,decide_eq_true (by simp; omega)]
  simp only [cond_true]
  refine (hk _ ⟨by simp; omega,fun y hy=>?_⟩).trans ?_
  ·rcases List.mem_append.1 hy with hy | hy
   ·exact hI.2 y hy
   ·rcases List.mem_singleton.1 hy with rfl
    exact zbT (h x hm) _
  ·rw [List.append_assoc]; rfl) (fun k o hI=>by
  simp only [zbF]
  rw [ltF]
  simp only [cond_false]
  rw [zog (by omega) hI.2,List.map_nil,List.append_nil]
  rfl) [] ⟨Nat.le_refl _,fun x hx=>by cases hx⟩
 refine Eq.trans ?_ (hloop.trans ?_)
 ·rfl
 ·rw [List.nil_append,zpP _ 0 (by unfold M62; omega) fun y hy=>?_,Int.zero_add]
  ·rfl
  ·obtain ⟨z,hz,rfl⟩:=List.mem_map.1 hy
   exact (zbT (h z hz) _).1
def zrr (s:zd) (c:Int):Int × Int × Unit:=bif qK c then bif decide (zmb (fun x=>x.2.2.2.2.2.2.2.1) s c > M62) then (0,7,()) else bif decide (zmb (fun x=>x.2.2.2.2.2.2.2.2.1) s c > M62) then (0,7,()) else zpR (zmb (fun x=>x.2.2.2.2.2.2.2.1) s c) (zmb (fun x=>x.2.2.2.2.2.2.2.2.1) s c) else (0,1,())
theorem zLg {s:zd} (hs:jh s) (sh:zyO s) (c:Int):zkP (s,c,()) = some (zrr s c):=by
 simp only [zkP,zbS,Option.bind_some]
 unfold zrr
 cases hc:qK c with
 | false=>rfl
 | true =>
  have p1:=zuH (f:=fun x=>x.2.2.2.2.2.2.2.1) (fun x hx=>(hs.shelves x hx).made) c
  have p2:=zuH (f:=fun x=>x.2.2.2.2.2.2.2.2.1) (fun x hx=>(hs.shelves x hx).spent) c
  rw [zLf sh (f:=fun x=>x.2.2.2.2.2.2.2.1) (g:=zlL) (fun x=>rfl) (fun x hx=>(hs.shelves x hx).made) hc,zLf sh (f:=fun x=>x.2.2.2.2.2.2.2.2.1) (g:=zlM) (fun x=>rfl) (fun x hx=>(hs.shelves x hx).spent) hc]
  simp only [cond_true,Option.bind_some]
  generalize zmb (fun x=>x.2.2.2.2.2.2.2.1) s c = a at *
  generalize zmb (fun x=>x.2.2.2.2.2.2.2.2.1) s c = b at *
  by_cases h1:a > M62
  ·rw [j5 h1,decide_eq_true h1]; rfl
  ·rw [zay (by omega),decide_eq_false h1]
   by_cases h2:b > M62
   ·rw [j5 h2,decide_eq_true h2]; rfl
   ·rw [zay (by omega),decide_eq_false h2]
    simp only [bne_self_eq_false,cond_false]
    rw [zLe (by omega) (by omega)]; rfl
theorem zLh {s:zd} (hs:jh s) (sh:zyO s) (c:Int):zkC (s,c,()) = some (zrr s c):=by
 have hmm:10000000 ≤ Go.maxLen:=by unfold Go.maxLen; omega
 have hsh:=sh.shelves
 simp only [zkC,zkB]
 unfold zrr
 cases hc:qK c with
 | false=>unfold qK at hc; grind
 | true =>
  have hcin:=zrq hc
  have p1:=zuH (f:=fun x=>x.2.2.2.2.2.2.2.1) (fun x hx=>(hs.shelves x hx).made) c
  have p2:=zuH (f:=fun x=>x.2.2.2.2.2.2.2.2.1) (fun x hx=>(hs.shelves x hx).spent) c
  have l1:∀ (a b e:Int),0 ≤ a ∧ a ≤ M62→((e = 0 ∧ 0 ≤ b ∧ b ≤ M62) ∨ e = 7)→za9 K0 (c,a,b,e,0,s) = bif e == 0 then (bif decide (b + zmb (fun x=>x.2.2.2.2.2.2.2.2.1) s c > M62) then some (0,7,()) else some (zpR a (b + zmb (fun x=>x.2.2.2.2.2.2.2.2.1) s c))) else some (0,7,()):=fun a b e ha he =>
   j4 (B:=zeJ) (l:=s.2.1) (α:=Int × Int) zf (fun _ st=>(st.2 = 0 ∧ 0 ≤ st.1 ∧ st.1 ≤ M62) ∨ st.2 = 7) (fun i st=>(c,a,st.1,st.2,i,s)) (fun rest st=>bif st.2 == 0 then (bif decide (st.1 + z6 (rest.map fun x=>vU c x.2.2.2.2.2.2.2.2.1) > M62) then some (0,7,()) else some (zpR a (st.1 + z6 (rest.map fun x=>vU c x.2.2.2.2.2.2.2.2.1)))) else some (0,7,())) (by omega) (fun k i x rest st hi hI hx hm hr hk=>by
    obtain ⟨b,e⟩:=st
    have hrest:0 ≤ z6 (rest.map fun x:zp=>vU c x.2.2.2.2.2.2.2.2.1):=ji fun y hy=>(zbT (hs.shelves y (by rw [← hr] at hy; exact List.mem_of_mem_drop hy)).spent _).1
    simp only [zeJ]
    rw [ltT hi,zi hi,zC,hx]
    rcases hI with ⟨h0,hb⟩ | h7
    ·simp only at h0 hb
     subst h0
     have hxx:=zbT (hs.shelves x hm).spent c.toNat
     simp only [beq_self_eq_true,cond_true,List.map_cons,z6,vU]
     refine Eq.trans (ixR hcin) ?_
     rw [ze9 (by unfold M62 at hb; unfold U64; omega) hxx,zpQ,Option.bind_some]
     by_cases hh:b + List.getD x.2.2.2.2.2.2.2.2.1 c.toNat 0 > M62
     ·rw [j5 hh]
      unfold vU at hrest
      rw [decide_eq_true (by omega)]
      exact hk (0,7) (.inr rfl)
     ·rw [zay (by omega)]
      have:=hk (b + List.getD x.2.2.2.2.2.2.2.2.1 c.toNat 0,0) (.inl ⟨rfl,by have:=hxx.1; show 0 ≤ b + _ ∧ b + _ ≤ M62; omega⟩)
      refine this.trans ?_
      simp only [beq_self_eq_true,cond_true]
      rw [Int.add_assoc]; rfl
    ·simp only at h7
     subst h7
     rfl) (fun k st hI=>by
    obtain ⟨b,e⟩:=st
    simp only [zeJ]
    rw [ltF]
    rcases hI with ⟨h0,hb⟩ | h7
    ·simp only at h0 hb
     subst h0
     simp only [bne_self_eq_false,cond_false,beq_self_eq_true,cond_true,List.map_nil,z6,Int.add_zero]
     rw [zIs ha hb,decide_eq_false (by omega)]
     rfl
    ·simp only at h7
     subst h7
     rfl) (b,e) he
  have l0:=j4 (B:=fun k0=>zba (za9 K0) k0) (l:=s.2.1) (α:=Int × Int) zf (fun _ st=>(st.2 = 0 ∧ 0 ≤ st.1 ∧ st.1 ≤ M62) ∨ (st.2 = 7 ∧ st.1 = 0)) (fun i st=>(c,st.1,0,st.2,i,s)) (fun rest st=>bif st.2 == 0 then (bif decide (st.1 + z6 (rest.map fun x=>vU c x.2.2.2.2.2.2.2.1) > M62) then some (0,7,()) else za9 K0 (c,st.1 + z6 (rest.map fun x=>vU c x.2.2.2.2.2.2.2.1),0,0,0,s)) else some (0,7,())) (by omega) (fun k i x rest st hi hI hx hm hr hk=>by
   obtain ⟨a,e⟩:=st
   have hrest:0 ≤ z6 (rest.map fun x:zp=>vU c x.2.2.2.2.2.2.2.1):=ji fun y hy=>(zbT (hs.shelves y (by rw [← hr] at hy; exact List.mem_of_mem_drop hy)).made _).1
   simp only [zba]
   rw [ltT hi,zi hi,zC,hx]
   rcases hI with ⟨h0,hb⟩ | ⟨h7,ha⟩
   ·simp only at h0 hb
    subst h0
    have hxx:=zbT (hs.shelves x hm).made c.toNat
    simp only [beq_self_eq_true,cond_true,List.map_cons,z6,vU]
    refine Eq.trans (ixR hcin) ?_
    rw [ze9 (by unfold M62 at hb; unfold U64; omega) hxx,zpQ,Option.bind_some]
    by_cases hh:a + List.getD x.2.2.2.2.2.2.2.1 c.toNat 0 > M62
    ·rw [j5 hh]
     unfold vU at hrest
     rw [decide_eq_true (by omega)]
     exact hk (0,7) (.inr ⟨rfl,rfl⟩)
    ·rw [zay (by omega)]
     have:=hk (a + List.getD x.2.2.2.2.2.2.2.1 c.toNat 0,0) (.inl ⟨rfl,by have:=hxx.1; show 0 ≤ a + _ ∧ a + _ ≤ M62; omega⟩)
     refine this.trans ?_
     simp only [beq_self_eq_true,cond_true]
     rw [Int.add_assoc]; rfl
   ·simp only at h7 ha
    subst h7
    subst ha
    simp only [cond_true]
    refine (l1 0 0 7 (by unfold M62; omega) (.inr rfl)).trans ?_
    rfl) (fun k st hI=>by
   obtain ⟨a,e⟩:=st
   simp only [zba]
   rw [ltF]
   rcases hI with ⟨h0,hb⟩ | ⟨h7,ha⟩
   ·simp only at h0 hb
    subst h0
    simp only [cond_false,beq_self_eq_true,cond_true,List.map_nil,z6,Int.add_zero]
    rw [decide_eq_false (by omega)]; rfl
   ·simp only at h7 ha
    subst h7
    subst ha
    refine (l1 0 0 7 (by unfold M62; omega) (.inr rfl)).trans ?_
    rfl) (0,0) (.inl ⟨rfl,by show (0:Int) ≤ 0 ∧ (0:Int) ≤ M62; unfold M62; omega⟩)
  refine Eq.trans ?_ (l0.trans ?_)
  ·unfold qK at hc; grind
  ·simp only [beq_self_eq_true,cond_true]
   have e1:(0:Int) + z6 (s.2.1.map fun x:zp=>vU c x.2.2.2.2.2.2.2.1) = zmb (fun x=>x.2.2.2.2.2.2.2.1) s c:=by rw [Int.zero_add]; rfl
   rw [e1]
   by_cases h1:zmb (fun x=>x.2.2.2.2.2.2.2.1) s c > M62
   ·rw [decide_eq_true h1]; rfl
   ·rw [decide_eq_false h1,cond_false,cond_false,l1 _ 0 0 (by omega) (.inl ⟨rfl,by unfold M62; omega⟩),Int.zero_add]
    simp only [beq_self_eq_true,cond_true]
    cases decide (zmb (fun x=>x.2.2.2.2.2.2.2.2.1) s c > M62) <;> rfl
end Go.Proofs.YtkcakhbkoeimdaaGreatDoor
end
section
namespace Go.Proofs.YtkcakhbkoeimdaaGreatDoor
open Go.Ev
def zmz (r:za) (s:zd) (c i:Nat):Bool:=!decide (((s.2.1.getD i zf).2.2.2.2.2.2.2.1.getD c 0:Int) > (r.2.2.2.2.1.getD i qy).2.2.2.2.2.1)
def zm6 (s:zd) (c:Int):Bool:=(zrp s c).2.1 == 0 && ((zrr s c).2.1 == 0 && (zrp s c).1 == (zrr s c).1)
def qA (r:za) (s:zd):Bool:=z4 r && (zhf r s && (zcd r s && (zW (fun i=>(qY (s.2.1.getD i zf) && zpO r s i (s.2.1.getD i zf)) && zW (fun c=>zmz r s c i) 0 (4 - 0)) 0 (s.2.1.length - 0) && zW (fun c=>zm6 s (c:Int)) 0 (4 - 0))))
theorem zP9 {r:za} {s:zd} (ok:zh0 r) (sz:zfa r s):zyO s:=by
 have h1:=sz.shelves
 have h2:=ok.labels
 have h3:=ok.accounts
 have h4:=sz.orders
 have h5:=zP8 (n:=8) (l:=s.2.1) fun x hx=>by
  have:=sz.shelf x hx
  omega
 refine ⟨by omega,by omega,fun x hx=>?_,by omega⟩
 have:=sz.shelf x hx
 omega
theorem zIt {r:za} {s:zd} (ok:zh0 r) (hs:jh s) (sz:zfa r s):zf4 ((r,s,()),()) = some (zW (fun c=>zW (fun i=>zmz r s c i) 0 (s.2.1.length - 0) && zm6 s (c:Int)) 0 (4 - 0),()):=by
 rw [zB]
 have hmm:1000000 ≤ Go.maxLen:=by unfold Go.maxLen; omega
 have sh:=zP9 ok sz
 have hsh:s.2.1.length ≤ 8:=by rw [sz.shelves]; exact ok.labels.2
 have h2:=sz.shelves
 have h3:=ok.quotas
 have inner:∀ k0 (c:Nat),c < 4→zdr K0 k0 ((c:Int),(c:Int),s.2.1,(s.2.1.length:Int),0,(r,s,())) = bif zW (fun i=>zmz r s c i) 0 (s.2.1.length - 0) then bif zm6 s (c:Int) then k0 (wI ((c:Int) + 1),(r,s,())) else some (false,()) else some (false,()):=fun k0 c hc =>
  qa (B:=fun k1=>zdq k0 k1) (i0:=0) (n:=s.2.1.length) (by omega) (Nat.zero_le _) (fun i=>((c:Int),(c:Int),s.2.1,(s.2.1.length:Int),i,(r,s,()))) (fun k i _ hi=>by
   simp only [zdq]
   rw [ltT hi,zi hi,zC,Int.toNat_natCast]
   simp only [cond_true]
   refine Eq.trans (zi (n:=4) hc) ?_
   rw [zi (by omega),zC]
   unfold zmz
   grind) (fun k=>by
   simp only [zdq]
   rw [ltF,zLc hs sh,zLg hs sh]
   simp only [Option.bind_some,cond_false,zm6]
   generalize zrp s (c:Int) = h
   generalize zrr s (c:Int) = m
   grind)
 exact qa (B:=fun k0=>zds (zdr K0 k0) k0) (i0:=0) (n:=4) (by omega) (Nat.zero_le _) (fun c=>(c,(r,s,()))) (fun k c _ hc=>by
  simp only [zds]
  rw [decide_eq_true (by omega),cond_true]
  refine (inner k c hc).trans ?_
  cases zW (fun i=>zmz r s c i) 0 (s.2.1.length - 0) <;> rfl) (fun k=>rfl)
theorem zIu {r:za} {s:zd} (hr:zR r) (hs:jh s):zjb (r,s,()) = some (qA r s,()):=by
 rw [zB]
 have hmm:1000000 ≤ Go.maxLen:=by unfold Go.maxLen; omega
 simp only [zjb,zja,zvW r hr,Option.bind_some]
 unfold qA
 cases hb:z4 r with
 | false=>rfl
 | true =>
  rw [zIl hb s,Option.bind_some]
  cases hz:zhf r s with
  | false=>rfl
  | true =>
   have ok:=qG hb
   have sz:=zam hb hz
   have sh:=zP9 ok sz
   have hsh:s.2.1.length ≤ 8:=by rw [sz.shelves]; exact ok.labels.2
   have h2:=sz.shelves
   have h3:=ok.quotas
   rw [zFY hr hb hs sz,Option.bind_some]
   cases hp:zcd r s with
   | false=>rfl
   | true =>
    have l2:zdv K0 (0,s) = bif zW (fun c=>zm6 s (c:Int)) 0 (4 - 0) then some (true,()) else some (false,()) :=
     qa (i0:=0) (n:=4) (by omega) (Nat.zero_le _) (fun c=>(c,s)) (fun k c _ hc=>by
      simp only [zkY]
      rw [decide_eq_true (by omega),zLd hs sh,zLh hs sh]
      simp only [Option.bind_some,cond_true,zm6]
      generalize zrp s (c:Int) = h
      generalize zrr s (c:Int) = m
      grind) (fun k=>rfl)
    have l1:∀ k0 (i:Nat),i < s.2.1.length→zgJ K0 k0 ((i:Int),0,r,s) = bif zW (fun c=>zmz r s c i) 0 (4 - 0) then k0 (wI ((i:Int) + 1),r,s) else some (false,()):=fun k0 i hi =>
     qa (B:=fun k1=>zgI k0 k1) (i0:=0) (n:=4) (by omega) (Nat.zero_le _) (fun c=>((i:Int),c,r,s)) (fun k c _ hc=>by
      simp only [zgI]
      rw [decide_eq_true (by omega),zi hi,zi (by omega),zC,zC,Int.toNat_natCast]
      simp only [cond_true]
      refine Eq.trans (zi (n:=4) hc) ?_
      unfold zmz
      grind) (fun k=>rfl)
    have l0:zkZ K0 (0,r,s) = bif zW (fun i=>(qY (s.2.1.getD i zf) && zpO r s i (s.2.1.getD i zf)) && zW (fun c=>zmz r s c i) 0 (4 - 0)) 0 (s.2.1.length - 0) then zdv K0 (0,s) else some (false,()) :=
     qa (i0:=0) (n:=s.2.1.length) (by omega) (Nat.zero_le _) (fun i=>(i,r,s)) (fun k i _ hi=>by
      simp only [zdw]
      rw [ltT hi,zIp hr ok hs sz hi]
      have:=l1 k i hi
      rw [this]
      simp only [Option.bind_some,cond_true]
      generalize (qY (s.2.1.getD i zf) && zpO r s i (s.2.1.getD i zf)) = u
      cases u <;> rfl) (fun k=>by simp only [zdw]; rw [ltF]; rfl)
    simp only [cond_true,Bool.true_and]
    rw [l0,l2]
    grind
def zLi (r:za) (s:zd):Bool:=z4 r && (zhf r s && (s.2.1.all qY && (zcd r s && (zW (fun i=>ztF r s (i:Int) (s.2.1.getD i zf)) 0 (s.2.1.length - 0) && (zW (fun i=>zgi r (i:Int) (s.2.1.getD i zf)) 0 s.2.1.length && (zW (fun i=>zm4 (s.2.1.getD i zf)) 0 (s.2.1.length - 0) && zW (fun c=>zW (fun i=>zmz r s c i) 0 (s.2.1.length - 0) && zm6 s (c:Int)) 0 (4 - 0)))))))
theorem zQa (r:za) (s:zd):zLi r s = qA r s:=by
 rw [Bool.eq_iff_iff]
 unfold zLi qA zpO
 simp only [Bool.and_eq_true,qo,@zBA zp zf]
 constructor
 ·rintro ⟨h1,h2,h3,h4,h5,h6,h7,h8⟩
  exact ⟨h1,h2,h4,fun i hi1 hi=>⟨⟨h3 i (by omega),h5 i hi1 hi,h6 i hi1 (by omega),h7 i hi1 hi⟩,fun c hc1 hc=>(h8 c hc1 hc).1 i hi1 hi⟩,fun c hc1 hc=>(h8 c hc1 hc).2⟩
 ·rintro ⟨h1,h2,h4,h5,h6⟩
  exact ⟨h1,h2,fun i hi=>(h5 i (by omega) (by omega)).1.1,h4,fun i h7 h8=>(h5 i h7 h8).1.2.1,fun i h7 h8=>(h5 i h7 (by omega)).1.2.2.1,fun i h7 h8=>(h5 i h7 h8).1.2.2.2,fun c h7 h8=>⟨fun i h9 h10=>(h5 i h9 h10).2 c h7 h8,h6 c h7 h8⟩⟩
theorem zIv {r:za} {s:zd} (hr:zR r) (hs:jh s):zjg (r,s,()) = some (qA r s,()):=by
 rw [← zQa,zB]
 obtain ⟨m,hm⟩:=zyK
 have first:zjg (r,s,()) = zg zgN K0 (true,7,0,[some fun z=>zcb ((r,s,()),()),some fun z=>zcc ((r,s,()),()),some fun z=>zbf ((r,s,()),()),some fun z=>zf0 ((r,s,()),()),some fun z=>zbd ((r,s,()),()),some fun z=>zfY ((r,s,()),()),some fun z=>zf4 ((r,s,()),())]):=rfl
 have hu:∀ (f1 f2 f3 f4 f5 f6 f7:Option (Bool × Unit)),zg zgN (m + 8) (true,7,0,[some fun z=>f1,some fun z=>f2,some fun z=>f3,some fun z=>f4,some fun z=>f5,some fun z=>f6,some fun z=>f7]) =
  Option.bind f1 fun q=>bif q.1 then Option.bind f2 fun q=>bif q.1 then Option.bind f3 fun q=>bif q.1 then Option.bind f4 fun q=>bif q.1 then Option.bind f5 fun q=>bif q.1 then Option.bind f6 fun q=>bif q.1 then Option.bind f7 fun q=>bif q.1 then some (true,()) else some (false,()) else some (false,()) else some (false,()) else some (false,()) else some (false,()) else some (false,()) else some (false,()):=fun f1 f2 f3 f4 f5 f6 f7=>by kernel_rfl
 rw [first,hm,hu,zIk hr s,Option.bind_some]
 unfold zLi
 cases hb:z4 r with
 | false=>rfl
 | true =>
  cases hz:zhf r s with
  | false=>rfl
  | true =>
   have ok:=qG hb
   have sz:=zam hb hz
   rw [zIm ok sz,zFX hr hb hs sz,zIn hr ok sz,zFZ hr ok sz,zIo ok sz,zIt ok hs sz]
   simp only [Option.bind_some,Bool.true_and,cond_true]
   generalize s.2.1.all qY = c1
   generalize zcd r s = c2
   generalize zW (fun i=>ztF r s (i:Int) (s.2.1.getD i zf)) 0 (s.2.1.length - 0) = c3
   generalize zW (fun i=>zgi r (i:Int) (s.2.1.getD i zf)) 0 s.2.1.length = c4
   generalize zW (fun i=>zm4 (s.2.1.getD i zf)) 0 (s.2.1.length - 0) = c5
   generalize zW (fun c=>zW (fun i=>zmz r s c i) 0 (s.2.1.length - 0) && zm6 s (c:Int)) 0 (4 - 0) = c6
   cases c1 <;> cases c2 <;> cases c3 <;> cases c4 <;> cases c5 <;> cases c6 <;> rfl
def j6 (r:za) (x:pMe):Bool:=decide (0 ≤ x.1 ∧ x.1 < (r.2.1.length:Int)) && ((x.2.1:Int) == r.2.1.getD x.1.toNat 0 && qr r x.2.2.1)
theorem zlf {r:za} {s:zd} (hr:zR r) (hs:jh s) (x:pMe):jT (r,s,x,()) = some (qA r s && j6 r x,()):=by
 rw [zB]
 simp only [jT,zIv hr hs,Option.bind_some,j6,ix,qr]
 cases qA r s with
 | false=>rfl
 | true =>
  by_cases h:0 ≤ x.1 ∧ x.1 < (r.2.1.length:Int)
  ·rw [ixR h]; grind
  ·grind
theorem zLj (r:za) (x:pMe):zkD (r,x,()) = some (j6 r x,()):=by
 rw [zB]
 simp only [zkD,j6,ix,zdT,Option.bind_some]
 by_cases h:0 ≤ x.1 ∧ x.1 < (r.2.1.length:Int)
 ·rw [ixR h]; grind
 ·grind
end Go.Proofs.YtkcakhbkoeimdaaGreatDoor
end
section
namespace Go.Proofs.YtkcakhbkoeimdaaGreatDoor
open Go.Ev
theorem zlg {r:za} (hr:zR r) (i:Int):yo (r,i,()) = some (z4 r && qn r i,()):=by
 rw [zB]
 simp only [yo,zf9 r hr,Option.bind_some]
 cases hb:z4 r with
 | false=>rfl
 | true =>
  have hl:=(qG hb).labels
  have hw:wI ((r.1.length:Int) - 1) = (r.1.length:Int) - 1:=by
   have:=zhq (i:=r.1.length) (by omega) (by unfold Go.maxLen; omega)
   rw [this]; omega
  rw [hw,zdS]
  simp only [Option.bind_some,cond_true,Bool.true_and,zT,qn]
  grind
theorem zAf {r:za} (hr:zR r) (hb:z4 r = true) (a b:Int):zgg (r,a,b,()) = some (zik r a b,()):=by
 rw [zB]
 simp only [zgg,zlg hr,hb,Bool.true_and,Option.bind_some,zik,ix]
 cases ha:qn r a with
 | false=>rfl
 | true =>
  cases hbb:qn r b with
  | false=>rfl
  | true =>
   have h1:=zld hr a ha
   have h2:=zld hr b hbb
   simp only [qn,decide_eq_true_eq] at ha hbb
   rw [ixR ha,ixR hbb,zAb h1 h2]
   simp only [Option.bind_some]
   generalize zpI (r.1.getD a.toNat zA) (r.1.getD b.toNat zA) = u
   cases u <;> rfl
def eqW {α:Type} (p:α→α→Bool) (a b:List α):Bool:=decide (a.length = b.length) && (List.zip a b).all fun q=>p q.1 q.2
theorem y4 {α σ:Type} {B:(σ→Option (Bool × Unit))→σ→Option (Bool × Unit)} {a b:List α} (d:α) (p:α→α→Bool) (st:Int→σ) (hl:a.length ≤ Go.maxLen) (hab:a.length = b.length)
 (hin:∀ k (i:Nat),i < a.length→B k (st i) = bif p (a.getD i d) (b.getD i d) then k (st (wI (i + 1))) else some (false,())) {fin:Bool} (hout:∀ k,B k (st a.length) = some (fin,())) :
 zg B K0 (st 0) = some (eqW p a b && fin,()):=by
 have hz:(List.zip a b).length = a.length:=by rw [List.length_zip]; omega
 have hx:∀ i,i < a.length→(List.zip a b).getD i (d,d) = (a.getD i d,b.getD i d):=fun i hi=>zAB a b i hi (by omega)
 have:=jD (B:=B) (l:=List.zip a b) (d,d) (p:=fun q=>p q.1 q.2) (fin:=some (fin,())) (bad:=some (false,())) st (by rw [hz]; exact hl) (fun k i x hi hx' _=>?_) (fun k=>?_)
 ·rw [this]
  unfold eqW
  rw [decide_eq_true hab]
  cases (List.zip a b).all fun q=>p q.1 q.2 <;> rfl
 ·rw [hz] at hi
  rw [hx i hi] at hx'
  subst hx'
  exact hin k i hi
 ·rw [hz]; exact hout k
theorem ztG {α ρ:Type} (a b:List α) (p:α→α→Bool) (x:Option ρ) (y:Option ρ):(bif ((List.length a:Int) != (List.length b:Int)) then y else x) = bif decide (a.length = b.length) then x else y:=by
 rw [ziR]; cases decide (a.length = b.length) <;> rfl
theorem ztH {α:Type} {p:α→α→Bool} {a b:List α} (h:¬ a.length = b.length):eqW p a b = false:=by unfold eqW; rw [decide_eq_false h]; rfl
theorem zdB {α:Type} {p:α→α→Bool} {a b:List α} {x:Option (Bool × Unit)} (h:a.length = b.length→x = some (eqW p a b,())):(bif ((List.length a:Int) != (List.length b:Int)) then some (false,()) else x) = some (eqW p a b,()):=by
 rw [ztG a b p]
 by_cases hl:a.length = b.length
 ·rw [decide_eq_true hl,h hl]; rfl
 ·rw [decide_eq_false hl,ztH hl]; rfl
theorem zsd {p:Bool} {ρ:Type} (x y:ρ):(bif !p then y else x) = bif p then x else y:=by cases p <;> rfl
theorem zQ3 {ρ:Type} (u v:Int) (x y:ρ):(bif u != v then y else x) = bif u == v then x else y:=by
 show (bif !(u == v) then y else x) = _
 exact zsd _ _
theorem zLk {a b:List zr} (hl:a.length ≤ Go.maxLen):zoU (a,b,()) = some (eqL zq a b,()):=zdB (p:=eqI zq) fun h=>by
 have:=y4 (B:=zes) zK (eqI zq) (fun i=>(a,b,i)) hl h (fun k i hi=>by
  simp only [zes]
  rw [ltT hi,zi hi,zi (by omega),zC,zC,zsd]; rfl) (fin:=true) (fun k=>by simp only [zes]; rw [ltF]; rfl)
 rw [Bool.and_true] at this; exact this
theorem zLl {a b:List zI} (hl:a.length ≤ Go.maxLen):zoW (a,b,()) = some (eqL zx a b,()):=zdB (p:=eqI zx) fun h=>by
 have:=y4 (B:=zeu) yb (eqI zx) (fun i=>(a,b,i)) hl h (fun k i hi=>by
  simp only [zeu]
  rw [ltT hi,zi hi,zi (by omega),zC,zC,zsd]; rfl) (fin:=true) (fun k=>by simp only [zeu]; rw [ltF]; rfl)
 rw [Bool.and_true] at this; exact this
theorem zM6 {a b:List qU} (hl:a.length ≤ Go.maxLen):zic (a,b,()) = some (eqL qm a b,()):=zdB (p:=eqI qm) fun h=>by
 have:=y4 (B:=yF) zhr (eqI qm) (fun i=>(a,b,i)) hl h (fun k i hi=>by
  simp only [yF]
  rw [ltT hi,zi hi,zi (by omega),zC,zC,zsd]; rfl) (fin:=true) (fun k=>by simp only [yF]; rw [ltF]; rfl)
 rw [Bool.and_true] at this; exact this
theorem zM7 {a b:List qg} (hl:a.length ≤ Go.maxLen):zie (a,b,()) = some (eqL z3 a b,()):=zdB (p:=eqI z3) fun h=>by
 have:=y4 (B:=yH) qj (eqI z3) (fun i=>(a,b,i)) hl h (fun k i hi=>by
  simp only [yH]
  rw [ltT hi,zi hi,zi (by omega),zC,zC,zsd]; rfl) (fin:=true) (fun k=>by simp only [yH]; rw [ltF]; rfl)
 rw [Bool.and_true] at this; exact this
theorem zLm {a b:List qb} (hl:a.length ≤ Go.maxLen):zoY (a,b,()) = some (eqL zJ a b,()):=zdB (p:=eqI zJ) fun h=>by
 have:=y4 (B:=zew) zE (eqI zJ) (fun i=>(a,b,i)) hl h (fun k i hi=>by
  simp only [zew]
  rw [ltT hi,zi hi,zi (by omega),zC,zC,zsd]; rfl) (fin:=true) (fun k=>by simp only [zew]; rw [ltF]; rfl)
 rw [Bool.and_true] at this; exact this
theorem zLn {a b:List zU} (hl:a.length ≤ Go.maxLen):zo0 (a,b,()) = some (eqL zz a b,()):=zdB (p:=eqI zz) fun h=>by
 have:=y4 (B:=zey) ya (eqI zz) (fun i=>(a,b,i)) hl h (fun k i hi=>by
  simp only [zey]
  rw [ltT hi,zi hi,zi (by omega),zC,zC,zsd]; rfl) (fin:=true) (fun k=>by simp only [zey]; rw [ltF]; rfl)
 rw [Bool.and_true] at this; exact this
theorem zLo {a b:List zu} (hl:a.length ≤ Go.maxLen):zo2 (a,b,()) = some (eqL zw a b,()):=zdB (p:=eqI zw) fun h=>by
 have:=y4 (B:=zeA) zY (eqI zw) (fun i=>(a,b,i)) hl h (fun k i hi=>by
  simp only [zeA]
  rw [ltT hi,zi hi,zi (by omega),zC,zC,zsd]; rfl) (fin:=true) (fun k=>by simp only [zeA]; rw [ltF]; rfl)
 rw [Bool.and_true] at this; exact this
structure zLp (x:zp):Prop where
 rooms:x.1.length ≤ Go.maxLen
 exits:x.2.1.length ≤ Go.maxLen
 items:x.2.2.1.length ≤ Go.maxLen
 mails:x.2.2.2.1.length ≤ Go.maxLen
 trades:x.2.2.2.2.1.length ≤ Go.maxLen
 purses:x.2.2.2.2.2.1.length ≤ Go.maxLen
 places:x.2.2.2.2.2.2.1.length ≤ Go.maxLen
structure zSd (s:zd):Prop where
 shelves:s.2.1.length ≤ Go.maxLen
 ranks:s.2.2.1.length ≤ Go.maxLen
 orders:s.2.2.2.1.length ≤ Go.maxLen
 entries:s.2.2.2.2.1.length ≤ Go.maxLen
 seats:s.2.2.2.2.2.1.length ≤ Go.maxLen
 shelf:∀ x ∈ s.2.1,zLp x
 rank:∀ l ∈ s.2.2.1,l.length ≤ Go.maxLen
def zgj (a b:zp):Bool:=eqL qm a.1 b.1 && (eqL z3 a.2.1 b.2.1 && (eqL zJ a.2.2.1 b.2.2.1 && (eqL zz a.2.2.2.1 b.2.2.2.1 && (eqL zw a.2.2.2.2.1 b.2.2.2.2.1 && (eqL (.arr 4 tU) a.2.2.2.2.2.1 b.2.2.2.2.2.1 && (eqL zP a.2.2.2.2.2.2.1 b.2.2.2.2.2.2.1 && (eqI (.arr 4 tU) a.2.2.2.2.2.2.2.1 b.2.2.2.2.2.2.2.1 && eqI (.arr 4 tU) a.2.2.2.2.2.2.2.2.1 b.2.2.2.2.2.2.2.2.1)))))))
theorem zzj {a b:zp} (h:zLp a):zd3 (a,b,()) = some (zgj a b,()):=by
 rw [zB]
 simp only [zd3,zd2]
 rw [zM6 h.rooms,zM7 h.exits,zLm h.items,zLn h.mails,zLo h.trades]
 simp only [Option.bind_some]
 rw [ztG a.2.2.2.2.2.1 b.2.2.2.2.2.1 (eqI (.arr 4 tU)),ztG a.2.2.2.2.2.2.1 b.2.2.2.2.2.2.1 (eqI zP)]
 have key:a.2.2.2.2.2.1.length = b.2.2.2.2.2.1.length→a.2.2.2.2.2.2.1.length = b.2.2.2.2.2.2.1.length→zgq K0 (0,a,b) = some (eqL (.arr 4 tU) a.2.2.2.2.2.1 b.2.2.2.2.2.1 && eqL zP a.2.2.2.2.2.2.1 b.2.2.2.2.2.2.1,()):=fun h1 h2=>by
  have l1:=y4 (B:=yK) zJC (eqI zP) (fun i=>(i,a,b)) h.places h2 (fun k i hi=>by
   simp only [yK]
   rw [ltT hi,zi hi,zi (by omega),zC,zC,zsd]; rfl) (fin:=true) (fun k=>by simp only [yK]; rw [ltF]; rfl)
  rw [Bool.and_true] at l1
  exact y4 (B:=fun k0=>vj (zb3 K0) k0) (ze (.arr 4 tU)) (eqI (.arr 4 tU)) (fun i=>(i,a,b)) h.purses h1 (fun k i hi=>by
   simp only [vj]
   rw [ltT hi,zi hi,zi (by omega),Int.toNat_natCast,zsd]; rfl) (fun k=>by simp only [vj]; rw [ltF]; exact l1)
 unfold zgj
 by_cases h1:a.2.2.2.2.2.1.length = b.2.2.2.2.2.1.length
 ·by_cases h2:a.2.2.2.2.2.2.1.length = b.2.2.2.2.2.2.1.length
  ·rw [key h1 h2,decide_eq_true h1,decide_eq_true h2]
   generalize eqL qm a.1 b.1 = c1
   generalize eqL z3 a.2.1 b.2.1 = c2
   generalize eqL zJ a.2.2.1 b.2.2.1 = c3
   generalize eqL zz a.2.2.2.1 b.2.2.2.1 = c4
   generalize eqL zw a.2.2.2.2.1 b.2.2.2.2.1 = c5
   generalize eqL (.arr 4 tU) a.2.2.2.2.2.1 b.2.2.2.2.2.1 = c6
   generalize eqL zP a.2.2.2.2.2.2.1 b.2.2.2.2.2.2.1 = c7
   generalize eqI (.arr 4 tU) a.2.2.2.2.2.2.2.1 b.2.2.2.2.2.2.2.1 = c8
   generalize eqI (.arr 4 tU) a.2.2.2.2.2.2.2.2.1 b.2.2.2.2.2.2.2.2.1 = c9
   grind
  ·have e:eqL zP a.2.2.2.2.2.2.1 b.2.2.2.2.2.2.1 = false:=ztH h2
   rw [decide_eq_false h2,e]
   grind
 ·have e:eqL (.arr 4 tU) a.2.2.2.2.2.1 b.2.2.2.2.2.1 = false:=ztH h1
  rw [decide_eq_false h1,e]
  grind
def zIK (a b:zd):Bool:=(a.1:Int) == b.1 && (eqW zgj a.2.1 b.2.1 && (eqW (eqL tI) a.2.2.1 b.2.2.1 && (eqL zq a.2.2.2.1 b.2.2.2.1 && (eqL zx a.2.2.2.2.1 b.2.2.2.2.1 && eqL tI a.2.2.2.2.2.1 b.2.2.2.2.2.1))))
theorem zLq {a b:List (List Int)} (hl:a.length ≤ Go.maxLen) (hr:∀ l ∈ a,l.length ≤ Go.maxLen):zoS (a,b,()) = some (eqW (eqL tI) a b,()):=zdB (p:=eqL tI) fun h=>by
 have:=y4 (B:=fun k0=>za8 (zhv K0 k0) k0) ([]:List Int) (eqL tI) (fun i=>(a,b,i)) hl h (fun k i hi=>by
  simp only [za8]
  rw [ltT hi,zi hi,zi (by omega),Int.toNat_natCast]
  simp only [cond_true]
  rw [ztG (a.getD i []) (b.getD i []) (eqI tI)]
  by_cases hm:(a.getD i []).length = (b.getD i []).length
  ·rw [decide_eq_true hm,cond_true]
   have hz:(List.zip (a.getD i []) (b.getD i [])).length = (a.getD i []).length:=by rw [List.length_zip]; omega
   have:=jD (B:=fun k1=>zeq k k1) (l:=List.zip (a.getD i []) (b.getD i [])) ((0:Int),(0:Int)) (p:=fun q=>q.1 == q.2) (fin:=k (a,b,wI (i + 1))) (bad:=some (false,())) (fun j=>(a,b,(i:Int),j)) (by rw [hz]; exact hr _ (zH hi)) (fun k1 j x hj hx _=>by
    rw [hz] at hj
    rw [zAB _ _ j hj (by omega)] at hx
    subst hx
    simp only [zeq]
    rw [zi hi,zi hi,Int.toNat_natCast,ltT hj,zi hj,zi (by omega),zi (by omega),Int.toNat_natCast]
    simp only [cond_true]
    exact zQ3 _ _ _ _) (fun k1=>by
    simp only [zeq]
    rw [hz,zi hi,Int.toNat_natCast,ltF]; rfl)
   refine Eq.trans this ?_
   unfold eqL
   rw [decide_eq_true hm,Bool.true_and]
   rfl
  ·have e:eqL tI (a.getD i []) (b.getD i []) = false:=ztH hm
   rw [decide_eq_false hm,e]; rfl) (fin:=true) (fun k=>by simp only [za8]; rw [ltF]; rfl)
 rw [Bool.and_true] at this; exact this
theorem zLr {a b:zd} (h:zSd a):zeS (a,b,()) = some (zIK a b,()):=by
 rw [zB]
 simp only [zeS,zkL]
 rw [zLq h.ranks h.rank,zLk h.orders,zLl h.entries]
 simp only [Option.bind_some]
 rw [ztG a.2.1 b.2.1 zgj,ztG a.2.2.2.2.2.1 b.2.2.2.2.2.1 (eqI tI)]
 have key:a.2.1.length = b.2.1.length→a.2.2.2.2.2.1.length = b.2.2.2.2.2.1.length→zlX K0 (0,a,b) = some (eqW zgj a.2.1 b.2.1 && eqL tI a.2.2.2.2.2.1 b.2.2.2.2.2.1,()):=fun h1 h2=>by
  have l1:=y4 (B:=zeR) (0:Int) (eqI tI) (fun i=>(i,a,b)) h.seats h2 (fun k i hi=>by
   simp only [zeR]
   rw [ltT hi,zi hi,zi (by omega),zC,zC]
   simp only [cond_true]
   exact zQ3 _ _ _ _) (fin:=true) (fun k=>by simp only [zeR]; rw [ltF]; rfl)
  rw [Bool.and_true] at l1
  exact y4 (B:=fun k0=>zbc (zhI K0) k0) zf zgj (fun i=>(i,a,b)) h.shelves h1 (fun k i hi=>by
   simp only [zbc]
   rw [ltT hi,zi hi,zi (by omega),zC,zC,zzj (h.shelf _ (zH hi))]; rfl) (fun k=>by simp only [zbc]; rw [ltF]; exact l1)
 unfold zIK
 have e0:(a.1 != b.1) = !(a.1 == b.1):=rfl
 rw [e0]
 by_cases h1:a.2.1.length = b.2.1.length
 ·by_cases h2:a.2.2.2.2.2.1.length = b.2.2.2.2.2.1.length
  ·rw [key h1 h2,decide_eq_true h1,decide_eq_true h2]
   generalize eqW zgj a.2.1 b.2.1 = c1
   generalize eqW (eqL tI) a.2.2.1 b.2.2.1 = c2
   generalize eqL zq a.2.2.2.1 b.2.2.2.1 = c3
   generalize eqL zx a.2.2.2.2.1 b.2.2.2.2.1 = c4
   generalize eqL tI a.2.2.2.2.2.1 b.2.2.2.2.2.1 = c5
   generalize (a.1 == b.1) = c6
   grind
  ·have e:eqL tI a.2.2.2.2.2.1 b.2.2.2.2.2.1 = false:=ztH h2
   rw [decide_eq_false h2,e]
   grind
 ·have e:eqW zgj a.2.1 b.2.1 = false:=ztH h1
  rw [decide_eq_false h1,e]
  grind
theorem y5 {r:za} {l:List (List Int)} (h:vT r l = true):l.length = r.2.2.2.1.length ∧ ∀ g,g < r.2.2.2.1.length→(l.getD g []).length = r.2.2.1.length:=by
 simp only [vT,Bool.and_eq_true,decide_eq_true_eq,qo] at h
 refine ⟨h.1,fun g hg=>?_⟩
 have:=h.2 g (by omega) (by omega)
 simp only [zpL,Bool.and_eq_true,decide_eq_true_eq] at this
 exact this.1
theorem ql {r:za} {s:zd} (h:qA r s = true):z4 r = true ∧ zhf r s = true ∧ zcd r s = true:=by
 simp only [qA,Bool.and_eq_true] at h
 exact ⟨h.1,h.2.1,h.2.2.1⟩
theorem zt9:∀ {τ:Ty},τ.eqIn = true→∀ x:τ.I,eqI τ x x = true:=by
 intro τ
 induction τ with
 | unit=>intro _ _; rfl
 | bool=>intro _ x; exact beq_self_eq_true x
 | int k=>intro _ x; exact beq_self_eq_true (α:=Int) x
 | str=>intro _ x; exact beq_self_eq_true _
 | pair a b iha ihb =>
  intro h x
  simp only [Ty.eqIn,Bool.and_eq_true] at h
  simp only [eqI,iha h.1,ihb h.2,cond_true]
 | st a ih=>intro h x; exact ih h x
 | arr n a ih =>
  intro h x
  simp only [eqI,List.all_eq_true]
  intro p hp
  have:p.1 = p.2:=by
   obtain ⟨i,hi,rfl⟩:=List.mem_iff_getElem.1 hp
   rw [List.getElem_zip]
  rw [this]
  exact ih h _
 | _=>intro h; cases h
theorem zBC {α:Type} {p:α→α→Bool} (h:∀ x,p x x = true) (l:List α):eqW p l l = true:=by
 simp only [eqW,decide_true,Bool.true_and,List.all_eq_true]
 intro q hq
 have:q.1 = q.2:=by
  obtain ⟨i,hi,rfl⟩:=List.mem_iff_getElem.1 hq
  rw [List.getElem_zip]
 rw [this]; exact h _
theorem zaG {τ:Ty} (h:τ.eqIn = true) (l:List τ.I):eqL τ l l = true:=zBC (zt9 h) l
theorem zLs (x:zp):zgj x x = true:=by
 simp only [zgj,Bool.and_eq_true]
 exact ⟨zaG (τ:=qm) rfl _,zaG (τ:=z3) rfl _,zaG (τ:=zJ) rfl _,zaG (τ:=zz) rfl _,zaG (τ:=zw) rfl _,zaG (τ:=.arr 4 tU) rfl _,zaG (τ:=zP) rfl _,zt9 (τ:=.arr 4 tU) rfl _,zt9 (τ:=.arr 4 tU) rfl _⟩
theorem zOX (s:zd):zIK s s = true:=by
 simp only [zIK,Bool.and_eq_true]
 exact ⟨beq_self_eq_true (α:=Int) _,zBC zLs _,zBC (zaG (τ:=tI) rfl) _,zaG (τ:=zq) rfl _,zaG (τ:=zx) rfl _,zaG (τ:=tI) rfl _⟩
end Go.Proofs.YtkcakhbkoeimdaaGreatDoor
end
section
namespace Go.Proofs.YtkcakhbkoeimdaaGreatDoor
open Go.Ev
structure zLt (x:zp):Prop where
 rooms:x.1.length * 24 ≤ 140737488355328
 exits:x.2.1.length * 48 ≤ 140737488355328
 items:x.2.2.1.length * 56 ≤ 140737488355328
 mails:x.2.2.2.1.length * 48 ≤ 140737488355328
 trades:x.2.2.2.2.1.length * 72 ≤ 140737488355328
 purses:x.2.2.2.2.2.1.length * 32 ≤ 140737488355328
 places:x.2.2.2.2.2.2.1.length * 16 ≤ 140737488355328
structure zpS (s:zd):Prop where
 shelves:s.2.1.length * 232 ≤ 140737488355328
 ranks:s.2.2.1.length * 24 ≤ 140737488355328
 orders:s.2.2.2.1.length * 80 ≤ 140737488355328
 entries:s.2.2.2.2.1.length * 80 ≤ 140737488355328
 seats:s.2.2.2.2.2.1.length * 8 ≤ 140737488355328
 shelf:∀ x ∈ s.2.1,zLt x
 rank:∀ l ∈ s.2.2.1,l.length * 8 ≤ 140737488355328
theorem zLu {α:Type} {l:List α} {i:Nat} {d:α} (h:i < l.length):List.set l i (l.getD i d) = l:=by
 rw [List.getD_eq_getElem?_getD,List.getElem?_eq_getElem h]
 exact List.set_getElem_self h
theorem znK {s:zd} (h:zpS s):je (s,()) = some (s,()):=by
 have hmm:140737488355328 ≤ Go.maxLen:=by unfold Go.maxLen; omega
 have h1:=h.shelves
 have h2:=h.ranks
 have h3:=h.orders
 have h4:=h.entries
 have h5:=h.seats
 have l1:zcE K0 ((s.2.1.length:Int),0,s.1,0,s.2.1,0,s.2.2.1,s.2.2.1.length,s.2.2.2.1,s.2.2.2.2.1,s.2.2.2.2.2.1,[],0,[],0,[],[],[]) = some (s,()) :=
  yQ (α:=Unit) (B:=zcD) (len:=s.2.1.length) (by omega) (fun i _=>((s.2.1.length:Int),i,s.1,0,s.2.1,i.toNat,s.2.2.1,s.2.2.1.length,s.2.2.2.1,s.2.2.2.2.1,s.2.2.2.2.2.1,[],0,[],0,[],[],[])) (fun _ _=>some (s,())) (fun _ _=>True) (fun k i _ hi _ hk=>by
   have hx:=h.shelf _ (zH (d:=zf) hi)
   have e1:=hx.rooms
   have e2:=hx.exits
   have e3:=hx.items
   have e4:=hx.mails
   have e5:=hx.trades
   have e6:=hx.purses
   have e7:=hx.places
   have hk':=hk () trivial
   have hw:wI ((i:Int) + 1) = (i:Int) + 1:=zCl hi (by omega)
   simp only [zcD]
   rw [ltT hi,zi hi,zC]
   simp only [Int.toNat_natCast,Nat.le_refl,decide_true,cond_true]
   rw [zKN (by omega),zKO (by omega),zKP (by omega),zKQ (by omega),zvS (by omega),zOC (by omega),zMF (by omega)]
   simp only [Option.bind_some]
   rw [zi hi]
   refine Eq.trans ?_ hk'
   have hs:List.set s.2.1 i (s.2.1.getD i zf) = s.2.1:=zLu hi
   have ht:(wI ((i:Int) + 1)).toNat = i + 1:=by rw [hw]; omega
   rw [ht]
   exact congrArg (fun l=>k ((s.2.1.length:Int),wI ((i:Int) + 1),s.1,0,l,i + 1,s.2.2.1,s.2.2.1.length,s.2.2.2.1,s.2.2.2.2.1,s.2.2.2.2.2.1,[],0,[],0,[],[],[])) hs) (fun k _ _=>by
   simp only [zcD]
   rw [ltF]
   simp only [Int.toNat_natCast,decide_true,cond_true,cond_false]) () trivial
 have l0:zkq K0 ((s.2.2.1.length:Int),0,s.1,s.2.1,0,s.2.2.1,0,s.2.2.2.1,s.2.2.2.2.1,s.2.2.2.2.2.1,[],0,[],0,[],[],[]) = some (s,()) :=
  yQ (α:=Unit) (B:=fun k0=>zar (zcE K0) k0) (len:=s.2.2.1.length) (by omega) (fun i _=>((s.2.2.1.length:Int),i,s.1,s.2.1,0,s.2.2.1,i.toNat,s.2.2.2.1,s.2.2.2.2.1,s.2.2.2.2.2.1,[],0,[],0,[],[],[])) (fun _ _=>some (s,())) (fun _ _=>True) (fun k i _ hi _ hk=>by
   have hx:=h.rank _ (zH (d:=([]:List Int)) hi)
   have hk':=hk () trivial
   have hw:wI ((i:Int) + 1) = (i:Int) + 1:=zCl hi (by omega)
   simp only [zar]
   rw [ltT hi,zi hi]
   simp only [Int.toNat_natCast,Nat.le_refl,decide_true,cond_true]
   rw [zr7 (by omega)]
   simp only [Option.bind_some]
   rw [zi hi]
   refine Eq.trans ?_ hk'
   have hs:List.set s.2.2.1 i (s.2.2.1.getD i []) = s.2.2.1:=zLu hi
   have ht:(wI ((i:Int) + 1)).toNat = i + 1:=by rw [hw]; omega
   rw [ht,hs]) (fun k _ _=>by
   simp only [zar]
   rw [ltF,zH1 (by omega)]
   simp only [Int.toNat_natCast,Option.bind_some,cond_false]
   exact l1) () trivial
 simp only [je,zi1]
 rw [zvR (by omega),zH0 (by omega),zr7 (by omega),zKM (by omega)]
 simp only [Option.bind_some]
 exact l0
end Go.Proofs.YtkcakhbkoeimdaaGreatDoor
end
section
namespace Go.Proofs.YtkcakhbkoeimdaaGreatDoor
open Go.Ev
structure At (s:zd) (i w:Int):Prop where
 hi:0 ≤ i ∧ i < (s.2.1.length:Int)
 hw:0 ≤ w ∧ w < (((ix zf s.2.1 i).2.2.2.2.2.1.length:Nat):Int)
theorem zrs {s:zd} {i:Int} (hi:0 ≤ i ∧ i < (s.2.1.length:Int)):ix zf s.2.1 i ∈ s.2.1:=zH (by omega)
theorem zSq {r:za} {s:zd} (h:qA r s = true) {i w:Int} (hi:qn r i = true) (hw:qr r w = true):At s i w:=by
 obtain ⟨hb,hz,-⟩:=ql h
 have sz:=zam hb hz
 have hsl:=sz.shelves
 simp only [qn,qr,decide_eq_true_eq] at hi hw
 have h1:0 ≤ i ∧ i < (s.2.1.length:Int):=by omega
 have h2:=(sz.shelf _ (zrs h1)).2.2.2.2.2.1
 exact ⟨h1,by omega⟩
theorem zSe {r:za} (hb:z4 r = true) {x:pMe} (hm:j6 r x = true):qn r x.2.1 = true:=by
 simp only [z4,zk8,Bool.and_eq_true,decide_eq_true_eq,List.all_eq_true] at hb
 simp only [j6,Bool.and_eq_true,decide_eq_true_eq,beq_iff_eq] at hm
 have:=hb.2.1.2 _ (zH (d:=(0:Int)) (i:=x.1.toNat) (by omega))
 rw [← hm.2.1] at this
 simp only [qn,decide_eq_true_eq]
 exact this
theorem zSr {r:za} {s:zd} (h:qA r s = true) {x:pMe} (hm:j6 r x = true):At s x.2.1 x.2.2.1:=by
 have hw:qr r x.2.2.1 = true:=by
  simp only [j6,Bool.and_eq_true] at hm; exact hm.2.2
 exact zSq h (zSe (ql h).1 hm) hw
end Go.Proofs.YtkcakhbkoeimdaaGreatDoor
end
section
namespace Go.Proofs.YtkcakhbkoeimdaaGreatDoor
open Go.Ev
theorem bnd {α β:Type} {x:Option α} {a:α} {f:α→Option β} (h:x = some a):Option.bind x f = f a:=by rw [h]; rfl
theorem cT {α:Type} {b:Bool} {x y:α} (h:b = true):cond b x y = x:=by rw [h]; rfl
theorem cF {α:Type} {b:Bool} {x y:α} (h:b = false):cond b x y = y:=by rw [h]; rfl
theorem geF {n:Nat} {i:Int} {ρ:Type} {x y:ρ} (h:0 ≤ i ∧ i < (n:Int)):cond (decide (n ≤ Int.toNat i)) x y = y:=cF (decide_eq_false (by omega))
theorem zAg {α:Type} {l:List α} {i:Nat} {x d:α} (h:i < l.length):(List.set l i x).getD i d = x:=by
 rw [List.getD_eq_getElem?_getD,List.getElem?_set_self h]; rfl
theorem getD_set_ne {α:Type} {l:List α} {i j:Nat} {x d:α} (h:i ≠ j):(List.set l i x).getD j d = l.getD j d:=by
 rw [List.getD_eq_getElem?_getD,List.getElem?_set_ne h,List.getD_eq_getElem?_getD]
def zNA (x:zp):Bool:=decide (x.1.length * 24 ≤ 140737488355328) && (decide (x.2.1.length * 48 ≤ 140737488355328) && (decide (x.2.2.1.length * 56 ≤ 140737488355328) && (decide (x.2.2.2.1.length * 48 ≤ 140737488355328) && (decide (x.2.2.2.2.1.length * 72 ≤ 140737488355328) && (decide (x.2.2.2.2.2.1.length * 32 ≤ 140737488355328) && decide (x.2.2.2.2.2.2.1.length * 16 ≤ 140737488355328))))))
def zIL (s:zd):Bool:=decide (s.2.1.length * 232 ≤ 140737488355328) && (decide (s.2.2.1.length * 24 ≤ 140737488355328) && (decide (s.2.2.2.1.length * 80 ≤ 140737488355328) && (decide (s.2.2.2.2.1.length * 80 ≤ 140737488355328) && (decide (s.2.2.2.2.2.1.length * 8 ≤ 140737488355328) && (s.2.1.all zNA && s.2.2.1.all fun l=>decide (l.length * 8 ≤ 140737488355328))))))
theorem zQ4 {s:zd} (h:zIL s = true):zpS s:=by
 simp only [zIL,Bool.and_eq_true,decide_eq_true_eq,List.all_eq_true] at h
 obtain ⟨h1,h2,h3,h4,h5,h6,h7⟩:=h
 refine ⟨h1,h2,h3,h4,h5,fun x hx=>?_,h7⟩
 have:=h6 x hx
 simp only [zNA,Bool.and_eq_true,decide_eq_true_eq] at this
 obtain ⟨a,b,c,d,e,f,g⟩:=this
 exact ⟨a,b,c,d,e,f,g⟩
noncomputable def zQb (x:zd × Unit):Option (zd × Unit):=bif zIL x.1 then some x else je x
theorem zQ5:je = zQb:=by
 funext ⟨s,u⟩
 cases u
 unfold zQb
 cases h:zIL s with
 | true=>exact znK (zQ4 h)
 | false=>rfl
theorem zM8 {x:zp} (h:zLt x):zLp x:=by
 have hm:140737488355328 ≤ Go.maxLen:=by unfold Go.maxLen; omega
 obtain ⟨e1,e2,e3,e4,e5,e6,e7⟩:=h
 exact ⟨by omega,by omega,by omega,by omega,by omega,by omega,by omega⟩
theorem zQc {s:zd} (h:zpS s):zSd s:=by
 have hm:140737488355328 ≤ Go.maxLen:=by unfold Go.maxLen; omega
 obtain ⟨e1,e2,e3,e4,e5,e6,e7⟩:=h
 exact ⟨by omega,by omega,by omega,by omega,by omega,fun x hx=>zM8 (e6 x hx),fun l hl=>by have:=e7 l hl; omega⟩
theorem zBD:zpS (0,[],[],[],[],[],()):=⟨Nat.zero_le _,Nat.zero_le _,Nat.zero_le _,Nat.zero_le _,Nat.zero_le _,fun x hx=>(by cases hx),fun x hx=>(by cases hx)⟩
theorem wf_u64 {x:Int} (h:(Lit.int .u64 x).wf = true):zgO x:=by
 unfold Lit.wf at h
 simp only [Bool.and_eq_true,decide_eq_true_eq] at h
 have e1:IntKind.min .u64 = 0:=by decide
 have e2:IntKind.max .u64 = 18446744073709551615:=by decide
 rw [e1,e2] at h
 exact ⟨h.1,Int.lt_of_le_of_lt h.2 (by decide)⟩
theorem realmIn {r:za} (h:InR zl r):zR r:=by
 obtain ⟨hl,h2⟩:=h
 refine ⟨fun a ha=>?_,h2.2.2.1.1,h2.2.2.2.1.1⟩
 have h3:(Lit.int .u64 a.2.1).wf = true:=(hl.2 a ha).2.1
 exact wf_u64 h3
theorem zLv {a:List Int} (h:InR (.arr 4 tU) a):zuC a:=fun x hx=>wf_u64 (h.2 x hx)
theorem zNB {x:zj2} (h:InR zdY x):zgO x.2.1:=wf_u64 (show (Lit.int .u64 x.2.1).wf = true from h.2.1)
theorem zRH {x:zp} (h:InR zv x):ztE x:=by
 obtain ⟨-,-,-,-,h5,h6,-,h8,h9,-⟩:=h
 refine ⟨fun t ht=>?_,fun a ha=>zLv (h6.2 a ha),zLv h8,zLv h9⟩
 obtain ⟨-,-,-,g1,g2,-⟩:=h5.2 t ht
 exact ⟨zNB g1,zNB g2⟩
theorem zRI {x:zr} (h:InR zq x):zh1 x:=by
 obtain ⟨-,-,-,-,-,-,h7,h8,h9,-⟩:=h
 exact ⟨wf_u64 h7,wf_u64 h8,wf_u64 h9⟩
theorem zRJ {x:zI} (h:InR zx x):zoo x:=by
 obtain ⟨-,-,-,-,-,-,-,h8,h9,-⟩:=h
 exact ⟨wf_u64 h8,wf_u64 h9⟩
theorem stateIn {s:zd} (h:InR zo s):jh s:=by
 obtain ⟨-,h2,-,h4,h5,-⟩:=h
 exact ⟨fun x hx=>zRH (h2.2 x hx),fun x hx=>zRI (h4.2 x hx),fun x hx=>zRJ (h5.2 x hx)⟩
def zQ6:zd:=(0,[],[],[],[],[],())
theorem zQd {n:Nat} (h:n ≤ 2000000):n ≤ lim:=by unfold lim; omega
theorem zSf {n:Nat} (h:n ≤ 2000000):n ≤ Go.maxLen:=by unfold Go.maxLen; omega
theorem zRK {r:za} {s:zd} (h:qA r s = true):zpS s:=by
 obtain ⟨hb,hz,hp⟩:=ql h
 have ok:=qG hb
 have sz:=zam hb hz
 have h1:=ok.labels
 have h2:=ok.lines
 have h3:=ok.accounts
 have h4:=sz.shelves
 have h5:=sz.orders
 have h6:=sz.entries
 have h7:=sz.people
 have h8:=ok.guilds
 have hh:vT r s.2.2.1 = true:=by simp only [zcd,Bool.and_eq_true] at hp; exact hp.1
 have hr:=y5 hh
 refine ⟨by omega,by omega,by omega,by omega,by omega,fun x hx=>?_,fun l hl=>?_⟩
 ·have:=sz.shelf x hx
  exact ⟨by omega,by omega,by omega,by omega,by omega,by omega,by omega⟩
 ·obtain ⟨i,hi,rfl⟩:=List.mem_iff_getElem.1 hl
  have:=hr.2 i (by omega)
  rw [List.getD_eq_getElem?_getD,List.getElem?_eq_getElem hi] at this
  have this:(s.2.2.1[i]).length = _:=this
  omega
end Go.Proofs.YtkcakhbkoeimdaaGreatDoor
end
section
namespace Go.Proofs.YtkcakhbkoeimdaaGreatDoor
open Go.Ev
theorem zyP {α:Type} {p:α→Bool}:∀ (l:List α) (i:Int),0 ≤ i→qx p l i = -1 ∨ (i ≤ qx p l i ∧ qx p l i < i + l.length)
 | [],_,_=>.inl rfl
 | x :: l,i,h=>by
  simp only [qx]
  cases p x with
  | true=>right; simp only [cond_true,List.length_cons]; omega
  | false =>
   simp only [cond_false,List.length_cons]
   rcases zyP (p:=p) l (i + 1) (by omega) with e | e
   ·exact .inl e
   ·right; omega
def toV (x:qb) (h:zyJ):qb:=(x.1,x.2.1,h.1,h.2.1,h.2.2.1,())
end Go.Proofs.YtkcakhbkoeimdaaGreatDoor
end
section
namespace Go.Proofs.YtkcakhbkoeimdaaGreatDoor
open Go.Ev
abbrev zNC (s:zd) (me:pMe):List qb:=(ix zf s.2.1 me.2.1).2.2.1
abbrev zF1 (s:zd) (i w:Int):vn:=List.getD (ix zf s.2.1 i).2.2.2.2.2.2.1 (Int.toNat w) (ze zP)
abbrev zQe (s:zd) (me:pMe):vn:=zF1 s me.2.1 me.2.2.1
structure Ctx (r:za) (s:zd) (me:pMe):Prop where
 rs:qA r s = true
 im:j6 r me = true
theorem Ctx.hi {r:za} {s:zd} {me:pMe} (x:Ctx r s me):0 ≤ me.2.1 ∧ me.2.1 < (s.2.1.length:Int):=(zSr x.rs x.im).hi
theorem Ctx.shelf {r:za} {s:zd} {me:pMe} (x:Ctx r s me):(ix zf s.2.1 me.2.1).2.2.1.length ≤ 12 ∧ (ix zf s.2.1 me.2.1).2.2.2.2.2.2.1.length = r.2.2.1.length:=by
 obtain ⟨hb,hz,-⟩:=ql x.rs
 have h:=(zam hb hz).shelf _ (zrs x.hi)
 exact ⟨h.2.2.1,h.2.2.2.2.2.2⟩
theorem Ctx.small {r:za} {s:zd} {me:pMe} (x:Ctx r s me):(zNC s me).length ≤ 2000000:=Nat.le_trans x.shelf.1 (by omega)
theorem Ctx.who {r:za} {s:zd} {me:pMe} (x:Ctx r s me):qr r me.2.2.1 = true:=by
 have:=x.im
 simp only [j6,Bool.and_eq_true] at this; exact this.2.2
theorem Ctx.place {r:za} {s:zd} {me:pMe} (x:Ctx r s me) {w:Int} (hw:qr r w = true):0 ≤ w ∧ w < ((ix zf s.2.1 me.2.1).2.2.2.2.2.2.1.length:Int):=by
 simp only [qr,decide_eq_true_eq] at hw
 rw [x.shelf.2]; exact hw
theorem Ctx.slots {r:za} {s:zd} {me:pMe} (x:Ctx r s me):(zNC s me).all vc = true:=by
 have h:=x.rs
 have hi:=x.hi
 simp only [qA,Bool.and_eq_true,qo] at h
 have:=(h.2.2.2.1 me.2.1.toNat (Nat.zero_le _) (by omega)).1.1
 simp only [qY,Bool.and_eq_true] at this
 exact this.2.2.1
theorem zLw {r:za} {s:zd} {me:pMe} (x:Ctx r s me):zkn (s,me,()) = some (zQe s me,()):=by
 simp only [zkn]
 refine (ixR x.hi).trans ?_
 exact ixR (x.place x.who)
end Go.Proofs.YtkcakhbkoeimdaaGreatDoor
end
section
namespace Go.Proofs.YtkcakhbkoeimdaaGreatDoor
open Go.Ev
theorem zmA {r:za} {s:zd} (hr:zR r) (hs:jh s) (me:pMe):zdR (r,s,me,()) = some (qA r s && j6 r me,()):=by
 rw [zB]
 simp only [zdR,zIu hr hs,zLj,Option.bind_some]
 grind
theorem Ctx.items {r:za} {s:zd} {me:pMe} (x:Ctx r s me) {i:Nat} (hi:i < s.2.1.length):(s.2.1.getD i zf).2.2.1.length ≤ 12 ∧ (s.2.1.getD i zf).2.2.1.all vc = true:=by
 obtain ⟨hb,hz,-⟩:=ql x.rs
 have h:=(zam hb hz).shelf _ (zH (d:=zf) hi)
 have h':=x.rs
 simp only [qA,Bool.and_eq_true,qo] at h'
 have:=(h'.2.2.2.1 i (Nat.zero_le _) (by omega)).1.1
 simp only [qY,Bool.and_eq_true] at this
 exact ⟨h.2.2.1,this.2.2.1⟩
theorem zSg {a b:List Int} (hl:a.length ≤ Go.maxLen):zag (a,b,()) = some (eqL tI a b,()):=zdB (p:=eqI tI) fun h=>by
 have:=y4 (B:=zeo) (0:Int) (eqI tI) (fun i=>(a,b,i)) hl h (fun k i hi=>by
  simp only [zeo]
  rw [ltT hi,zi hi,zi (by omega),zC,zC,zQ3]; rfl) (fin:=true) (fun k=>by simp only [zeo]; rw [ltF]; rfl)
 rw [Bool.and_true] at this; exact this
end Go.Proofs.YtkcakhbkoeimdaaGreatDoor
end
section
namespace Go.Proofs.YtkcakhbkoeimdaaGreatDoor
open Go.Ev
theorem zSs {x:zp} (h:WtR zv x):zLt x:=by
 obtain ⟨h1,h2,h3,h4,h5,h6,h7,-⟩:=h
 have hb:reachBytes ≤ 140737488355328:=by decide
 exact ⟨Nat.le_trans h1.1 hb,Nat.le_trans h2.1 hb,Nat.le_trans h3.1 hb,Nat.le_trans h4.1 hb,Nat.le_trans h5.1 hb,Nat.le_trans h6.1 hb,Nat.le_trans h7.1 hb⟩
theorem wt_fits {s:zd} (h:WtR zo s):zpS s:=by
 obtain ⟨-,h2,h3,h4,h5,h6,-⟩:=h
 have hb:reachBytes ≤ 140737488355328:=by decide
 exact ⟨Nat.le_trans h2.1 hb,Nat.le_trans h3.1 hb,Nat.le_trans h4.1 hb,Nat.le_trans h5.1 hb,Nat.le_trans h6.1 hb,fun x hx=>zSs (h2.2 x hx),fun l hl=>Nat.le_trans (h3.2 l hl).1 hb⟩
end Go.Proofs.YtkcakhbkoeimdaaGreatDoor
end
section
namespace Go.Proofs.YtkcakhbkoeimdaaGreatDoor
open Go.Ev
structure zSE (r:za) (s:zd) (i:Int) (x:zp) (l:List qb):Prop where
 len:l.length = x.2.2.1.length
 ok:l.all vc = true
 below:l.all (zff r s i) = true
 who:l.all (zjU r) = true
 deals:zm4 (u2 x l) = true
end Go.Proofs.YtkcakhbkoeimdaaGreatDoor
end
section
namespace Go.Proofs.YtkcakhbkoeimdaaGreatDoor
open Go.Ev
def zlh (r:za) (i:Nat):Int:=r.2.1.getD i 0
end Go.Proofs.YtkcakhbkoeimdaaGreatDoor
end
section
namespace Go.Proofs.YtkcakhbkoeimdaaGreatDoor
open Go.Ev
theorem ztI {l:List Int} {a:Int} (hl:l.length ≤ Go.maxLen):ve (l,a,()) = some (l.any fun y=>a == y,()):=by
 have h:zlO (l,a,()) = some (qx (fun y=>a == y) l 0,()) :=
  zpF (B:=zbr) (l:=l) (0:Int) (fun i=>(l,a,(l.length:Int),i)) hl (fun k i x hi hx _=>by
   simp only [zbr]
   rw [ltT hi,zi hi,zC,hx]; rfl) (fun k=>by simp only [zbr]; rw [ltF]; rfl)
 simp only [ve]
 rw [h,Option.bind_some,zuf (p:=fun y=>a == y) l 0 (Int.le_refl 0)]
 cases l.any fun y=>a == y <;> rfl
theorem zrt (a b:Int):zfd (a,b,()) = some (decide (0 ≤ a ∧ a < b),()):=by simp only [zfd]; grind
theorem zQ7 {c:Int} (hc:0 ≤ c) {b:Int} (hb:0 ≤ b ∧ b < 64):(((jY c.toNat).map Int.ofNat).any fun y=>b == y) = j3 c b.toNat:=by
 obtain ⟨n,rfl⟩:=Int.eq_ofNat_of_zero_le hb.1
 rw [Bool.eq_iff_iff,List.any_eq_true,Int.toNat_natCast]
 unfold j3 jY
 constructor
 ·rintro ⟨x,hx,e⟩
  obtain ⟨m,hm,rfl⟩:=List.mem_map.1 hx
  obtain rfl:n = m:=by
   have:=eq_of_beq e
   exact Int.ofNat.inj this
  exact (List.mem_filter.1 hm).2
 ·intro h
  exact ⟨(n:Int),List.mem_map.2 ⟨n,List.mem_filter.2 ⟨by simp; omega,h⟩,rfl⟩,by simp⟩
def y6 (r:za) (i:Int):List Int:=(List.range r.2.2.2.1.length).filterMap fun g=>bif j3 (r.1.getD i.toNat zA).2.1 (r.2.2.2.1.getD g zD).1.toNat then some (g:Int) else none
theorem zLx {r:za} (hb:z4 r = true):∀ g ∈ r.2.2.2.1,0 ≤ g.1 ∧ g.1 < 64:=by
 simp only [z4,zhV,Bool.and_eq_true] at hb
 intro g hg
 have:=zrl _ _ hb.2.2.2.1.2.1 g hg
 simp only [vb,Bool.and_eq_true,decide_eq_true_eq] at this
 exact this
theorem ztJ {r:za} (hr:zR r) (i:Int) (hi:qn r i = true):y0 (r,i,()) = some (bif z4 r then y6 r i else [],()):=by
 simp only [y0,zhO,zlg hr,Option.bind_some,hi,Bool.and_true]
 cases hb:z4 r with
 | false=>rfl
 | true =>
  have hc:=zld hr i hi
  simp only [qn,decide_eq_true_eq] at hi
  have ok:=qG hb
  have hg:=ok.guilds
  have hbits:=zLx hb
  have hin:zgV (r.1.getD i.toNat zA,()) = some ((jY (r.1.getD i.toNat zA).2.1.toNat).map Int.ofNat,()):=by
   unfold zgV
   rw [decide_eq_true (show 0 ≤ (r.1.getD i.toNat zA).2.1 ∧ (r.1.getD i.toNat zA).2.1 < 18446744073709551616 from hc)]; rfl
  have:=yQ (B:=zbQ) (len:=r.2.2.2.1.length) (by unfold Go.maxLen; omega) (fun j o=>(i,r.2.2.2.1,(r.2.2.2.1.length:Int),j,r,o))
   (fun j o=>some (o ++ (List.range' j (r.2.2.2.1.length - j)).filterMap fun g=>bif j3 (r.1.getD i.toNat zA).2.1 (r.2.2.2.1.getD g zD).1.toNat then some (g:Int) else none,())) (fun j o=>o.length ≤ j) (fun k j o hj hI h=>by
    simp only [zbQ]
    rw [ltT hj,zi hj,ixR hi,zC]
    simp only [cond_true]
    rw [show ix zA r.1 i = r.1.getD i.toNat zA from rfl,hin,Option.bind_some,ztI (by rw [List.length_map]; have:=zJE (r.1.getD i.toNat zA).2.1.toNat; unfold Go.maxLen; omega),Option.bind_some,zQ7 hc.1 (hbits _ (zH hj)),zfl,zm2 (by simp; omega)]
    have e:List.range' j (r.2.2.2.1.length - j) = j :: List.range' (j + 1) (r.2.2.2.1.length - (j + 1)):=by
     rw [show r.2.2.2.1.length - j = (r.2.2.2.1.length - (j + 1)) + 1 by omega,List.range'_succ]
    rw [e,List.filterMap_cons]
    cases j3 (r.1.getD i.toNat zA).2.1 (r.2.2.2.1.getD j zD).1.toNat with
    | true =>
     simp only [cond_true]
     rw [h _ (by rw [List.length_append]; simp; omega),List.append_assoc]; rfl
    | false =>
     simp only [cond_false]
     rw [h _ (by omega)]) (fun k o _=>by
    simp only [zbQ]
    rw [ltF,Nat.sub_self]; simp) [] (Nat.le_refl 0)
  refine Eq.trans this ?_
  unfold y6
  rw [List.nil_append,Nat.sub_zero,List.range_eq_range']; rfl
def qL (l:List (List Int)) (g:Nat) (who:Int):Int:=(l.getD g []).getD who.toNat 0
def zaH (r:za) (l:List (List Int)) (who i:Int):Bool:=zW (fun g=>!j3 (r.1.getD i.toNat zA).2.1 (r.2.2.2.1.getD g zD).1.toNat || qL l g who != 0) 0 r.2.2.2.1.length && decide ((r.1.getD i.toNat zA).1 ≤ (r.2.2.1.getD who.toNat qt).2.2.1)
theorem zF2 {r:za} (hr:zR r) (hb:z4 r = true) {l:List (List Int)} (hl:vT r l = true) (who i:Int):zhQ (r,l,who,i,()) = some (qr r who && (qn r i && zaH r l who i),()):=by
 rw [zB]
 have ok:=qG hb
 have hg:=ok.guilds
 simp only [zhQ,zpM hr,hb,hl,zrt,Option.bind_some,Bool.and_self,cond_true]
 rw [show decide (0 ≤ who ∧ who < (r.2.2.1.length:Int)) = qr r who from rfl,show decide (0 ≤ i ∧ i < (r.1.length:Int)) = qn r i from rfl]
 cases hw:qr r who with
 | false=>rfl
 | true =>
  cases hi:qn r i with
  | false=>rfl
  | true =>
   have hw':=hw
   have hi':=hi
   simp only [qr,qn,decide_eq_true_eq] at hw' hi'
   have hrl:=y5 hl
   have hc1:∀ g ∈ y6 r i,zbs (g,some l,some who,()) = some (qL l g.toNat who == 0,()):=by
    intro g hg'
    obtain ⟨m,hm,hm2⟩:=List.mem_filterMap.1 hg'
    cases hh:j3 (r.1.getD i.toNat zA).2.1 (r.2.2.2.1.getD m zD).1.toNat with
    | false=>rw [hh] at hm2; cases hm2
    | true =>
     rw [hh] at hm2
     cases hm2
     have hm':m < r.2.2.2.1.length:=by simpa using hm
     rw [zB]
     simp only [zbs,Option.bind_some,Int.toNat_natCast]
     rw [zi (by omega),ixR (by rw [hrl.2 m hm']; exact hw')]
     rfl
   rw [ixR hw',ixR hi',ztJ hr i hi,hb]
   simp only [Option.bind_some,cond_true,Bool.true_and]
   have hlen:(y6 r i).length ≤ Go.maxLen:=by
    have:=List.length_filterMap_le (fun g=>bif j3 (r.1.getD i.toNat zA).2.1 (r.2.2.2.1.getD g zD).1.toNat then some (g:Int) else none) (List.range r.2.2.2.1.length)
    rw [List.length_range] at this
    unfold y6 Go.maxLen
    omega
   have hcf:qv (y6 r i,some fun z=>zbs (z.1,some l,some who,()),()) = some ((y6 r i).any fun g=>qL l g.toNat who == 0,()):=zal (p:=fun g=>qL l g.toNat who == 0) hlen hc1
   rw [hcf,Option.bind_some]
   have key:((y6 r i).any fun g=>qL l g.toNat who == 0) = !zW (fun g=>!j3 (r.1.getD i.toNat zA).2.1 (r.2.2.2.1.getD g zD).1.toNat || qL l g who != 0) 0 r.2.2.2.1.length:=by
    rw [Bool.eq_iff_iff,List.any_eq_true]
    constructor
    ·rintro ⟨g,hg1,hg2⟩
     obtain ⟨m,hm,hm2⟩:=List.mem_filterMap.1 hg1
     have hm':m < r.2.2.2.1.length:=by simpa using hm
     cases hh:j3 (r.1.getD i.toNat zA).2.1 (r.2.2.2.1.getD m zD).1.toNat with
     | false=>rw [hh] at hm2; cases hm2
     | true =>
      rw [hh] at hm2
      cases hm2
      cases ha:zW (fun g=>!j3 (r.1.getD i.toNat zA).2.1 (r.2.2.2.1.getD g zD).1.toNat || qL l g who != 0) 0 r.2.2.2.1.length with
      | false=>rfl
      | true =>
       have:=qo.1 ha m (Nat.zero_le _) (by omega)
       rw [hh] at this
       simp at this
       rw [Int.toNat_natCast] at hg2
       exact absurd (eq_of_beq hg2) this
    ·intro ha
     rw [Bool.not_eq_true',← Bool.not_eq_true,qo] at ha
     simp only [Classical.not_forall] at ha
     obtain ⟨m,h1,h2,h3⟩:=ha
     simp only [Bool.or_eq_true,Bool.not_eq_true',bne_iff_ne,ne_eq,not_or,Bool.not_eq_false,Classical.not_not] at h3
     refine ⟨(m:Int),List.mem_filterMap.2 ⟨m,by simp; omega,by rw [h3.1]; rfl⟩,?_⟩
     rw [Int.toNat_natCast,h3.2]; rfl
   rw [key]
   unfold zaH
   rw [show (ix qt r.2.2.1 who) = r.2.2.1.getD who.toNat qt from rfl,show ix zA r.1 i = r.1.getD i.toNat zA from rfl]
   generalize zW (fun g=>!j3 (r.1.getD i.toNat zA).2.1 (r.2.2.2.1.getD g zD).1.toNat || qL l g who != 0) 0 r.2.2.2.1.length = u
   grind
theorem zEa {r:za} (hr:zR r) (hb:z4 r = true) {l:List (List Int)} (hl:vT r l = true) (who i:Int):zgA (r,l,who,i,()) = some (qr r who && (qn r i && zaH r l who i),()):=by
 rw [zB]
 have ok:=qG hb
 have hg:=ok.guilds
 have hrl:=y5 hl
 simp only [zgA,zgz]
 cases hw:qr r who with
 | false =>
  simp only [qr,decide_eq_false_iff_not] at hw
  grind
 | true =>
  cases hi:qn r i with
  | false =>
   simp only [qr,qn,decide_eq_false_iff_not,decide_eq_true_eq] at hw hi
   grind
  | true =>
   have hc:=zld hr i hi
   simp only [qr,qn,decide_eq_true_eq] at hw hi
   have hbits:=zLx hb
   rw [decide_eq_false (by omega),decide_eq_false (by omega),decide_eq_false (by omega),decide_eq_false (by omega)]
   simp only [cond_false,Bool.true_and]
   have hloop:=qa (B:=zaM) (i0:=0) (n:=r.2.2.2.1.length) (by unfold Go.maxLen; omega) (Nat.zero_le _) (p:=fun g=>!j3 (r.1.getD i.toNat zA).2.1 (r.2.2.2.1.getD g zD).1.toNat || qL l g who != 0)
    (fin:=bif decide ((r.1.getD i.toNat zA).1 ≤ (r.2.2.1.getD who.toNat qt).2.2.1) then some (true,()) else some (false,())) (bad:=some (false,())) (fun g=>(l,who,i,g,r)) (fun k g _ hgg=>by
     simp only [zaM]
     rw [ltT hgg,ixR hi,zi hgg,zC,ziK _ _ hc.1 (hbits _ (zH hgg))]
     simp only [cond_true,Option.bind_some]
     cases j3 (r.1.getD i.toNat zA).2.1 (r.2.2.2.1.getD g zD).1.toNat with
     | false=>rfl
     | true =>
      rw [zi (by omega),Int.toNat_natCast,ixR (by rw [hrl.2 g hgg]; exact hw)]
      simp only [cond_true,Bool.not_true,Bool.false_or]
      show (bif qL l g who == 0 then _ else _) = bif !(qL l g who == 0) then _ else _
      cases qL l g who == 0 <;> rfl) (fun k=>by
     simp only [zaM]
     rw [ltF,cond_false,ixR hi,ixR hw])
   refine Eq.trans hloop ?_
   unfold zaH
   rw [Nat.sub_zero]
   cases zW (fun g=>!j3 (r.1.getD i.toNat zA).2.1 (r.2.2.2.1.getD g zD).1.toNat || qL l g who != 0) 0 r.2.2.2.1.length <;> rfl
theorem zRL {r:za} {s:zd} (h:qA r s = true) {i:Nat} (hi:i < s.2.2.2.2.2.1.length):s.2.2.2.2.2.1.getD i 0 = -1 ∨ qr r (s.2.2.2.2.2.1.getD i 0) = true:=by
 have hp:=(ql h).2.2
 simp only [zcd,Bool.and_eq_true,List.all_eq_true] at hp
 have:=hp.2.2.2.2.2.2 _ (zH (d:=(0:Int)) hi)
 simp only [zl6,Bool.or_eq_true,beq_iff_eq] at this
 exact this
theorem zRM {r:za} (hb:z4 r = true) {i:Nat} (hi:i < r.2.1.length):qn r (r.2.1.getD i 0) = true:=by
 simp only [z4,zk8,Bool.and_eq_true,List.all_eq_true,decide_eq_true_eq] at hb
 have:=hb.2.1.2 _ (zH (d:=(0:Int)) hi)
 simp only [qn,decide_eq_true_eq]
 exact this
end Go.Proofs.YtkcakhbkoeimdaaGreatDoor
end
section
namespace Go.Proofs.YtkcakhbkoeimdaaGreatDoor
open Go.Ev
abbrev zND (s:zd) (p:Int):List zU:=(ix zf s.2.1 p).2.2.2.1
theorem Ctx.at_ {r:za} {s:zd} {me:pMe} (x:Ctx r s me) {p:Int} (hp:qn r p = true):0 ≤ p ∧ p < (s.2.1.length:Int):=by
 obtain ⟨hb,hz,-⟩:=ql x.rs
 have:=(zam hb hz).shelves
 simp only [qn,decide_eq_true_eq] at hp
 omega
theorem Ctx.lab {r:za} {s:zd} {me:pMe} (x:Ctx r s me):qn r me.2.1 = true:=by
 obtain ⟨hb,hz,-⟩:=ql x.rs
 have h1:=(zam hb hz).shelves
 have:=x.hi
 simp only [qn,decide_eq_true_eq]
 omega
theorem Ctx.mails {r:za} {s:zd} {me:pMe} (x:Ctx r s me) {p:Int} (hp:qn r p = true):(zND s p).length ≤ 12 ∧ (zND s p).all ziL = true:=by
 obtain ⟨hb,hz,-⟩:=ql x.rs
 have hi:=x.at_ hp
 have h:=(zam hb hz).shelf _ (zrs hi)
 have h':=x.rs
 simp only [qA,Bool.and_eq_true,qo] at h'
 have:=(h'.2.2.2.1 p.toNat (Nat.zero_le _) (by omega)).1.1
 simp only [qY,Bool.and_eq_true] at this
 exact ⟨h.2.2.2.1,this.2.2.2.1⟩
end Go.Proofs.YtkcakhbkoeimdaaGreatDoor
end
section
namespace Go.Proofs.YtkcakhbkoeimdaaGreatDoor
open Go.Ev
theorem ztK {a b:zt}:zbR a b < 0 ↔ (a.1:Int) < b.1 ∨ ((a.1:Int) = b.1 ∧ (a.2.1:Int) < b.2.1):=by
 obtain ⟨a1,a2,u⟩:=a
 obtain ⟨b1,b2,v⟩:=b
 show orV (zhc a1 b1) (zhc a2 b2) < 0 ↔ (a1:Int) < b1 ∨ ((a1:Int) = b1 ∧ (a2:Int) < b2)
 generalize (show Int from a1) = a1 at *
 generalize (show Int from b1) = b1 at *
 generalize (show Int from a2) = a2 at *
 generalize (show Int from b2) = b2 at *
 unfold orV zhc
 grind
theorem zAh {l:List zt} (h:jZ l = true) {j:Nat} (hj:j + 1 < l.length):zbR (l.getD j zA) (l.getD (j + 1) zA) < 0:=by
 simp only [jZ,Bool.and_eq_true,qo,decide_eq_true_eq] at h
 have:=h.2.2.2 (j + 1) (by omega) (by omega)
 exact this
theorem zpT {l:List zt} (h:jZ l = true):∀ (n j:Nat),j + n + 1 < l.length→zbR (l.getD j zA) (l.getD (j + n + 1) zA) < 0
 | 0,j,hj=>zAh h hj
 | n + 1,j,hj=>by
  have h1:=ztK.1 (zpT h n j (by omega))
  have h2:=ztK.1 (zAh h (j:=j + n + 1) (by omega))
  rw [show j + (n + 1) + 1 = j + n + 1 + 1 by omega]
  rw [ztK]
  omega
theorem zpU {a b:zt}:eqI zj a b = true ↔ (a.1:Int) = b.1 ∧ (a.2.1:Int) = b.2.1:=by
 rw [zm1,Bool.and_eq_true,beq_iff_eq,beq_iff_eq]
theorem zQf {l:List zt} (h:jZ l = true) {i j:Nat} (hi:i < l.length) (hj:j < l.length) (e:eqI zj (l.getD i zA) (l.getD j zA) = true):i = j:=by
 rw [zpU] at e
 rcases Nat.lt_trichotomy i j with c | c | c
 ·have:=ztK.1 (zpT h (j - i - 1) i (by omega))
  rw [show i + (j - i - 1) + 1 = j by omega] at this
  omega
 ·exact c
 ·have:=ztK.1 (zpT h (i - j - 1) j (by omega))
  rw [show j + (i - j - 1) + 1 = i by omega] at this
  omega
theorem zEb (a b:zt):eqI zj a b = eqI zj b a:=by
 rw [Bool.eq_iff_iff,zpU,zpU]
 constructor <;> (intro h; exact ⟨h.1.symm,h.2.symm⟩)
theorem zBE {α:Type} {p:α→Bool} (d:α):∀ (l:List α) (i:Int),0 ≤ i→¬ qx p l i < 0→p (l.getD (qx p l i - i).toNat d) = true
 | [],i,h,hn=>absurd (show qx p [] i < 0 from (by decide:(-1:Int) < 0)) hn
 | x :: l,i,h,hn=>by
  simp only [qx] at hn ⊢
  cases hp:p x with
  | true =>
   rw [hp] at hn
   simp only [cond_true]
   rw [show (i - i).toNat = 0 by omega]; exact hp
  | false =>
   rw [hp] at hn
   simp only [cond_false] at hn ⊢
   have h1:=zBE (p:=p) d l (i + 1) (by omega) hn
   have h2:=zyP (p:=p) l (i + 1) (by omega)
   have h3:(qx p l (i + 1) - i).toNat = (qx p l (i + 1) - (i + 1)).toNat + 1:=by
    rcases h2 with h2 | h2 <;> omega
   rw [h3]; exact h1
theorem zOY {l:List zt} (h:jZ l = true) (a:zt) {n:Nat} (hn:n < l.length):(qx (fun y=>eqI zj y a) l 0 == (n:Int)) = eqI zj a (l.getD n zA):=by
 cases e:eqI zj a (l.getD n zA) with
 | true =>
  have h1:=zNx (d:=zA) (p:=fun y=>eqI zj y a) l n 0 hn (by rw [zEb]; exact e)
  rw [Int.zero_add] at h1
  rw [h1,qo]
  intro j hj hj2
  cases e2:eqI zj (l.getD j zA) a with
  | false=>rfl
  | true =>
   have e3:eqI zj (l.getD j zA) (l.getD n zA) = true:=by
    rw [zpU] at e e2 ⊢
    exact ⟨e2.1.trans e.1,e2.2.trans e.2⟩
   have:=zQf h (by omega) hn e3
   omega
 | false =>
  rw [beq_eq_false_iff_ne]
  intro e2
  have h1:=zBE (p:=fun y=>eqI zj y a) zA l 0 (Int.le_refl 0) (by rw [e2]; omega)
  rw [e2,Int.sub_zero,Int.toNat_natCast,zEb] at h1
  rw [e] at h1
  cases h1
def zO (r:za) (i:Int):Int:=qx (fun g:zL=>eqI zj (vh g.1) (ix zA r.1 i)) r.2.2.2.1 0
theorem zmc {r:za} (hb:z4 r = true):jZ r.1 = true ∧ ∀ g ∈ r.2.2.2.1,vb g.1 = true:=by
 simp only [z4,zhV,Bool.and_eq_true] at hb
 exact ⟨hb.1,zrl _ _ hb.2.2.2.1.2.1⟩
theorem zzk {l:List zL} {g:zL × Unit→Option (Bool × Unit)} {p:zL→Bool} (hl:l.length ≤ Go.maxLen) (hp:∀ x ∈ l,g (x,()) = some (p x,())):zaZ (l,some g,()) = some (qx p l 0,()):=qF (τ:=ja) (B:=zdO) (fun _ _ _ _ _=>rfl) hl hp
theorem zyn {r:za} {i:Int} (h:qn r i = true):0 ≤ i ∧ i < (r.1.length:Int):=by
 simp only [qn,decide_eq_true_eq] at h; exact h
theorem zLy {r:za} {i:Int} (h:qr r i = true):0 ≤ i ∧ i < (r.2.2.1.length:Int):=by
 simp only [qr,decide_eq_true_eq] at h; exact h
theorem zEc {r:za} (hr:zR r) (hb:z4 r = true) {i:Int} (hi:qn r i = true):zgL (r,i,()) = some (zO r i,()):=by
 have hg:=(qG hb).guilds
 simp only [zgL]
 refine (bnd (zlg hr i)).trans ?_
 rw [hb,hi]
 refine (cT rfl).trans ?_
 have e:zaZ (r.2.2.2.1,some fun z=>zaK (z.1,some r,some i,()),()) = some (zO r i,()):=zzk (p:=fun g:zL=>eqI zj (vh g.1) (ix zA r.1 i)) (by unfold Go.maxLen; omega) fun g hgm=>by
  show zaK (g,some r,some i,()) = some (eqI zj (vh g.1) (ix zA r.1 i),())
  simp only [zaK]
  refine (bnd (zpE g.1)).trans ?_
  rw [(zmc hb).2 g hgm]
  refine (bnd (a:=r) rfl).trans ?_
  refine (bnd (a:=i) rfl).trans ?_
  refine (ixR (zyn hi)).trans ?_
  show cond (eqI zj (vh g.1) (ix zA r.1 i)) _ _ = _
  cases eqI zj (vh g.1) (ix zA r.1 i) <;> rfl
 exact bnd e
theorem zF3 {r:za} (hb:z4 r = true) {k:Nat} (hk:k < r.2.2.2.1.length):zhF (r,(k:Int),()) = some (qx (fun y=>eqI zj y (vh (r.2.2.2.1.getD k zD).1)) r.1 0,()):=by
 have hl:=(qG hb).labels
 simp only [zhF]
 refine (cF (decide_eq_false (by omega))).trans ?_
 refine (cF (decide_eq_false (by omega))).trans ?_
 refine (zi hk).trans ?_
 rw [zC]
 refine (bnd (zyf _ ((zmc hb).2 _ (zH hk)))).trans ?_
 exact bnd (zvV (by unfold Go.maxLen; omega))
theorem zEd {r:za} (hb:z4 r = true) {i:Int} (hi:qn r i = true):zkJ (r,i,()) = some (zO r i,()):=by
 have hg:=(qG hb).guilds
 have hi':=zyn hi
 obtain ⟨n,rfl⟩:=Int.eq_ofNat_of_zero_le hi'.1
 have e:zO r (n:Int) = qx (fun g:zL=>eqI zj (vh g.1) (r.1.getD n zA)) r.2.2.2.1 0:=by
  unfold zO; rw [zC]
 rw [e]
 exact zpF (B:=zaO) (l:=r.2.2.2.1) zD (p:=fun g:zL=>eqI zj (vh g.1) (r.1.getD n zA)) (fun k=>((n:Int),k,r)) (by unfold Go.maxLen; omega) (fun k i x hi2 hx _=>by
  simp only [zaO]
  rw [ltT hi2]
  refine (cT rfl).trans ?_
  refine (bnd (zF3 hb hi2)).trans ?_
  rw [hx]
  show cond (qx (fun y=>eqI zj y (vh x.1)) r.1 0 == (n:Int)) _ _ = _
  rw [zOY (zmc hb).1 _ (by omega)]) (fun k=>by simp only [zaO]; rw [ltF]; rfl)
theorem zBF {r:za} {i:Int} (h:¬ zO r i < 0):0 ≤ zO r i ∧ zO r i < (r.2.2.2.1.length:Int):=by
 have:=zyP (p:=fun g:zL=>eqI zj (vh g.1) (ix zA r.1 i)) r.2.2.2.1 0 (Int.le_refl 0)
 unfold zO at h ⊢
 omega
def zru (k now:Int) (f:Bool):Int × Int × Unit :=
 bif k == 1 then bif now != 0 then (0,4,()) else (1,0,()) else bif k == 2 then bif now == 0 then (0,3,()) else bif now == 2 then (0,4,()) else (2,0,()) else bif now == 0 then (0,3,()) else bif f then (0,5,()) else (0,0,())
def zb7 (l:List (List Int)) (g who n:Int):List (List Int):=List.set l g.toNat (List.set (l.getD g.toNat []) who.toNat n)
def ztL (r:za) (l:List (List Int)) (k g who:Int):Int × Int × Unit:=zru k (qL l g.toNat who) (((ix zD r.2.2.2.1 g).2.1:Int) == who)
def zyo (l:List (List Int)) (g who:Int) (v:Int × Int × Unit):List (List Int) × Int × Unit:=bif v.2.1 != 0 then ([],v.2.1,()) else (zb7 l g who v.1,0,())
def zli (r:za) (l:List (List Int)) (k place by' who:Int):List (List Int) × Int × Unit :=
 bif vT r l && (qn r place && (qr r by' && qr r who)) then
  bif decide (zO r place < 0) then ([],17,()) else
  bif zaH r l by' place && qL l (zO r place).toNat by' == 2 then zyo l (zO r place) who (ztL r l k (zO r place) who) else ([],5,())
 else ([],1,())
theorem zyp {α:Type} {l:List α} {j:Nat} (d:α) (h:j < l.length):l.take j ++ [l.getD j d] = l.take (j + 1):=by
 rw [List.take_add_one,List.getD_eq_getElem?_getD,List.getElem?_eq_getElem h]; rfl
theorem zQ8 {l:List (List Int)} (h8:l.length ≤ 8) (hrows:∀ x ∈ l,x.length ≤ 8) {g who n:Int} (hg:0 ≤ g ∧ g < (l.length:Int)) (hw:0 ≤ who ∧ who < ((l.getD g.toNat []).length:Int)):zk2 K0 (who,g,n,l,(l.length:Int),0,[],0) = some (zb7 l g who n,0,()):=by
 have:=yQ (B:=zhb) (α:=List (List Int)) (len:=l.length) (by unfold Go.maxLen; omega) (fun i o=>(who,g,n,l,(l.length:Int),i,o,o.length)) (fun _ _=>some (zb7 l g who n,0,())) (fun i o=>o = l.take i) (fun k i o hi hI hk=>by
  have hx:=hrows _ (zH (d:=([]:List Int)) hi)
  have hl:o.length = i:=by rw [hI,List.length_take]; omega
  have hk':=hk _ ((congrArg (· ++ [l.getD i []]) hI).trans (zyp [] hi))
  simp only [zhb]
  rw [ltT hi]
  refine (cT rfl).trans ?_
  refine (zi hi).trans ?_
  rw [Int.toNat_natCast]
  refine (bnd (zz9 (zQd (by omega)))).trans ?_
  refine (cT (zm2 (by simp; omega))).trans ?_
  refine (cT (by simp)).trans ?_
  rw [List.length_append] at hk'
  exact hk') (fun k o hI=>by
  have e:o = l:=hI.trans (List.take_length)
  simp only [zhb]
  rw [ltF,e]
  refine (cF rfl).trans ?_
  refine (ixR hg).trans ?_
  refine (geF hg).trans ?_
  exact ixR hw) [] rfl
 exact this
theorem zyq {r:za} (hb:z4 r = true) {l:List (List Int)} (h:vT r l = true):l.length ≤ 8 ∧ ∀ x ∈ l,x.length ≤ 8:=by
 obtain ⟨h1,h2⟩:=y5 h
 have ok:=qG hb
 have hg:=ok.guilds
 have ha:=ok.accounts
 refine ⟨by omega,fun x hx=>?_⟩
 obtain ⟨i,hi,rfl⟩:=List.mem_iff_getElem.1 hx
 have:=h2 i (by omega)
 rw [List.getD_eq_getElem?_getD,List.getElem?_eq_getElem hi] at this
 have e:(l[i]).length = r.2.2.1.length:=this
 omega
theorem zmd {r:za} {l:List (List Int)} (h:vT r l = true) {g:Int} (hg:0 ≤ g ∧ g < (r.2.2.2.1.length:Int)) {w:Int} (hw:qr r w = true):0 ≤ w ∧ w < ((l.getD g.toNat []).length:Int):=by
 have:=(y5 h).2 g.toNat (by omega)
 rw [this]; exact zLy hw
theorem zuI {r:za} (hr:zR r) (hb:z4 r = true) (l:List (List Int)) {f:Int × Bool × Unit→Option (Int × Int × Unit)} {k:Int} (hf:∀ now b,f (now,b,()) = some (zru k now b)) (place by' who:Int):zhR (r,l,place,by',who,some f,()) = some (zli r l k place by' who):=by
 simp only [zhR,zoe]
 refine (bnd (zpM hr l)).trans ?_
 rw [hb]
 unfold zli
 cases hh:vT r l with
 | false=>rfl
 | true =>
  refine (cT rfl).trans ?_
  refine (bnd (zrt place _)).trans ?_
  show cond (qn r place) _ _ = _
  cases hp:qn r place with
  | false=>rfl
  | true =>
   refine (cT rfl).trans ?_
   refine (bnd (zrt by' _)).trans ?_
   show cond (qr r by') _ _ = _
   cases hy:qr r by' with
   | false=>rfl
   | true =>
    refine (cT rfl).trans ?_
    refine (bnd (zrt who _)).trans ?_
    show cond (qr r who) _ _ = _
    cases hw:qr r who with
    | false=>rfl
    | true =>
     refine (cT rfl).trans ?_
     refine (bnd (zEc hr hb hp)).trans ?_
     show _ = some (bif decide (zO r place < 0) then ([],17,()) else bif zaH r l by' place && qL l (zO r place).toNat by' == 2 then zyo l (zO r place) who (ztL r l k (zO r place) who) else ([],5,()))
     by_cases hn:zO r place < 0
     ·refine (cT (decide_eq_true hn)).trans ?_
      rw [decide_eq_true hn]; rfl
     ·refine (cF (decide_eq_false hn)).trans ?_
      rw [decide_eq_false hn]
      have hg:=zBF hn
      have hgl:0 ≤ zO r place ∧ zO r place < (l.length:Int):=by rw [(y5 hh).1]; exact hg
      refine (bnd (zF2 hr hb hh by' place)).trans ?_
      rw [hy,hp]
      show cond (zaH r l by' place) _ _ = _
      cases zaH r l by' place with
      | false=>rfl
      | true =>
       refine (cT rfl).trans ?_
       refine (ixR hgl).trans ?_
       refine (ixR (zmd hh hg hy)).trans ?_
       show cond (!(qL l (zO r place).toNat by' == 2)) _ _ = _
       cases qL l (zO r place).toNat by' == 2 with
       | false=>rfl
       | true =>
        refine (cF rfl).trans ?_
        refine (ixR hgl).trans ?_
        refine (ixR (zmd hh hg hw)).trans ?_
        refine (ixR hg).trans ?_
        obtain ⟨h8,hrw⟩:=zyq hb hh
        have lp:=fun n=>zQ8 (n:=n) h8 hrw hgl (zmd hh hg hw)
        show _ = some (zyo l (zO r place) who (ztL r l k (zO r place) who))
        unfold zyo ztL
        have e:∀ b:Bool,(Option.bind (some f) fun q6=>Option.bind (q6 (qL l (zO r place).toNat who,b,())) fun q7=>bif q7.2.1 != 0 then some ([],q7.2.1,()) else zk2 K0 (who,zO r place,q7.1,l,(l.length:Int),0,[],0)) = some (bif (zru k (qL l (zO r place).toNat who) b).2.1 != 0 then ([],(zru k (qL l (zO r place).toNat who) b).2.1,()) else (zb7 l (zO r place) who (zru k (qL l (zO r place).toNat who) b).1,0,())):=fun b=>by
         refine (bnd (a:=f) rfl).trans ?_
         refine (bnd (hf _ b)).trans ?_
         generalize zru k (qL l (zO r place).toNat who) b = v
         cases v.2.1 != 0 with
         | true=>rfl
         | false=>exact (cF rfl).trans (lp v.1)
        cases hfo:((ix zD r.2.2.2.1 (zO r place)).2.1:Int) == who with
        | true=>exact (cT rfl).trans (e true)
        | false=>exact (cF rfl).trans (e false)
theorem zIw {r:za} (hr:zR r) (hb:z4 r = true) (l:List (List Int)) (place by' who:Int):zjh (r,l,place,by',who,()) = some (zli r l 1 place by' who):=by
 simp only [zjh]
 exact bnd (zuI (k:=1) hr hb l (fun now b=>by
  show (bif now != 0 then some (0,4,()) else some (1,0,())) = some (bif now != 0 then (0,4,()) else (1,0,()))
  cases now != 0 <;> rfl) place by' who)
theorem zLz {r:za} (hr:zR r) (hb:z4 r = true) (l:List (List Int)) (place by' who:Int):zk3 (r,l,place,by',who,()) = some (zli r l 2 place by' who):=by
 simp only [zk3]
 exact bnd (zuI (k:=2) hr hb l (fun now b=>by
  show (bif now == 0 then some (0,3,()) else bif now == 2 then some (0,4,()) else some (2,0,())) = some (bif now == 0 then (0,3,()) else bif now == 2 then (0,4,()) else (2,0,()))
  cases now == 0 <;> cases now == 2 <;> rfl) place by' who)
theorem zLA {r:za} (hr:zR r) (hb:z4 r = true) (l:List (List Int)) (place by' who:Int):zk4 (r,l,place,by',who,()) = some (zli r l 3 place by' who):=by
 simp only [zk4]
 exact bnd (zuI (k:=3) hr hb l (fun now b=>by
  show (bif now == 0 then some (0,3,()) else bif b then some (0,5,()) else some (0,0,())) = some (bif now == 0 then (0,3,()) else bif b then (0,5,()) else (0,0,()))
  cases now == 0 <;> cases b <;> rfl) place by' who)
theorem zLB {l:List (List Int)} {g who n:Int} (hg:0 ≤ g) (i:Nat) (hi:i < l.length):(zb7 l g who n).getD i [] = if g = (i:Int) then List.set (l.getD i []) who.toNat n else l.getD i []:=by
 unfold zb7
 by_cases e:g = (i:Int)
 ·rw [if_pos e,e,Int.toNat_natCast,zAg hi]
 ·rw [if_neg e,getD_set_ne (by omega)]
theorem zM9 {l:List (List Int)} (h8:l.length ≤ 8) (hrows:∀ x ∈ l,x.length ≤ 8) {g who:Int} (n:Int) (hg:0 ≤ g) (hw:0 ≤ who):qu (l,g,who,n,()) = some (zb7 l g who n,()):=by
 have hlen:(zb7 l g who n).length = l.length:=List.length_set ..
 have hrow:∀ i,i < l.length→((zb7 l g who n).getD i []).length = (l.getD i []).length:=fun i hi=>by
  rw [zLB hg i hi]
  split
  ·exact List.length_set ..
  ·rfl
 have hel:∀ i,i < l.length→∀ j,j < (l.getD i []).length→((zb7 l g who n).getD i []).getD j 0 = bif (i:Int) == g then bif (j:Int) == who then n else (l.getD i []).getD j 0 else (l.getD i []).getD j 0:=fun i hi j hj=>by
  rw [zLB hg i hi]
  by_cases e:g = (i:Int)
  ·rw [if_pos e,e,beq_self_eq_true,cond_true]
   by_cases e2:who = (j:Int)
   ·rw [e2,beq_self_eq_true,cond_true,Int.toNat_natCast]; exact zAg hj
   ·rw [beq_eq_false_iff_ne.2 (fun h=>e2 h.symm),cond_false]; exact getD_set_ne (by omega)
  ·rw [if_neg e,beq_eq_false_iff_ne.2 (fun h=>e h.symm),cond_false]
 have inner:∀ k0 (i:Nat) (o:List (List Int)),i < l.length→o.length = i→(∀ o',o' = o ++ [(zb7 l g who n).getD i []]→k0 (l,g,who,n,wI ((i:Int) + 1),o',o'.length) = some (zb7 l g who n,()))→zfU K0 k0 (l,g,who,n,(i:Int),0,o,o.length,[]) = some (zb7 l g who n,()):=fun k0 i o hi hI hk=>by
  have hx:=hrows _ (zH (d:=([]:List Int)) hi)
  exact yQ (B:=fun k1=>zfT k0 k1) (α:=List Int) (len:=(l.getD i []).length) (by unfold Go.maxLen; omega) (fun j e=>(l,g,who,n,(i:Int),j,o,o.length,e)) (fun _ _=>some (zb7 l g who n,())) (fun j e=>e = ((zb7 l g who n).getD i []).take j) (fun k1 j e hj hJ hk1=>by
   have hle:e.length = j:=by rw [hJ,List.length_take,hrow i hi]; omega
   have hk2:=hk1 _ ((congrArg (· ++ [((zb7 l g who n).getD i []).getD j 0]) hJ).trans (zyp 0 (by rw [hrow i hi]; exact hj)))
   rw [hel i hi j hj] at hk2
   simp only [zfT]
   rw [zi hi,Int.toNat_natCast,ltT hj,zfl,zfl,zm2 (by simp; omega),zm2 (by simp; omega)]
   refine (cT rfl).trans ?_
   cases e1:(i:Int) == g with
   | true =>
    rw [e1] at hk2
    refine (cT rfl).trans ?_
    cases e2:(j:Int) == who with
    | true =>
     rw [e2] at hk2
     exact (cT rfl).trans ((cT rfl).trans hk2)
    | false =>
     rw [e2] at hk2
     refine (cF rfl).trans ?_
     refine (zi hi).trans ?_
     refine (zi hj).trans ?_
     exact (cT rfl).trans hk2
   | false =>
    rw [e1] at hk2
    refine (cF rfl).trans ?_
    refine (zi hi).trans ?_
    refine (zi hj).trans ?_
    exact (cT rfl).trans hk2) (fun k1 e hJ=>by
   have he:e = (zb7 l g who n).getD i []:=by
    rw [hJ,← hrow i hi,List.take_length]
   simp only [zfT]
   rw [zi hi,Int.toNat_natCast,ltF]
   refine (cF rfl).trans ?_
   refine (cT (zm2 (by simp; omega))).trans ?_
   refine (cT (by simp)).trans ?_
   have:=hk _ (congrArg (fun z=>o ++ [z]) he)
   rw [List.length_append] at this
   exact this) [] rfl
 have:=yQ (B:=fun k0=>zca (zfU K0 k0) k0) (α:=List (List Int)) (len:=l.length) (by unfold Go.maxLen; omega) (fun i o=>(l,g,who,n,i,o,o.length)) (fun _ _=>some (zb7 l g who n,())) (fun i o=>o = (zb7 l g who n).take i) (fun k i o hi hI hk=>by
  have hle:o.length = i:=by rw [hI,List.length_take,hlen]; omega
  simp only [zca]
  rw [ltT hi]
  refine (cT rfl).trans ?_
  exact inner k i o hi hle fun o' ho=>hk o' (by rw [ho,hI]; exact zyp [] (by rw [hlen]; exact hi))) (fun k o hI=>by
  have e:o = zb7 l g who n:=by rw [hI,← hlen,List.take_length]
  simp only [zca]
  rw [ltF,e]; rfl) [] rfl
 exact this
theorem zNE {r:za} {l:List (List Int)} (h:vT r l = true) {g:Int} (hg:0 ≤ g ∧ g < (r.2.2.2.1.length:Int)) {w:Int} (hw:qr r w = true):0 ≤ qL l g.toNat w ∧ qL l g.toNat w ≤ 2:=by
 have hr:=zmd h hg hw
 have hl:=(y5 h).1
 simp only [vT,Bool.and_eq_true,qo,decide_eq_true_eq] at h
 have h1:=h.2 g.toNat (Nat.zero_le _) (by omega)
 simp only [zpL,Bool.and_eq_true,List.all_eq_true] at h1
 have:=h1.2.1 _ (zH (l:=l.getD g.toNat []) (i:=w.toNat) (d:=(0:Int)) (by omega))
 simp only [zyj,decide_eq_true_eq] at this
 exact this
theorem zSh {r:za} {p b w:Int} {ρ:Type} {x y:ρ} (h:(qn r p && (qr r b && qr r w)) = false):(bif decide (p < 0) then x else bif decide (p ≥ (r.1.length:Int)) then x else bif decide (b < 0) then x else bif decide (b ≥ (r.2.2.1.length:Int)) then x else bif decide (w < 0) then x else bif decide (w ≥ (r.2.2.1.length:Int)) then x else y) = x:=by
 simp only [qn,qr] at h
 grind
theorem zRN {r:za} {p b w:Int} {ρ:Type} {x y:ρ} (h:(qn r p && (qr r b && qr r w)) = true):(bif decide (p < 0) then x else bif decide (p ≥ (r.1.length:Int)) then x else bif decide (b < 0) then x else bif decide (b ≥ (r.2.2.1.length:Int)) then x else bif decide (w < 0) then x else bif decide (w ≥ (r.2.2.1.length:Int)) then x else y) = y:=by
 simp only [qn,qr,Bool.and_eq_true,decide_eq_true_eq] at h
 rw [decide_eq_false (by omega),decide_eq_false (by omega),decide_eq_false (by omega),decide_eq_false (by omega),decide_eq_false (by omega),decide_eq_false (by omega)]
 rfl
theorem zNa {r:za} (hr:zR r) (hb:z4 r = true) (l:List (List Int)) {k:Int} (hk:k = 1 ∨ k = 2 ∨ k = 3) (place by' who:Int):zmv (r,l,k,place,by',who,()) = some (zli r l k place by' who):=by
 simp only [zmv]
 refine (bnd (zvZ hr l)).trans ?_
 rw [hb]
 unfold zli
 cases hh:vT r l with
 | false=>rfl
 | true =>
  refine (cT rfl).trans ?_
  cases h6:qn r place && (qr r by' && qr r who) with
  | false=>exact zSh h6
  | true =>
   refine (zRN h6).trans ?_
   simp only [Bool.and_eq_true] at h6
   obtain ⟨hp,hy,hw⟩:=h6
   refine (bnd (zEd hb hp)).trans ?_
   show _ = some (bif decide (zO r place < 0) then ([],17,()) else bif zaH r l by' place && qL l (zO r place).toNat by' == 2 then zyo l (zO r place) who (ztL r l k (zO r place) who) else ([],5,()))
   by_cases hn:zO r place < 0
   ·refine (cT (decide_eq_true hn)).trans ?_
    rw [decide_eq_true hn]; rfl
   ·refine (cF (decide_eq_false hn)).trans ?_
    rw [decide_eq_false hn]
    have hg:=zBF hn
    have hgl:0 ≤ zO r place ∧ zO r place < (l.length:Int):=by rw [(y5 hh).1]; exact hg
    refine (bnd (zEa hr hb hh by' place)).trans ?_
    rw [hy,hp]
    show cond (zaH r l by' place) _ _ = _
    cases zaH r l by' place with
    | false=>rfl
    | true =>
     have h2:=zNE hh hg hy
     have h3:=zNE hh hg hw
     refine (cT rfl).trans ?_
     refine (ixR hgl).trans ?_
     refine (ixR (zmd hh hg hy)).trans ?_
     show cond (decide (qL l (zO r place).toNat by' < 2)) _ _ = _
     by_cases e2:qL l (zO r place).toNat by' = 2
     ·rw [decide_eq_false (by omega),beq_iff_eq.2 e2]
      refine (cF rfl).trans ?_
      refine (ixR hgl).trans ?_
      refine (ixR (zmd hh hg hw)).trans ?_
      obtain ⟨h8,hrw⟩:=zyq hb hh
      have st:=fun n:Int=>zM9 h8 hrw n hg.1 (zLy hw).1
      show _ = some (zyo l (zO r place) who (zru k (qL l (zO r place).toNat who) (((ix zD r.2.2.2.1 (zO r place)).2.1:Int) == who)))
      have hf:List.getD (List.getD l (Int.toNat (zO r place)) ([]:List Int)) (Int.toNat who) (0:Int) = qL l (zO r place).toNat who:=rfl
      rw [hf]
      generalize qL l (zO r place).toNat who = now at *
      unfold zyo zru
      have hs:∀ n:Int,(Option.bind (qu (l,zO r place,who,n,())) fun q3=>some (q3.1,(0:Int),())) = some (zb7 l (zO r place) who n,0,()):=fun n=>bnd (st n)
      rcases hk with rfl | rfl | rfl
      ·by_cases e0:now = 0
       ·subst e0
        exact hs 1
       ·rw [bne_iff_ne.2 e0]
        exact (cT rfl).trans ((cT (decide_eq_true (by omega))).trans rfl)
      ·by_cases e3:now = 2
       ·subst e3; rfl
       ·rw [beq_eq_false_iff_ne.2 e3]
        by_cases e0:now = 0
        ·subst e0; rfl
        ·rw [beq_eq_false_iff_ne.2 e0]
         exact hs 2
      ·by_cases e0:now = 0
       ·subst e0; rfl
       ·rw [beq_eq_false_iff_ne.2 e0]
        refine Eq.trans (b:=inR (zO r place) ((List.length r.2.2.2.1):Int) (bif (ix zD r.2.2.2.1 (zO r place)).2.1 == who then some ([],5,()) else Option.bind (qu (l,zO r place,who,Int.tmod 3 3,())) fun q3=>some (q3.1,0,()))) rfl ?_
        refine (ixR hg).trans ?_
        cases ((ix zD r.2.2.2.1 (zO r place)).2.1:Int) == who with
        | true=>rfl
        | false=>exact (cF rfl).trans (hs 0)
     ·rw [decide_eq_true (by omega),beq_eq_false_iff_ne.2 e2]
      rfl
end Go.Proofs.YtkcakhbkoeimdaaGreatDoor
end
section
namespace Go.Proofs.YtkcakhbkoeimdaaGreatDoor
open Go.Ev
theorem zQg:zji () = some (true,()):=by
 simp only [zji,zmy,zr5,ze7,zQ5]
 kernel_rfl
end Go.Proofs.YtkcakhbkoeimdaaGreatDoor
end
section
namespace Go.Proofs.YtkcakhbkoeimdaaGreatDoor
open Go.Ev
def zEe (p:Nat→Bool) (n:Nat):List Int:=((List.range n).filter p).map Int.ofNat
theorem zQ9 (p:Nat→Bool) (n:Nat):(zEe p n).length ≤ n:=by
 unfold zEe
 rw [List.length_map]
 exact Nat.le_trans (List.length_filter_le _ _) (by rw [List.length_range]; exact Nat.le_refl n)
theorem zGF {σ:Type} {B:(σ→Option (List Int × Unit))→σ→Option (List Int × Unit)} {n:Nat} (hn:n ≤ 1000) {p:Nat→Bool} (st:Int→List Int→σ)
 (hin:∀ k (i:Nat) o,i < n→o.length ≤ i→B k (st i o) = bif p i then k (st (wI (i + 1)) (o ++ [(i:Int)])) else k (st (wI (i + 1)) o)) (hout:∀ k o,B k (st n o) = some (o,())):zg B K0 (st 0 []) = some (zEe p n,()):=by
 have:=yQ (B:=B) (α:=List Int) (len:=n) (by unfold Go.maxLen; omega) st (fun i o=>some (o ++ ((List.range' i (n - i)).filter p).map Int.ofNat,())) (fun i o=>o.length ≤ i) (fun k i o hi hI hk=>by
  rw [hin k i o hi hI,show n - i = (n - (i + 1)) + 1 by omega,List.range'_succ,List.filter_cons]
  cases hp:p i with
  | true =>
   refine (cT rfl).trans ((hk _ (by simp; omega)).trans ?_)
   rw [List.append_assoc]; rfl
  | false=>exact (cF rfl).trans (hk _ (by omega))) (fun k o _=>by rw [hout,Nat.sub_self]; simp) [] (Nat.le_refl 0)
 refine this.trans ?_
 unfold zEe
 rw [List.nil_append,Nat.sub_zero,List.range_eq_range']
abbrev zga (s:zd) (i:Nat):Int:=s.2.2.2.2.2.1.getD i 0
def zm7 (r:za) (s:zd) (me:pMe) (also:Nat→Bool) (i:Nat):Bool:=!((i:Int) == me.1) && (!decide (zga s i < 0) && (zik r me.2.1 (zlh r i) && also i))
def zoj (r:za) (s:zd) (me:pMe) (i:Nat):Bool:=eqI zP (zF1 s (zlh r i) (zga s i)) (zQe s me)
def zEf (r:za) (s:zd) (me:pMe) (also:Nat→Bool):List Int:=zEe (zm7 r s me also) r.2.1.length
theorem Ctx.placeAt {r:za} {s:zd} {me:pMe} (x:Ctx r s me) {p w:Int} (hp:qn r p = true) (hw:qr r w = true):0 ≤ w ∧ w < ((ix zf s.2.1 p).2.2.2.2.2.2.1.length:Int):=by
 obtain ⟨hb,hz,-⟩:=ql x.rs
 have h:=(zam hb hz).shelf _ (zrs (x.at_ hp))
 rw [h.2.2.2.2.2.2]; exact zLy hw
theorem Ctx.seats {r:za} {s:zd} {me:pMe} (x:Ctx r s me):s.2.2.2.2.2.1.length = r.2.1.length ∧ r.2.1.length ≤ 8:=by
 obtain ⟨hb,hz,-⟩:=ql x.rs
 exact ⟨(zam hb hz).people,(qG hb).lines.2⟩
theorem Ctx.sits {r:za} {s:zd} {me:pMe} (x:Ctx r s me) {i:Nat} (hi:i < r.2.1.length) (h:¬ zga s i < 0):qr r (zga s i) = true:=by
 rcases zRL x.rs (i:=i) (by rw [x.seats.1]; exact hi) with e | e
 ·have e':zga s i = -1:=e
  omega
 ·exact e
theorem zNF {r:za} (hb:z4 r = true) {i:Nat} (hi:i < r.2.1.length):qn r (zlh r i) = true:=zRM hb hi
theorem zAi {r:za} {s:zd} {me:pMe} (hr:zR r) (x:Ctx r s me) {f:pMe × Unit→Option (Bool × Unit)} {also:Nat→Bool} (hf:∀ (i:Nat) (u:Unit),i < r.2.1.length→¬ zga s i < 0→f (((i:Int),zlh r i,zga s i,u),()) = some (also i,())):zmx (r,s,me,some f,()) = some (zEf r s me also,()):=by
 have hb:=(ql x.rs).1
 obtain ⟨hs,h8⟩:=x.seats
 have := zGF (B:=zf8) (n:=s.2.2.2.2.2.1.length) (by omega) (p:=zm7 r s me also) (fun i o=>(some f,s.2.2.2.2.2.1,(s.2.2.2.2.2.1.length:Int),i,r,me,o)) (fun k i o hi hI=>by
  simp only [zf8]
  rw [ltT hi,zfl,zC,zC]
  refine (cT rfl).trans ?_
  refine (zi hi).trans ?_
  refine (zi (by omega)).trans ?_
  unfold zm7
  show cond ((i:Int) == me.1) _ _ = _
  cases (i:Int) == me.1 with
  | true=>rfl
  | false =>
   refine (cF rfl).trans ?_
   show cond (decide (zga s i < 0)) _ _ = _
   by_cases h0:zga s i < 0
   ·rw [decide_eq_true h0]; rfl
   ·rw [decide_eq_false h0]
    refine (cF rfl).trans ?_
    refine (bnd (zAf hr hb _ _)).trans ?_
    show cond (zik r me.2.1 (zlh r i)) _ _ = _
    cases zik r me.2.1 (zlh r i) with
    | false=>rfl
    | true =>
     refine (cT rfl).trans ?_
     refine (bnd (a:=f) rfl).trans ?_
     refine (bnd (hf i _ (by omega) h0)).trans ?_
     show cond (also i) _ _ = _
     cases also i with
     | false=>rfl
     | true =>
      refine (cT rfl).trans ?_
      exact cT (zm2 (by simp; omega))) (fun k o=>by
  simp only [zf8]
  rw [ltF]; rfl)
 rw [hs] at this
 refine Eq.trans ?_ this
 show znF K0 (some f,s.2.2.2.2.2.1,(s.2.2.2.2.2.1.length:Int),0,r,me,[]) = _
 rw [hs]
theorem zIx {r:za} {s:zd} {me:pMe} (hr:zR r) (x:Ctx r s me) (here:Bool) {i:Nat} (hi:i < r.2.1.length):zi5 (r,s,me,(i:Int),here,()) = some (zm7 r s me (fun i=>!here || zoj r s me i) i,()):=by
 have hb:=(ql x.rs).1
 obtain ⟨hs,h8⟩:=x.seats
 have hl:=zNF hb hi
 rw [zB]
 simp only [zi5]
 unfold zm7
 rw [zC,zC]
 show cond ((i:Int) == me.1) _ _ = _
 cases (i:Int) == me.1 with
 | true=>rfl
 | false =>
  refine (cF rfl).trans ?_
  refine (zi (by omega)).trans ?_
  show cond (decide (zga s i < 0)) _ _ = _
  by_cases h0:zga s i < 0
  ·rw [decide_eq_true h0]; rfl
  ·rw [decide_eq_false h0]
   refine (cF rfl).trans ?_
   refine (zi hi).trans ?_
   refine (bnd (zsb hr _ _)).trans ?_
   show cond (zik r me.2.1 (zlh r i)) _ _ = _
   cases zik r me.2.1 (zlh r i) with
   | false=>rfl
   | true =>
    refine (cT rfl).trans ?_
    cases here with
    | false=>rfl
    | true =>
     refine (cF rfl).trans ?_
     refine (zi hi).trans ?_
     refine (ixR (x.at_ hl)).trans ?_
     refine (zi (by omega)).trans ?_
     refine (ixR (x.placeAt hl (x.sits hi h0))).trans ?_
     exact (bnd (zLw x)).trans rfl
theorem zyr {r:za} {s:zd} {me:pMe} (hr:zR r) (x:Ctx r s me) (here:Bool):zkT (r,s,me,here,()) = some (zEf r s me (fun i=>!here || zoj r s me i),()):=by
 obtain ⟨hs,h8⟩:=x.seats
 exact zGF (B:=zeY) (n:=r.2.1.length) (by omega) (p:=zm7 r s me (fun i=>!here || zoj r s me i)) (fun i o=>(here,i,r,s,me,o)) (fun k i o hi hI=>by
  simp only [zeY]
  rw [ltT hi,zfl]
  refine (cT rfl).trans ?_
  refine (bnd (zIx hr x here hi)).trans ?_
  show cond (zm7 r s me (fun i=>!here || zoj r s me i) i) _ _ = _
  cases zm7 r s me (fun i=>!here || zoj r s me i) i with
  | false=>rfl
  | true =>
   refine (cT rfl).trans ?_
   exact cT (zm2 (by simp; omega))) (fun k o=>by
  simp only [zeY]
  rw [ltF]; rfl)
def zF4 (r:za) (s:zd) (me:pMe) (t:ByteArray):List Int × Int × Unit:=bif qA r s && j6 r me then bif zhX t then (zEf r s me (zoj r s me),0,()) else ([],2,()) else ([],1,())
theorem zOZ {r:za} {s:zd} {me:pMe} (hr:zR r) (hs:jh s) (t:ByteArray):zhS (r,s,me,t,()) = some (zF4 r s me t):=by
 simp only [zhS]
 refine (bnd (zlf hr hs me)).trans ?_
 unfold zF4
 cases h:qA r s && j6 r me with
 | false=>rfl
 | true =>
  simp only [Bool.and_eq_true] at h
  have x:Ctx r s me:=⟨h.1,h.2⟩
  have hb:=(ql x.rs).1
  refine (cT rfl).trans ?_
  refine (bnd (zr8 t)).trans ?_
  cases zhX t with
  | false=>rfl
  | true =>
   refine (cT rfl).trans ?_
   have at1:∀ y:pMe,qn r y.2.1 = true→qr r y.2.2.1 = true→vv (y,some s,()) = some (zF1 s y.2.1 y.2.2.1,()):=fun y h1 h2=>by
    simp only [vv]
    refine (bnd (a:=s) rfl).trans ?_
    refine (ixR (x.at_ h1)).trans ?_
    exact ixR (x.placeAt h1 h2)
   exact bnd (zAi hr x (f:=fun z=>zg3 (z.1,some (some fun z_1:pMe × Unit=>vv (z_1.1,some s,())),some me,())) (also:=zoj r s me) fun i u hi h0=>by
    show zg3 (((i:Int),zlh r i,zga s i,u),some (some fun z_1:pMe × Unit=>vv (z_1.1,some s,())),some me,()) = _
    simp only [zg3]
    refine (bnd (a:=some fun z_1:pMe × Unit=>vv (z_1.1,some s,())) rfl).trans ?_
    refine (bnd (a:=fun z_1:pMe × Unit=>vv (z_1.1,some s,())) rfl).trans ?_
    refine (bnd (at1 _ (zNF hb hi) (x.sits hi h0))).trans ?_
    refine (bnd (a:=some fun z_1:pMe × Unit=>vv (z_1.1,some s,())) rfl).trans ?_
    refine (bnd (a:=me) rfl).trans ?_
    refine (bnd (a:=fun z_1:pMe × Unit=>vv (z_1.1,some s,())) rfl).trans ?_
    refine (bnd (at1 me x.lab x.who)).trans ?_
    show cond (zoj r s me i) _ _ = _
    cases zoj r s me i <;> rfl)
theorem zNb {r:za} {s:zd} {me:pMe} (hr:zR r) (hs:jh s) (t:ByteArray):zmw (r,s,me,t,()) = some (zF4 r s me t):=by
 simp only [zmw]
 refine (bnd (zmA hr hs me)).trans ?_
 unfold zF4
 cases h:qA r s && j6 r me with
 | false=>rfl
 | true =>
  simp only [Bool.and_eq_true] at h
  have x:Ctx r s me:=⟨h.1,h.2⟩
  refine (cT rfl).trans ?_
  refine (bnd (zpH t)).trans ?_
  cases zhX t with
  | false=>rfl
  | true=>exact (cT rfl).trans (bnd (zyr hr x true))
def isG (r:za) (g:Int):Bool:=decide (0 ≤ g ∧ g < (r.2.2.2.1.length:Int))
def zhh (r:za) (i g:Int):Bool:=j3 (r.1.getD i.toNat zA).2.1 (r.2.2.2.1.getD g.toNat zD).1.toNat
theorem zO0 {r:za} {i g:Int} (hg:isG r g = true):((y6 r i).any fun y=>g == y) = zhh r i g:=by
 simp only [isG,decide_eq_true_eq] at hg
 obtain ⟨n,rfl⟩:=Int.eq_ofNat_of_zero_le hg.1
 rw [Bool.eq_iff_iff,List.any_eq_true]
 unfold y6 zhh
 rw [Int.toNat_natCast]
 constructor
 ·rintro ⟨y,hy,e⟩
  obtain ⟨m,hm,hm2⟩:=List.mem_filterMap.1 hy
  cases hh:j3 (r.1.getD i.toNat zA).2.1 (r.2.2.2.1.getD m zD).1.toNat with
  | false=>rw [hh] at hm2; cases hm2
  | true =>
   rw [hh] at hm2
   cases hm2
   have:=Int.ofNat.inj (eq_of_beq e)
   subst this
   exact hh
 ·intro h
  exact ⟨(n:Int),List.mem_filterMap.2 ⟨n,by simp; omega,by rw [h]; rfl⟩,by simp⟩
theorem zGG (r:za) (g:Int):zem (r,g,()) = some (isG r g,()):=by
 simp only [zem,isG]
 grind
theorem zQh {r:za} {g:Int} {ρ:Type} {x y:ρ} (h:isG r g = false):(bif decide (g < 0) then x else bif decide (g ≥ (r.2.2.2.1.length:Int)) then x else y) = x:=by
 simp only [isG] at h
 grind
theorem zNG {r:za} {g:Int} {ρ:Type} {x y:ρ} (h:isG r g = true):(bif decide (g < 0) then x else bif decide (g ≥ (r.2.2.2.1.length:Int)) then x else y) = y:=by
 simp only [isG,decide_eq_true_eq] at h
 rw [decide_eq_false (by omega),decide_eq_false (by omega)]; rfl
theorem zlj {r:za} {g:Int} (h:isG r g = true):0 ≤ g ∧ g < (r.2.2.2.1.length:Int):=by
 simp only [isG,decide_eq_true_eq] at h; exact h
theorem zNH {r:za} (hr:zR r) (hb:z4 r = true) {i g:Int} (hi:qn r i = true) (hg:isG r g = true):vV (ix zA r.1 i,(ix zD r.2.2.2.1 g).1,()) = some (zhh r i g,()):=by
 have hg':=zlj hg
 exact ziK _ _ (zld hr i hi).1 (zLx hb _ (zH (by omega)))
theorem zLC {r:za} (hr:zR r) (hb:z4 r = true) {i g:Int} (hi:qn r i = true) (hg:isG r g = true):(Option.bind (y0 (r,i,())) fun q2=>ve (q2.1,g,())) = some (zhh r i g,()):=by
 refine (bnd (ztJ hr i hi)).trans ?_
 rw [hb]
 have hlen:(y6 r i).length ≤ Go.maxLen:=by
  have:=List.length_filterMap_le (fun g=>bif j3 (r.1.getD i.toNat zA).2.1 (r.2.2.2.1.getD g zD).1.toNat then some (g:Int) else none) (List.range r.2.2.2.1.length)
  rw [List.length_range] at this
  have h8:=(qG hb).guilds
  unfold y6 Go.maxLen
  omega
 refine (ztI (l:=y6 r i) (a:=g) hlen).trans ?_
 rw [zO0 hg]
def ztM (r:za) (s:zd) (me:pMe) (g:Int) (t:ByteArray):List Int × Int × Unit:=bif qA r s && j6 r me then bif isG r g then bif zhh r me.2.1 g then bif zhX t then (zEf r s me (fun _=>true),0,()) else ([],2,()) else ([],5,()) else ([],1,()) else ([],1,())
theorem zRO {α β γ:Type} (x:Option α) (f:α→Option β) (g:β→Option γ) {v:β} (h:Option.bind x f = some v):(Option.bind x fun q=>Option.bind (f q) g) = g v:=by
 cases x with
 | none=>cases h
 | some a=>exact bnd (show f a = some v from h)
theorem zLD {r:za} {s:zd} {me:pMe} (hr:zR r) (hs:jh s) (g:Int) (t:ByteArray):ze5 (r,s,me,g,t,()) = some (ztM r s me g t):=by
 simp only [ze5]
 refine (bnd (zlf hr hs me)).trans ?_
 unfold ztM
 cases h:qA r s && j6 r me with
 | false=>rfl
 | true =>
  simp only [Bool.and_eq_true] at h
  have x:Ctx r s me:=⟨h.1,h.2⟩
  have hb:=(ql x.rs).1
  refine (cT rfl).trans ?_
  refine (bnd (zGG r g)).trans ?_
  cases hg:isG r g with
  | false=>rfl
  | true =>
   refine (cT rfl).trans ?_
   refine (zRO (y0 (r,me.2.1,())) (fun q2=>ve (q2.1,g,())) _ (zLC hr hb x.lab hg)).trans ?_
   show cond (zhh r me.2.1 g) _ _ = _
   cases zhh r me.2.1 g with
   | false=>rfl
   | true =>
    refine (cT rfl).trans ?_
    refine (bnd (zr8 t)).trans ?_
    cases zhX t with
    | false=>rfl
    | true =>
     refine (cT rfl).trans ?_
     exact bnd (zAi hr x (f:=zlP) (also:=fun _=>true) fun i u hi h0=>rfl)
theorem zIy {r:za} {s:zd} {me:pMe} (hr:zR r) (hs:jh s) (g:Int) (t:ByteArray):zje (r,s,me,g,t,()) = some (ztM r s me g t):=by
 simp only [zje]
 refine (bnd (zmA hr hs me)).trans ?_
 unfold ztM
 cases h:qA r s && j6 r me with
 | false=>rfl
 | true =>
  simp only [Bool.and_eq_true] at h
  have x:Ctx r s me:=⟨h.1,h.2⟩
  have hb:=(ql x.rs).1
  refine (cT rfl).trans ?_
  cases hg:isG r g with
  | false=>exact zQh hg
  | true =>
   refine (zNG hg).trans ?_
   refine (ixR (zyn x.lab)).trans ?_
   refine (ixR (zlj hg)).trans ?_
   refine (bnd (zNH hr hb x.lab hg)).trans ?_
   show cond (zhh r me.2.1 g) _ _ = _
   cases zhh r me.2.1 g with
   | false=>rfl
   | true =>
    refine (cT rfl).trans ?_
    refine (bnd (zpH t)).trans ?_
    cases zhX t with
    | false=>rfl
    | true=>exact (cT rfl).trans (bnd (zyr hr x false))
theorem zEg {labels:List zt} {m:Nat}:∀ (l:List zL) (last:Int),ze8 labels m last l = true→∀ g ∈ l,(labels.any fun y=>eqI zj (vh g.1) y) = true
 | [],_,_,g,hg=>by cases hg
 | a :: l,last,h,g,hg=>by
  simp only [ze8,zyg,Bool.and_eq_true] at h
  rcases List.mem_cons.1 hg with rfl | hg
  ·exact h.1.2.2.2
  ·exact zEg l a.1 h.2 g hg
theorem zRa {b:Int} (i:Nat):j3 (zuA b) i = decide (b.toNat = i):=by
 unfold j3 zuA
 rw [Int.toNat_natCast,Nat.testBit_two_pow]
theorem zQi {b:Int} (hb:vb b = true) {L:zt} (h0:0 ≤ (L.1:Int)):zpI (vh b) L = j3 L.2.1 b.toNat:=by
 simp only [vb,Bool.and_eq_true,decide_eq_true_eq] at hb
 rw [Bool.eq_iff_iff]
 unfold zpI
 simp only [Bool.and_eq_true,decide_eq_true_eq,List.all_eq_true,Bool.or_eq_true,Bool.not_eq_true']
 have e:∀ i,j3 (vh b).2.1 i = decide (b.toNat = i):=fun i=>zRa i
 constructor
 ·rintro ⟨-,h⟩
  rcases h b.toNat (by rw [List.mem_range'_1]; omega) with h | h
  ·rw [e] at h; simp at h
  ·exact h
 ·intro h
  refine ⟨h0,fun i _=>?_⟩
  rw [e]
  by_cases hi:b.toNat = i
  ·right; rw [← hi]; exact h
  ·left; exact decide_eq_false hi
theorem zO1 {a b L:zt} (h:eqI zj a b = true):zpI a L = zpI b L:=by
 rw [zpU] at h
 unfold zpI
 rw [h.1,h.2]
theorem zRb {r:za} (hb:z4 r = true) {i:Int} (hi:qn r i = true):0 ≤ ((r.1.getD i.toNat zA).1:Int):=by
 have h:=(zmc hb).1
 have hi':=zyn hi
 simp only [jZ,Bool.and_eq_true,List.all_eq_true] at h
 have:=h.2.2.1 _ (zH (i:=i.toNat) (d:=zA) (by omega))
 simp only [y3,zT,decide_eq_true_eq] at this
 exact this.1
theorem zIz {l:List zt} {a:zt} (hl:l.length ≤ Go.maxLen):zbp (l,a,()) = some (qx (fun y=>eqI zj a y) l 0,()) :=
 zpF (B:=jk) (l:=l) zA (fun i=>(l,(l.length:Int),i,a)) hl (fun k i x hi hx _=>by
  simp only [jk]
  rw [ltT hi,zi hi,zC,hx]; rfl) (fun k=>by simp only [jk]; rw [ltF]; rfl)
def zpV (r:za) (g:Int):Int:=qx (fun y=>eqI zj (vh (ix zD r.2.2.2.1 g).1) y) r.1 0
theorem zQj {r:za} (hb:z4 r = true) {g:Int} (hg:isG r g = true):qn r (zpV r g) = true ∧ eqI zj (vh (ix zD r.2.2.2.1 g).1) (r.1.getD (zpV r g).toNat zA) = true:=by
 have hg':=zlj hg
 have hb':=hb
 simp only [z4,zhV,Bool.and_eq_true] at hb'
 have hany:=zEg _ _ hb'.2.2.2.1.2.1 (ix zD r.2.2.2.1 g) (zH (by omega))
 have hn:=zye (p:=fun y=>eqI zj (vh (ix zD r.2.2.2.1 g).1) y) r.1 0 (Int.le_refl 0)
 rw [hany] at hn
 have hn':=of_decide_eq_false hn
 have h1:=zBE (p:=fun y=>eqI zj (vh (ix zD r.2.2.2.1 g).1) y) zA r.1 0 (Int.le_refl 0) hn'
 have h2:=zyP (p:=fun y=>eqI zj (vh (ix zD r.2.2.2.1 g).1) y) r.1 0 (Int.le_refl 0)
 rw [Int.sub_zero] at h1
 refine ⟨?_,h1⟩
 simp only [qn,decide_eq_true_eq]
 unfold zpV
 omega
theorem zO2 {r:za} (hb:z4 r = true) {i g:Int} (hi:qn r i = true) (hg:isG r g = true):zik r (zpV r g) i = zhh r i g:=by
 obtain ⟨h1,h2⟩:=zQj hb hg
 have hg':=zlj hg
 unfold zik zhh
 rw [h1,hi,Bool.true_and,Bool.true_and,← zO1 h2]
 exact zQi ((zmc hb).2 _ (zH (by omega))) (zRb hb hi)
theorem zF5 {r:za} (hr:zR r) (hb:z4 r = true) {g:Int} (hg:isG r g = true):zhP (r,g,()) = some (zpV r g,()):=by
 have hg':=zlj hg
 have h8:=(qG hb).guilds
 have hl:=(qG hb).labels
 simp only [zhP]
 refine (bnd (zf9 r hr)).trans ?_
 rw [hb]
 refine (cT rfl).trans ?_
 refine (bnd (zdS _ _ _)).trans ?_
 have hw:zT g 0 (wI ((r.2.2.2.1.length:Int) - 1)) = true:=by
  rw [zhq (i:=r.2.2.2.1.length) (by omega) (by unfold Go.maxLen; omega)]
  unfold zT
  exact decide_eq_true (by omega)
 refine (cT hw).trans ?_
 refine (ixR hg').trans ?_
 refine (bnd (zpE _)).trans ?_
 rw [(zmc hb).2 (ix zD r.2.2.2.1 g) (zH (by omega))]
 have hp:zjd (r,vh (ix zD r.2.2.2.1 g).1,()) = some (zpV r g,()):=by
  simp only [zjd]
  refine (bnd (zf9 r hr)).trans ?_
  rw [hb]
  refine (cT rfl).trans ?_
  exact bnd (zIz (by unfold Go.maxLen; omega))
 exact bnd hp
abbrev zSD (s:zd) (g:Int):List Int:=s.2.2.1.getD g.toNat []
def zme (r:za) (s:zd) (me:pMe) (g:Int):List Int × Int × Unit:=bif qA r s && j6 r me then bif isG r g then bif zhh r me.2.1 g then (zSD s g,0,()) else ([],5,()) else ([],1,()) else ([],1,())
theorem zuJ {r:za} {s:zd} (h:qA r s = true):vT r s.2.2.1 = true:=by
 have hp:=(ql h).2.2
 simp only [zcd,Bool.and_eq_true] at hp; exact hp.1
theorem zF6 {r:za} {s:zd} {me:pMe} (hr:zR r) (hs:jh s) (g:Int):ze6 (r,s,me,g,()) = some (zme r s me g):=by
 simp only [ze6]
 refine (bnd (zlf hr hs me)).trans ?_
 unfold zme
 cases h:qA r s && j6 r me with
 | false=>rfl
 | true =>
  simp only [Bool.and_eq_true] at h
  have x:Ctx r s me:=⟨h.1,h.2⟩
  have hb:=(ql x.rs).1
  have hh:=zuJ x.rs
  refine (cT rfl).trans ?_
  refine (bnd (zGG r g)).trans ?_
  cases hg:isG r g with
  | false=>rfl
  | true =>
   have hg':=zlj hg
   refine (cT rfl).trans ?_
   refine (bnd (zF5 hr hb hg)).trans ?_
   refine (bnd (zAf hr hb _ _)).trans ?_
   show cond (zik r (zpV r g) me.2.1) _ _ = _
   rw [zO2 hb x.lab hg]
   cases zhh r me.2.1 g with
   | false=>rfl
   | true =>
    refine (cT rfl).trans ?_
    refine (ixR (by rw [(y5 hh).1]; exact hg')).trans ?_
    exact bnd (zz9 (zQd (Nat.le_trans ((zyq hb hh).2 _ (zH (by rw [(y5 hh).1]; omega))) (by omega))))
theorem zEh {r:za} {s:zd} {me:pMe} (hr:zR r) (hs:jh s) (g:Int):zgM (r,s,me,g,()) = some (zme r s me g):=by
 simp only [zgM]
 refine (bnd (zmA hr hs me)).trans ?_
 unfold zme
 cases h:qA r s && j6 r me with
 | false=>rfl
 | true =>
  simp only [Bool.and_eq_true] at h
  have x:Ctx r s me:=⟨h.1,h.2⟩
  have hb:=(ql x.rs).1
  have hh:=zuJ x.rs
  refine (cT rfl).trans ?_
  cases hg:isG r g with
  | false=>exact zQh hg
  | true =>
   refine (zNG hg).trans ?_
   refine (ixR (zyn x.lab)).trans ?_
   refine (ixR (zlj hg)).trans ?_
   refine (bnd (zNH hr hb x.lab hg)).trans ?_
   show cond (zhh r me.2.1 g) _ _ = _
   cases zhh r me.2.1 g with
   | false=>rfl
   | true =>
    refine (cT rfl).trans ?_
    exact ixR (by rw [(y5 hh).1]; exact zlj hg)
def zpW (s:zd) (v:List (List Int) × Int × Unit):zd × Int × Unit:=bif v.2.1 != 0 then (zQ6,v.2.1,()) else (u2 s v.1,0,())
def ztN (r:za) (s:zd) (me:pMe) (what who:Int):zd × Int × Unit:=bif qA r s && j6 r me then bif decide (28 ≤ what ∧ what ≤ 30) then zpW s (zli r s.2.2.1 (what - 27) me.2.1 me.2.2.1 who) else (zQ6,1,()) else (zQ6,1,())
theorem zLE {r:za} {s:zd} {me:pMe} (hr:zR r) (hs:jh s) (what who:Int):ze7 (r,s,me,what,who,()) = some (ztN r s me what who):=by
 simp only [ze7]
 refine (bnd (zlf hr hs me)).trans ?_
 unfold ztN
 cases h:qA r s && j6 r me with
 | false=>rfl
 | true =>
  simp only [Bool.and_eq_true] at h
  have x:Ctx r s me:=⟨h.1,h.2⟩
  have hb:=(ql x.rs).1
  have hc:=znK (zRK x.rs)
  have fin:∀ v:List (List Int) × Int × Unit,(bif v.2.1 != 0 then some ((0,[],[],[],[],[],()),v.2.1,()) else Option.bind (je (s,())) fun q2=>some ((q2.1.1,q2.1.2.1,v.1,q2.1.2.2.2.1,q2.1.2.2.2.2.1,q2.1.2.2.2.2.2.1,()),0,())) = some (zpW s v):=fun v=>by
   unfold zpW
   cases v.2.1 != 0 with
   | true=>rfl
   | false=>exact (cF rfl).trans (bnd hc)
  refine (cT rfl).trans ?_
  by_cases h1:what = 28
  ·subst h1
   refine (cT rfl).trans ?_
   refine (bnd (zIw hr hb s.2.2.1 me.2.1 me.2.2.1 who)).trans ?_
   exact fin _
  ·refine (cF (beq_eq_false_iff_ne.2 h1)).trans ?_
   by_cases h2:what = 29
   ·subst h2
    refine (cT rfl).trans ?_
    refine (bnd (zLz hr hb s.2.2.1 me.2.1 me.2.2.1 who)).trans ?_
    exact fin _
   ·refine (cF (beq_eq_false_iff_ne.2 h2)).trans ?_
    by_cases h3:what = 30
    ·subst h3
     refine (cT rfl).trans ?_
     refine (bnd (zLA hr hb s.2.2.1 me.2.1 me.2.2.1 who)).trans ?_
     exact fin _
    ·refine (cF (beq_eq_false_iff_ne.2 h3)).trans ?_
     rw [decide_eq_false (p:=28 ≤ what ∧ what ≤ 30) (by omega)]; rfl
theorem zIA {r:za} {s:zd} {me:pMe} (hr:zR r) (hs:jh s) (what who:Int):zjf (r,s,me,what,who,()) = some (ztN r s me what who):=by
 simp only [zjf]
 refine (bnd (zmA hr hs me)).trans ?_
 unfold ztN
 cases h:qA r s && j6 r me with
 | false=>rfl
 | true =>
  simp only [Bool.and_eq_true] at h
  have x:Ctx r s me:=⟨h.1,h.2⟩
  have hb:=(ql x.rs).1
  refine (cT rfl).trans ?_
  by_cases h1:what < 28
  ·refine (cT (decide_eq_true h1)).trans ?_
   rw [decide_eq_false (p:=28 ≤ what ∧ what ≤ 30) (by omega)]; rfl
  ·refine (cF (decide_eq_false h1)).trans ?_
   by_cases h2:what > 30
   ·refine (cT (decide_eq_true h2)).trans ?_
    rw [decide_eq_false (p:=28 ≤ what ∧ what ≤ 30) (by omega)]; rfl
   ·refine (cF (decide_eq_false h2)).trans ?_
    rw [decide_eq_true (p:=28 ≤ what ∧ what ≤ 30) (by omega)]
    have hw:wI (what - 27) = what - 27:=by
     have hk:what = 28 ∨ what = 29 ∨ what = 30:=by omega
     rcases hk with rfl | rfl | rfl <;> rfl
    rw [hw]
    refine (bnd (zNa hr hb s.2.2.1 (by omega) me.2.1 me.2.2.1 who)).trans ?_
    show _ = some (zpW s _)
    unfold zpW
    generalize zli r s.2.2.1 (what - 27) me.2.1 me.2.2.1 who = v
    cases v.2.1 != 0 <;> rfl
theorem zQk {l:List (List Int)} {g who n:Int} (h:∀ x ∈ l,x.length ≤ 8) (hg:g.toNat < l.length):∀ x ∈ zb7 l g who n,x.length ≤ 8:=fun x hx=>by
 rcases List.mem_or_eq_of_mem_set hx with hx | rfl
 ·exact h x hx
 ·rw [List.length_set]; exact h _ (zH hg)
theorem zRc {r:za} {s:zd} (h:qA r s = true) (k place by' who:Int):(zli r s.2.2.1 k place by' who).1.length ≤ 8 ∧ ∀ x ∈ (zli r s.2.2.1 k place by' who).1,x.length ≤ 8:=by
 have hb:=(ql h).1
 have hh:=zuJ h
 obtain ⟨h8,hr8⟩:=zyq hb hh
 have nil:(([]:List (List Int)).length ≤ 8 ∧ ∀ x ∈ ([]:List (List Int)),x.length ≤ 8):=⟨Nat.zero_le _,fun x hx=>by cases hx⟩
 unfold zli
 rw [hh,Bool.true_and]
 cases qn r place && (qr r by' && qr r who) with
 | false=>exact nil
 | true =>
  simp only [cond_true]
  by_cases hn:zO r place < 0
  ·rw [decide_eq_true hn]; exact nil
  ·rw [decide_eq_false hn]
   have hg:=zBF hn
   cases zaH r s.2.2.1 by' place && qL s.2.2.1 (zO r place).toNat by' == 2 with
   | false=>exact nil
   | true =>
    simp only [cond_false,cond_true]
    unfold zyo
    cases (ztL r s.2.2.1 k (zO r place) who).2.1 != 0 with
    | true=>exact nil
    | false=>exact ⟨by show (List.set _ _ _).length ≤ 8; rw [List.length_set]; exact h8,zQk hr8 (by rw [(y5 hh).1]; omega)⟩
theorem zO3 {r:za} {s:zd} (hf:zpS s) (me:pMe) (what who:Int):zpS (ztN r s me what who).1:=by
 unfold ztN
 cases h:qA r s && j6 r me with
 | false=>exact zBD
 | true =>
  simp only [Bool.and_eq_true] at h
  cases decide (28 ≤ what ∧ what ≤ 30) with
  | false=>exact zBD
  | true =>
   have hv:=zRc h.1 (what - 27) me.2.1 me.2.2.1 who
   show zpS (zpW s (zli r s.2.2.1 (what - 27) me.2.1 me.2.2.1 who)).1
   generalize zli r s.2.2.1 (what - 27) me.2.1 me.2.2.1 who = v at *
   unfold zpW
   cases v.2.1 != 0 with
   | true=>exact zBD
   | false=>exact ⟨hf.shelves,by show v.1.length * 24 ≤ _; omega,hf.orders,hf.entries,hf.seats,hf.shelf,fun l hl=>by have:=hv.2 l hl; omega⟩
end Go.Proofs.YtkcakhbkoeimdaaGreatDoor
end
section
namespace Go.Proofs.YtkcakhbkoeimdaaGreatDoor
open Go.Ev
theorem zGH (r:za) (s:zd) (me:pMe) (also:Nat→Bool):(zEf r s me also).length ≤ r.2.1.length:=zQ9 _ _
theorem zRP {r:za} (s:zd) (me:pMe) (t:ByteArray):(zF4 r s me t).1.length ≤ 8:=by
 unfold zF4
 cases h:qA r s && j6 r me with
 | false=>exact Nat.zero_le _
 | true =>
  simp only [Bool.and_eq_true] at h
  have x:Ctx r s me:=⟨h.1,h.2⟩
  cases zhX t with
  | false=>exact Nat.zero_le _
  | true=>exact Nat.le_trans (zGH r s me _) x.seats.2
theorem zQl {r:za} (s:zd) (me:pMe) (g:Int) (t:ByteArray):(ztM r s me g t).1.length ≤ 8:=by
 unfold ztM
 cases h:qA r s && j6 r me with
 | false=>exact Nat.zero_le _
 | true =>
  simp only [Bool.and_eq_true] at h
  have x:Ctx r s me:=⟨h.1,h.2⟩
  cases isG r g with
  | false=>exact Nat.zero_le _
  | true =>
   cases zhh r me.2.1 g with
   | false=>exact Nat.zero_le _
   | true =>
    cases zhX t with
    | false=>exact Nat.zero_le _
    | true=>exact Nat.le_trans (zGH r s me _) x.seats.2
theorem zNc {r:za} (s:zd) (me:pMe) (g:Int):(zme r s me g).1.length ≤ 8:=by
 unfold zme
 cases h:qA r s && j6 r me with
 | false=>exact Nat.zero_le _
 | true =>
  simp only [Bool.and_eq_true] at h
  have x:Ctx r s me:=⟨h.1,h.2⟩
  have hh:=zuJ x.rs
  cases hg:isG r g with
  | false=>exact Nat.zero_le _
  | true =>
   have hg':=zlj hg
   cases zhh r me.2.1 g with
   | false=>exact Nat.zero_le _
   | true=>exact (zyq (ql x.rs).1 hh).2 _ (zH (by rw [(y5 hh).1]; omega))
theorem zys {l:List Int} (h:l.length ≤ 2000000):zag (l,l,()) = some (true,()):=by
 rw [zSg (zSf h),zaG (τ:=tI) rfl]
theorem x_TalkTells {r:za} {s:zd} (hr:zR r) (hs:jh s) (hf:zpS s) {me:pMe} {x:zox}:P_law31_TalkTells (r,s,me,x,()) = some (true,()):=by
 have hS:∀ t:zd,zpS t→zeS (t,t,()) = some (true,()):=fun t ht=>by rw [zLr (zQc ht),zOX]
 have hb:∀ z:Int,(z == z) = true:=fun z=>beq_self_eq_true (α:=Int) z
 have i1:=zys (Nat.le_trans (zRP (r:=r) s me x.2.2.2.2.1) (by omega))
 have i2:=zys (Nat.le_trans (zQl (r:=r) s me x.2.2.1 x.2.2.2.2.1) (by omega))
 have i3:=zys (Nat.le_trans (zNc (r:=r) s me x.2.2.1) (by omega))
 have h2:=hS _ (zO3 (r:=r) hf me x.2.2.2.1 x.2.1)
 have h3:=hS s hf
 simp only [P_law31_TalkTells]
 refine (bnd (znK hf)).trans ?_
 refine (bnd (zOZ hr hs x.2.2.2.2.1)).trans ?_
 refine (bnd (zNb hr hs x.2.2.2.2.1)).trans ?_
 refine (bnd (zLD hr hs x.2.2.1 x.2.2.2.2.1)).trans ?_
 refine (bnd (zIy hr hs x.2.2.1 x.2.2.2.2.1)).trans ?_
 refine (bnd (zLE hr hs x.2.2.2.1 x.2.1)).trans ?_
 refine (bnd (zIA hr hs x.2.2.2.1 x.2.1)).trans ?_
 refine (bnd (zF6 hr hs x.2.2.1)).trans ?_
 refine (bnd (zEh hr hs x.2.2.1)).trans ?_
 refine (bnd zQg).trans ?_
 refine (cT rfl).trans ?_
 refine (bnd i1).trans ?_
 refine (cT rfl).trans ?_
 refine (cT (hb _)).trans ?_
 refine (bnd i2).trans ?_
 refine (cT rfl).trans ?_
 refine (cT (hb _)).trans ?_
 refine (bnd h2).trans ?_
 refine (cT rfl).trans ?_
 refine (cT (hb _)).trans ?_
 refine (bnd i3).trans ?_
 refine (cT rfl).trans ?_
 refine (cT (hb _)).trans ?_
 refine (bnd h3).trans ?_
 rfl
end Go.Proofs.YtkcakhbkoeimdaaGreatDoor
end
section
namespace Go.Proofs.YtkcakhbkoeimdaaGreatDoor.fnTalkTells
open Go.ChangeShapes Go.WideShapes Go.ChangeAt Go.RowKit Go.Ev
abbrev tab:List Int:=[0,1,56,2,57,49,28,3,61,58,42,50,38,29,17,4,62,47,59,36,45,43,51,22,53,39,33,30,24,18,12,5,63,55,48,27,60,41,37,16,46,35,44,21,52,32,23,11,54,26,40,15,34,20,31,10,25,14,19,9,13,8,7,6]
theorem own:ownKnob Tryz.prog.godebug = none:=by kernel_rfl
theorem gTab:Tryz.prog.globalNamed "math/bits.deBruijn64tab" = some 0:=by kernel_rfl
theorem gTabType:(Tryz.prog.globals[0]?).map (·.type) = some 309:=by kernel_rfl
theorem cellsA:Tryz.prog.cellsOf 309 = 64:=by kernel_rfl
theorem cellsE:Tryz.prog.cellsOf 5 = 1:=by kernel_rfl
theorem undA:Tryz.prog.underlying 309 = some (.array 64 5):=by kernel_rfl
theorem undE:Tryz.prog.underlying 5 = some (.int .u8):=by kernel_rfl
theorem table {W:World} (h:laidMetH Tryz.prog Rows.talkTellsRow.laid W):Lib.TabIs Tryz.prog W "math/bits.deBruijn64tab" .u8 tab :=
 Lib.tabIs_of_head gTab gTabType undA undE cellsE cellsA h
theorem cell_FH {W:World} {j:Nat} {v:Value} (h:W.cell? ⟨0,j,none⟩ = some v):∃ c,FH.of W 0 = some c ∧ c[j]? = some v:=by
 unfold World.cell? at h
 simp only at h
 split at h
 ·rename_i c el fz hk
  exact ⟨c,by simp [FH.of,hk],by simpa using h⟩
 ·cases h
def cellsL:List Int→List Value:=List.map (Value.int .u8)
theorem repL (P:Program) (F:FH):∀ l:List Int,RepL (Rep P F (.int .u8)) l (cellsL l)
 | []=>rfl
 | x :: l=>⟨[.int .u8 x],cellsL l,rfl,rfl,repL P F l⟩
theorem extOk:∀ f add,Ev.look ext f = some add→ExtOk Tryz.prog f add:=by
 intro f add h
 have h':(Nat.beq 350 f = true ∧ add = false) ∨ (Nat.beq 368 f = true ∧ add = true):=by
  simp only [ext,Ev.look] at h
  cases h1:Nat.beq 350 f with
  | true=>rw [h1] at h; exact .inl ⟨rfl,(Option.some.inj h).symm⟩
  | false =>
   rw [h1] at h
   cases h2:Nat.beq 368 f with
   | true=>rw [h2] at h; exact .inr ⟨rfl,(Option.some.inj h).symm⟩
   | false=>rw [h2] at h; cases h
 rcases h' with ⟨h1,rfl⟩ | ⟨h1,rfl⟩
 ·obtain rfl:=Nat.eq_of_beq_eq_true h1
  intro x y w hx hy hy2
  obtain ⟨m,rfl⟩:=Int.eq_ofNat_of_zero_le hx
  obtain ⟨n,rfl⟩:=Int.eq_ofNat_of_zero_le hy
  rw [run_callFunc_extern (P:=Tryz.prog) (f:=350) Tryz.func350 (by kernel_rfl) (by kernel_rfl) (by kernel_rfl) (e:=sub64Entry) (by kernel_rfl)]
  have h0:(sub64Entry #[.int .u64 (m:Int),.int .u64 (n:Int),.int .u64 0]).run Tryz.prog w = .ok (.tuple #[.int .u64 (((m + 18446744073709551616 - n - 0) % 18446744073709551616:Nat):Int),.int .u64 ((if m < n + 0 then 1 else 0:Nat):Int)]) w:=run_sub64 m n 0 (by omega) w
  have e1:extA false (m:Int) (n:Int) = (((m + 18446744073709551616 - n - 0) % 18446744073709551616:Nat):Int):=by
   show ((m:Int) - (n:Int)) % 18446744073709551616 = _
   omega
  have e2:extB false (m:Int) (n:Int) = ((if m < n + 0 then 1 else 0:Nat):Int):=by
   show cond (decide ((m:Int) < (n:Int))) 1 0 = _
   by_cases h:m < n
   ·rw [decide_eq_true (by omega),if_pos (by omega)]; rfl
   ·rw [decide_eq_false (by omega),if_neg (by omega)]; rfl
  rw [h0,e1,e2]
  rfl
 ·obtain rfl:=Nat.eq_of_beq_eq_true h1
  intro x y w hx hy hy2
  rw [run_callFunc_extern (P:=Tryz.prog) (f:=368) Tryz.func368 (by kernel_rfl) (by kernel_rfl) (by kernel_rfl) (e:=add64Entry) (by kernel_rfl),run_add64 x y 0 hx hy (by omega) (by omega),Int.add_zero]
  rfl
theorem env {W:World} (hL:laidMetH Tryz.prog Rows.talkTellsRow.laid W):EnvOk Tryz.prog (FH.of W) E0:=by
 refine EnvOk.nil (by kernel_rfl) (fun g v hv=>?_) extOk
 have ht:=table hL
 obtain ⟨c,hc,-⟩:=cell_FH (ht.cell gTab 0 (by decide))
 have hg:g = 0:=by
  have hv2:Ev.look glob g = some v:=hv
  simp only [glob,Ev.look] at hv2
  cases hb:Nat.beq 0 g with
  | true=>exact (Nat.eq_of_beq_eq_true hb).symm
  | false=>rw [hb] at hv2; cases hv2
 subst hg
 have hv':some (AV.dat (.ptr (.arr 64 (.int .u8))) (some tab)) = some v:=hv
 cases hv'
 refine ⟨.arr 64 (.int .u8),tab,cellsL tab,rfl,⟨rfl,c,hc,fun j v hj=>?_⟩,⟨rfl,repL _ _ tab⟩⟩
 have hj':j < tab.length:=by
  have:=List.getElem?_eq_some_iff.1 hj
  obtain ⟨h,-⟩:=this
  simpa [cellsL] using h
 obtain ⟨c',hc',h0⟩:=cell_FH (ht.cell gTab j hj')
 rw [hc] at hc'
 obtain rfl:=Option.some.inj hc'
 have:(cellsL tab)[j]? = some (.int .u8 (tab.getD j 0)):=by
  unfold cellsL
  rw [List.getElem?_map,List.getD_eq_getElem?_getD,List.getElem?_eq_getElem hj']; rfl
 rw [this] at hj
 rw [← hj]
 show c[0 + j]? = _
 rw [Nat.zero_add]; exact h0
set_option maxRecDepth 100000 in
theorem contract (H:Type) (enc:TypeId × Value→H) (W:World) (base:Nat) (args:Array Value) (ds gs:List (DataW H)) (before:List MemPlace)
 (hval:∀ (j:Nat) t v,Tryz.f4.params[j]? = some t→args[j]? = some v→Value.okWide Tryz.prog W .any base t v)
 (hW:DataW.Whole enc Tryz.prog Tryz.f4.params.toList Rows.talkTellsSpec.vars false W args.toList ds gs before) (hL:laidMetH Tryz.prog Rows.talkTellsRow.laid W) {us:List TypeId} (hz:(DataW.weightsEach Tryz.prog (Tryz.f4.params.toList ++ us) (ds ++ gs)).all (· ≤ reachBytes) = true) :
 Calls Tryz.prog 4 args W fun e W'=>∃ v,e = .returned v ∧ Rows.talkTellsSpec.post enc Tryz.prog Tryz.f4 false true false false W args v W':=by
 refine law_contractW (a:=A_law31_TalkTells) (tb:=4) (by kernel_rfl) (by decide +kernel) (by kernel_rfl) (by kernel_rfl) (by kernel_rfl) rfl (fun ds hd=>?_) hval hW fun x hx hbk hwt hr=>?_
 ·have:Tryz.f4.params.size = 4:=by kernel_rfl
  rw [this] at hd
  match ds,hd with
  | [d1,d2,d3,d4],_=>rfl
 ·have hs:=s_law31_TalkTells (FH.of W) (env hL)
  have hwt:=hwt fun n hn=>of_decide_eq_true (List.all_eq_true.1 hz n (wEach_left hn))
  have he:P_law31_TalkTells x = some (true,()):=by
   obtain ⟨r,s,m,x,⟨⟩⟩:=x
   exact x_TalkTells (realmIn hx.1) (stateIn hx.2.1) (wt_fits hwt.2.1)
  have hc:=hs.2 x (true,()) he (FH.of W) W args.toList (FH.le.refl _) (FH.of_ok W) hr
  refine hc.mono fun e W' he=>?_
  obtain ⟨us,F',h1,h2,_,_,h3⟩:=he
  refine ⟨?_,h2⟩
  obtain ⟨v,r,hus,hv,hva,hnil⟩:=(show RepA Tryz.prog F' (.pair .bool .unit) (true,()) us from h3)
  have hr0:r = []:=hnil
  subst hr0
  have hv':v.cells.toList = [.bool true]:=hv
  rw [h1,hus]
  have hva':isAggV v = false:=hva
  have:v = .bool true:=by
   cases v <;> first | (simp [isAggV] at hva'; done) | (simp [Value.cells] at hv'; exact congrArg _ hv') | (simp [Value.cells] at hv')
  rw [this]
  rfl
def putC (l:List Value):Obj→Obj
 | .cells _ t frozen=>.cells l.toArray t frozen
 | o=>o
noncomputable def laidWorld (os:Os):World :=
 { World.holding Tryz.prog os ⟨#[],#[],[]⟩ with heap:=(((World.holding Tryz.prog os ⟨#[],#[],[]⟩).heap.modify 0 (putC (cellsL tab))).modify 1 (putC (cellsL (Pinned.utf8FirstZ.map fun n:Nat=>(n:Int))))).modify 2 (putC (cellsL [128,191,160,191,128,159,144,191,128,143,0,0,0,0,0,0,0,0,0,0,0,0,0,0,0,0,0,0,0,0,0,0])) }
def arg0:Value:=.agg #[.slice none 0 0,.slice none 0 0,.slice none 0 0,.slice none 0 0,.slice none 0 0,.int .i64 0,.int .i64 0,.int .i64 0,.int .i64 0]
def arg1:Value:=.agg #[.int .u64 0,.slice none 0 0,.slice none 0 0,.slice none 0 0,.slice none 0 0,.slice none 0 0]
def arg2:Value:=.agg #[.int .i64 0,.int .i64 0,.int .i64 0]
def arg3:Value:=.agg #[.int .i64 0,.int .i64 0,.int .i64 0,.int .i64 0,.string ⟨#[]⟩]
theorem laid_met (os:Os):laidMet Tryz.prog Rows.talkTellsRow.laid ((laidWorld os).forCall (fun _ _=>0) ⟨#[],#[arg0,arg1,arg2,arg3],[]⟩).memory :=
 laidMet_of_run' 8 (by kernel_rfl) (by kernel_rfl)
theorem reads (os:Os) {H:Type} (enc:TypeId × Value→H):∃ places,DataW.whole enc Tryz.prog ((laidWorld os).forCall (fun _ _=>0) ⟨#[],#[arg0,arg1,arg2,arg3],[]⟩).memory Tryz.f4.params.toList Rows.talkTellsSpec.vars false #[arg0,arg1,arg2,arg3].toList 8 = some ([.agg [.nil,.nil,.nil,.nil,.nil,.lit (.int .i64 0),.lit (.int .i64 0),.lit (.int .i64 0),.lit (.int .i64 0)],.agg [.lit (.int .u64 0),.nil,.nil,.nil,.nil,.nil],.agg [.lit (.int .i64 0),.lit (.int .i64 0),.lit (.int .i64 0)],.agg [.lit (.int .i64 0),.lit (.int .i64 0),.lit (.int .i64 0),.lit (.int .i64 0),.lit (.string [])]],[],places) :=
 ⟨[],by kernel_rfl⟩
set_option maxRecDepth 100000 in
theorem lifted (os:Os) (started:os.Started) (H:Type) (enc:TypeId × Value→H) (F:Stop.Interp) :
 ReturnsInHanded {} Tryz.checked os 4 .any ((OpenSpec.ofChange Rows.talkTellsSpec).preRow enc Tryz.prog Tryz.f4 Rows.talkTellsRow.domain false Rows.talkTellsRow.laid) (((OpenSpec.ofChange Rows.talkTellsSpec).at F).post enc Tryz.prog Tryz.f4 false true false false):=by
 obtain ⟨places,hx⟩:=reads os enc
 refine returnsInHanded_of_row (C:=Tryz.checked) (s:=OpenSpec.ofChange Rows.talkTellsSpec) own started (by kernel_rfl) Tryz.func4
  (witness_row_at (enc:=enc) (C:=Tryz.checked) false (laidWorld os) #[arg0,arg1,arg2,arg3] rfl (by kernel_rfl) (by kernel_rfl) (by kernel_rfl)
   (OpenSpec.preRow_of_cond 8 hx (by kernel_rfl) (fun k hk=>by cases hk) (by kernel_rfl) (laid_met os))) ?_
 intro W base args ds gs before hval hW _ _ hz hL _ _
 exact contract H enc W base args ds gs before hval hW hL hz
end Go.Proofs.YtkcakhbkoeimdaaGreatDoor.fnTalkTells
end
section
namespace Go.Proofs.YtkcakhbkoeimdaaGreatDoor.fnTalkTells
open Go.ChangeShapes Go.WideShapes Go.ChangeAt Go.RowKit Go.Ev
theorem k2:laidOutB Tryz.prog = true:=by kernel_rfl
theorem k3:mapsRowed Tryz.prog = true:=by kernel_rfl
theorem k10:(Rows.talkTellsRow.inPlace == Tryz.prog.inPlace 4) = true:=by kernel_rfl
theorem k11:(Rows.talkTellsRow.unfollowed == Tryz.prog.unfollowed 4) = true:=by kernel_rfl
theorem k12:(Rows.talkTellsRow.recurses == Tryz.prog.recurses 4) = true:=by kernel_rfl
theorem k13:(Rows.talkTellsRow.named == Tryz.prog.varsNamed 4) = true:=by kernel_rfl
theorem k23:(Rows.talkTellsRow.plainKeys == Tryz.prog.plainKeys) = true:=by kernel_rfl
theorem k24:Tryz.prog.stopsHeard = true:=by kernel_rfl
theorem k25:Tryz.prog.mayEnter = true:=by kernel_rfl
theorem k26:(Rows.talkTellsRow.lifted == Tryz.prog.liftsFinal) = true:=by kernel_rfl
theorem k27:(Tryz.prog.make == some Rows.talkTellsRow.make) = true:=by kernel_rfl
theorem closed0:joinedFacts Tryz.prog 4 Tryz.f4 (OpenSpec.ofChange Rows.talkTellsSpec).bare Rows.talkTellsRow = true:=by
 unfold joinedFacts
 rw [k2,k3,k10,k11,k12,k13,k23,k24,k25,k26,k27]
 kernel_rfl
theorem peq:Tryz.pinned.checked.prog = Tryz.prog:=by kernel_rfl
theorem closed:joinedFacts Tryz.pinned.checked.prog 4 Tryz.f4 (OpenSpec.ofChange Rows.talkTellsSpec).bare Rows.talkTellsRow = true:=by
 rw [peq]; exact closed0
end Go.Proofs.YtkcakhbkoeimdaaGreatDoor.fnTalkTells
end
