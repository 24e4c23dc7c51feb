import Derived.Test.YtgomalidoilgbaaGreatDoorMae
import Derived.Shelf.Spec.BitsCarry
import Derived.Test.YtgomalidoilgbaaGreatDoorCards
import Derived.Test.YtgomalidoilgbaaGreatDoorTie
import Derived.ProofKit
import Derived.OpenShut
import Derived.Deep.DeepHandedRow
set_option linter.unusedVariables false
set_option linter.unusedSimpArgs false
section
namespace Go.Proofs.YtgomalidoilgbaaGreatDoor
open Go.Ev
def zjc (r:zf) (x:zn) (q:zaw):Bool:=((decide ((x.1.length:Int) = q.1) && decide ((x.2.1.length:Int) = q.2.1)) && (decide ((x.2.2.1.length:Int) = q.2.2.1) && decide ((x.2.2.2.1.length:Int) = q.2.2.2.1))) && (decide ((x.2.2.2.2.1.length:Int) = q.2.2.2.2.1) && (decide (x.2.2.2.2.2.1.length = r.2.2.1.length) && decide (x.2.2.2.2.2.2.1.length = r.2.2.1.length)))
def zgF (r:zf) (s:zb):Bool:=(decide (s.2.1.length = r.1.length) && (decide ((s.2.2.2.1.length:Int) = r.2.2.2.2.2.1) && decide ((s.2.2.2.2.1.length:Int) ≤ r.2.2.2.2.2.2.1))) && ((decide (s.2.2.2.2.2.1.length = r.2.1.length) && decide (s.1 ≤ M62)) && zW (fun i=>zjc r (s.2.1.getD i za) (r.2.2.2.2.1.getD i qg)) 0 (s.2.1.length - 0))
theorem neI (a b:Int):(a != b) = !decide (a = b):=by
  rw [Bool.eq_iff_iff]; simp
theorem zEV {r:zf} (hr:qi r) (s:zb):zbR ((r,s,()),()) = some (ja r && zgF r s,()):=by
  rw [zC]
  simp only [zbR,zix,zmD r hr,Option.bind_some]
  cases hb:ja r with
  | false=>rfl
  | true =>
    have ok:=vG hb
    have ok1:=ok.labels
    have ok2:=ok.quotas
    rw [zia,zia]
    unfold zgF M62
    by_cases hn:s.2.1.length = r.1.length
    · have hloop:zkk K0 ((r.2.2.1.length:Int),s.2.1,(s.2.1.length:Int),0,(r,s,())) = bif zW (fun i=>zjc r (s.2.1.getD i za) (r.2.2.2.2.1.getD i qg)) 0 (s.2.1.length - 0) then some (true,()) else some (false,()) :=
        z7 (i0:=0) (n:=s.2.1.length) (by unfold Go.maxLen; omega) (Nat.zero_le _) (fun i=>((r.2.2.1.length:Int),s.2.1,(s.2.1.length:Int),i,(r,s,()))) (fun k i h1 h2=>by
          simp only [zge]
          rw [ltT h2,zj h2,zj (by omega)]
          simp only [zG,neI,cond_true,zjc]
          generalize s.2.1.getD i za = x
          generalize r.2.2.2.2.1.getD i qg = q
          generalize k _ = kk
          grind (splits:=30)) (fun k=>by simp only [zge]; rw [ltF]; rfl)
      rw [hloop]
      grind
    · grind
theorem zEW {r:zf} (hb:ja r = true) (s:zb):zii (r,s,()) = some (zgF r s,()):=by
  rw [zC]
  simp only [zii,zih]
  have ok:=vG hb
  have ok1:=ok.labels
  have ok2:=ok.quotas
  rw [zia,zia]
  unfold zgF M62
  by_cases hn:s.2.1.length = r.1.length
  · have hloop:zjK K0 (0,r,s) = bif zW (fun i=>zjc r (s.2.1.getD i za) (r.2.2.2.2.1.getD i qg)) 0 (s.2.1.length - 0) then some (true,()) else some (false,()) :=
      z7 (i0:=0) (n:=s.2.1.length) (by unfold Go.maxLen; omega) (Nat.zero_le _) (fun i=>(i,r,s)) (fun k i h1 h2=>by
        simp only [zf2]
        rw [ltT h2,zj h2,zj (by omega)]
        simp only [zG,neI,cond_true,zjc]
        generalize s.2.1.getD i za = x
        generalize r.2.2.2.2.1.getD i qg = q
        generalize k _ = kk
        grind (splits:=30)) (fun k=>by simp only [zf2]; rw [ltF]; rfl)
    rw [hloop]
    grind
  · grind
structure zeH (r:zf) (s:zb):Prop where
  shelves:s.2.1.length = r.1.length
  orders:s.2.2.2.1.length ≤ 24
  entries:s.2.2.2.2.1.length ≤ 48
  people:s.2.2.2.2.2.1.length = r.2.1.length
  shelf:∀ x ∈ s.2.1,x.1.length ≤ 12 ∧ x.2.1.length ≤ 12 ∧ x.2.2.1.length ≤ 12 ∧ x.2.2.2.1.length ≤ 12 ∧ x.2.2.2.2.1.length ≤ 12 ∧ x.2.2.2.2.2.1.length = r.2.2.1.length ∧ x.2.2.2.2.2.2.1.length = r.2.2.1.length
theorem zHo:∀ (l:List zaw) (n:Int),zhf n l = true→∀ q ∈ l,zrK q = true
  | [],_,_,q,h=>by cases h
  | a :: l,n,h,q,hq=>by
    simp only [zhf,Bool.and_eq_true] at h
    rcases List.mem_cons.1 hq with rfl | hq
    · exact h.1
    · exact zHo l _ h.2.2 q hq
theorem zjd {r:zf} {s:zb} (hb:ja r = true) (h:zgF r s = true):zeH r s:=by
  have ok:=vG hb
  simp only [ja,Bool.and_eq_true] at hb
  obtain ⟨-,-,-,-,h5,h6⟩:=hb
  simp only [zfN,zwe,zU,Bool.and_eq_true,decide_eq_true_eq] at h5 h6
  simp only [zgF,Bool.and_eq_true,decide_eq_true_eq,qP] at h
  obtain ⟨⟨h7,h8,h9⟩,⟨h10,-⟩,h11⟩:=h
  refine ⟨h7,by omega,by omega,h10,fun x hx=>?_⟩
  obtain ⟨i,hi,rfl⟩:=List.mem_iff_getElem.1 hx
  have h12:=h11 i (by omega) (by omega)
  have e:s.2.1.getD i za = s.2.1[i]:=by simp [List.getD,hi]
  rw [e] at h12
  have hq:=zHo _ _ h5.2.2.2 (r.2.2.2.2.1.getD i qg) (zX (by have:=ok.quotas; omega))
  simp only [zrK,zU,Bool.and_eq_true,decide_eq_true_eq] at hq
  simp only [zjc,Bool.and_eq_true,decide_eq_true_eq] at h12
  omega
def jG (x:zn):Bool:=(x.1.all zkr) && (zA4 x.2.1 && (x.2.2.1.all vZ && (x.2.2.2.1.all zks && x.2.2.2.2.1.all zhj)))
theorem zBa {x:zn} (h:x.1.length ≤ 12 ∧ x.2.1.length ≤ 12 ∧ x.2.2.1.length ≤ 12 ∧ x.2.2.2.1.length ≤ 12 ∧ x.2.2.2.2.1.length ≤ 12):zgb (x,()) = some (jG x,()):=by
  rw [zC]
  have hm:12 ≤ Go.maxLen:=by unfold Go.maxLen; omega
  simp only [zgb]
  rw [zG9 (by omega),zHb (by omega),zEI (by omega),zHf (by omega),zEM (by omega)]
  simp only [Option.bind_some,jG]
  grind
theorem zEX {r:zf} {s:zb} (ok:zhk r) (sz:zeH r s):zbS ((r,s,()),()) = some (s.2.1.all jG,()):=by
  rw [zC]
  simp only [zbS]
  have h1:=ok.labels
  have h2:=sz.shelves
  rw [zIL (p:=jG) (by unfold Go.maxLen; omega) fun x hx=>zBa (by have:=sz.shelf x hx; omega)]
  simp only [Option.bind_some]
def qw (r:zf) (x:Int):Bool:=decide (0 ≤ x ∧ x < (r.2.2.1.length:Int))
def jf (r:zf) (x:Int):Bool:=decide (0 ≤ x ∧ x < (r.1.length:Int))
theorem zai (r:zf) (s:zb) (x:Int):qW ((r,s,()),x,()) = some (qw r x,()):=by simp only [qW,qw]; grind
theorem ztQ (r:zf) (s:zb) (x:Int):zbQ ((r,s,()),x,()) = some (jf r x,()):=by simp only [zbQ,jf]; grind
theorem zdE (r:zf) (x:Int):jU (r,x,()) = some (qw r x,()):=by simp only [jU,qw]; grind
def zow (s:zb) (x:vI):Bool:=decide (0 ≤ x.1 ∧ x.1 < (s.2.1.length:Int)) && (decide (0 ≤ x.2.1 ∧ x.2.1 < ((s.2.1.getD x.1.toNat za).1.length:Int)) && ((s.2.1.getD x.1.toNat za).1.getD x.2.1.toNat zgT).1)
theorem ztR (s:zb) (x:vI):zfl (s,x,()) = some (zow s x,()):=by
  rw [zC]
  simp only [zfl,zow,ix]
  by_cases h1:0 ≤ x.1 ∧ x.1 < (s.2.1.length:Int)
  · rw [ixR h1,ixR h1]
    by_cases h2:0 ≤ x.2.1 ∧ x.2.1 < ((s.2.1.getD x.1.toNat za).1.length:Int)
    · rw [ixR h2]
      grind
    · grind
  · grind
theorem ztS (s:zb) (x:vI):zfq (s,x,()) = some (zow s x,()):=by
  rw [zC]
  simp only [zfq,zow,ix]
  by_cases h1:0 ≤ x.1 ∧ x.1 < (s.2.1.length:Int)
  · rw [ixR h1,ixR h1]
    by_cases h2:0 ≤ x.2.1 ∧ x.2.1 < ((s.2.1.getD x.1.toNat za).1.length:Int)
    · rw [ixR h2]
      grind
    · grind
  · grind
def zlg (r:zf) (s:zb) (x:zt):Bool:=!x.1 || (jf r x.2.1 && (qw r x.2.2.1 && decide (x.2.2.2.2.2.2.2.2.2.1 < (s.2.2.2.2.1.length:Int))))
def zlh (r:zf) (s:zb) (x:zH):Bool:=decide (x.2.1 < (r.2.1.length:Int)) && ((x.2.2.1:Int) == r.2.1.getD x.2.1.toNat 0 && (qw r x.2.2.2.1 && decide (x.1 ≤ s.1)))
def znk (r:zf) (x:Int):Bool:=x == -1 || qw r x
theorem zKM (r:zf) (s:zb) (x:zt):zfa (x,some (r,s,()),()) = some (zlg r s x,()):=by
  rw [zC]
  simp only [zfa,zai,ztQ,Option.bind_some,zlg]
  grind
theorem zKN (r:zf) (s:zb) {x:zH} (h:zhm x = true):zba (x,some (r,s,()),()) = some (zlh r s x,()):=by
  rw [zC]
  simp only [zba,zai,Option.bind_some,zlh,ix]
  have:0 ≤ x.2.1:=by unfold zhm qX at h; grind
  by_cases h1:x.2.1 < (r.2.1.length:Int)
  · rw [ixR ⟨this,h1⟩]
    grind
  · grind
theorem zKO (r:zf) (s:zb) (x:Int):vo (x,some (r,s,()),()) = some (znk r x,()):=by
  rw [zC]
  simp only [vo,zai,Option.bind_some,znk]
  grind
def zhn (r:zf) (s:zb):Bool:=zov r s.2.2.1 && (zfO s.2.2.2.1 && (ziU s.2.2.2.2.1 && (zow s (ze zL) && (s.2.2.2.1.all (zlg r s) && (s.2.2.2.2.1.all (zlh r s) && s.2.2.2.2.2.1.all (znk r))))))
theorem zvT {l:List zH} (h:ziU l = true):∀ x ∈ l,zhm x = true:=by
  intro x hx
  simp only [ziU,qP,Bool.and_eq_true] at h
  obtain ⟨i,hi,rfl⟩:=List.mem_iff_getElem.1 hx
  have e:l.getD i vN = l[i]:=by simp [List.getD,hi]
  rw [← e]
  exact (h i (by omega) (by omega)).1
theorem zJc {l:List zt} (h:zfO l = true):∀ x ∈ l,zlf x = true:=by
  intro x hx
  simp only [zfO,Bool.and_eq_true,List.all_eq_true] at h
  exact h.1 x hx
theorem zCG {r:zf} {s:zb} (hr:qi r) (hb:ja r = true) (hs:qn s) (sz:zeH r s):za0 ((r,s,()),()) = some (zhn r s,()):=by
  rw [zC]
  have ok:=vG hb
  have h1:=ok.lines
  have h2:=sz.orders
  have h3:=sz.entries
  have h4:=sz.people
  have hm:48 ≤ Go.maxLen:=by unfold Go.maxLen; omega
  simp only [za0,zHm hr,hb,Bool.true_and,Option.bind_some]
  unfold zhn
  cases zov r s.2.2.1 with
  | false=>rfl
  | true =>
    rw [zHn (by omega) hs.orders,zET (by omega) hs.entries,ztR]
    simp only [Option.bind_some,cond_true]
    cases zfO s.2.2.2.1 with
    | false=>rfl
    | true =>
      cases he:ziU s.2.2.2.2.1 with
      | false=>rfl
      | true =>
        rw [zIM (p:=zlg r s) (by omega) fun x _=>zKM r s x,zIN (p:=zlh r s) (by omega) fun x hx=>zKN r s (zvT he x hx),zLR (p:=znk r) (by omega) fun x _=>zKO r s x]
        simp only [Option.bind_some,cond_true]
        grind
theorem zCH {r:zf} {s:zb} (hr:qi r) (hb:ja r = true) (hs:qn s) (sz:zeH r s):zhd (r,s,()) = some (zhn r s,()):=by
  rw [zC]
  have ok:=vG hb
  have h1:=ok.lines
  have h2:=sz.orders
  have h3:=sz.entries
  have h4:=sz.people
  have hm:48 ≤ Go.maxLen:=by unfold Go.maxLen; omega
  simp only [zhd,zhc,zEQ hr,hb,Bool.true_and,Option.bind_some]
  unfold zhn
  cases zov r s.2.2.1 with
  | false=>rfl
  | true =>
    rw [zER (by omega) hs.orders,zEU (by omega) hs.entries,ztS]
    simp only [Option.bind_some,cond_true]
    cases ho:zfO s.2.2.2.1 with
    | false=>rfl
    | true =>
      cases he:ziU s.2.2.2.2.1 with
      | false=>rfl
      | true =>
        cases zow s (ze zL) with
        | false=>rfl
        | true =>
          simp only [cond_true,Bool.true_and]
          have l2:zbs K0 (0,r,s) = bif s.2.2.2.2.2.1.all (znk r) then some (true,()) else some (false,()) :=
            jB (l:=s.2.2.2.2.2.1) (0:Int) (fun i=>(i,r,s)) (by omega) (fun k i x hi hx _=>by
              simp only [zfi]
              rw [ltT hi]
              simp only [zj hi,zG,hx,zdE,Option.bind_some,cond_true,znk]
              grind) (fun k=>by simp only [zfi]; rw [ltF]; rfl)
          have l1:zbu K0 (0,r,s) = bif s.2.2.2.2.1.all (zlh r s) then zbs K0 (0,r,s) else some (false,()) :=
            jB (l:=s.2.2.2.2.1) vN (fun i=>(i,r,s)) (by omega) (fun k i x hi hx hmem=>by
              have hok:=zvT he x hmem
              have h0:0 ≤ x.2.1:=by unfold zhm qX at hok; grind
              simp only [zbt]
              rw [ltT hi]
              simp only [zj hi,zG,hx,zdE,Option.bind_some,cond_true,zlh]
              by_cases h1:x.2.1 < (r.2.1.length:Int)
              · rw [ixR ⟨h0,h1⟩]
                grind
              · grind) (fun k=>by simp only [zbt]; rw [ltF]; rfl)
          have l0:ziS K0 (0,r,s) = bif s.2.2.2.1.all (zlg r s) then zbu K0 (0,r,s) else some (false,()) :=
            jB (l:=s.2.2.2.1) zI (fun i=>(i,r,s)) (by omega) (fun k i x hi hx hmem=>by
              have hok:=zJc ho x hmem
              have h0:x.1 = true→0 ≤ x.2.1:=fun h=>by unfold zlf ziT qX at hok; grind
              simp only [zbv]
              rw [ltT hi]
              simp only [zj hi,zG,hx,zdE,Option.bind_some,cond_true,zlg,jf]
              grind) (fun k=>by simp only [zbv]; rw [ltF]; rfl)
          rw [l0,l1,l2]
          grind
end Go.Proofs.YtgomalidoilgbaaGreatDoor
end
section
namespace Go.Proofs.YtgomalidoilgbaaGreatDoor
open Go.Ev
def zmF (r:zf) (a b:Int):Bool:=jf r a && (jf r b && zCD (r.1.getD a.toNat jg) (r.1.getD b.toNat jg))
theorem zrN {r:zf} (hr:qi r) (a:Int) (h:jf r a = true):zot (r.1.getD a.toNat jg):=by
  simp only [jf,decide_eq_true_eq] at h
  exact hr.labels _ (zX (by omega))
theorem zxw {r:zf} (hr:qi r) (s:zb) (a b:Int):zhY ((r,s,()),a,b,()) = some (zmF r a b,()):=by
  rw [zC]
  simp only [zhY,ztQ,Option.bind_some,zmF,ix]
  cases ha:jf r a with
  | false=>rfl
  | true =>
    cases hb:jf r b with
    | false=>rfl
    | true =>
      rw [zxt (zrN hr a ha) (zrN hr b hb)]
      simp only [jf,decide_eq_true_eq] at ha hb
      rw [ixR ha,ixR hb]
      simp only [Option.bind_some]
      grind
theorem zqB {r:zf} (hr:qi r) (a b:Int):zfM (r,a,b,()) = some (zmF r a b,()):=by
  rw [zC]
  simp only [zfM,zmF,ix]
  cases ha:jf r a with
  | false=>unfold jf at ha; grind
  | true =>
    cases hb:jf r b with
    | false=>unfold jf at ha hb; grind
    | true =>
      rw [zIZ (zrN hr a ha) (zrN hr b hb)]
      simp only [jf,decide_eq_true_eq] at ha hb
      rw [ixR ha,ixR hb]
      simp only [Option.bind_some]
      grind
def zdi (r:zf) (s:zb) (i:Int) (x:vI):Bool:=zow s x && zmF r x.1 i
theorem zku {r:zf} (hr:qi r) (s:zb) (i:Int) (x:vI):vV (x,some (r,s,()),some i,()) = some (zdi r s i x,()):=by
  rw [zC]
  simp only [vV,ztR,zxw hr,Option.bind_some,zdi]
  grind
theorem zmG {r:zf} (hr:qi r) (s:zb) (i:Int) (x:vI):zao (r,s,x,i,()) = some (zdi r s i x,()):=by
  rw [zC]
  simp only [zao,ztS,zqB hr,Option.bind_some,zdi]
  grind
def zgG (r:zf) (s:zb) (i:Int) (x:qb):Bool:=!x.1 || (zdi r s i x.2.1 && zdi r s i x.2.2.1)
def zgH (r:zf) (s:zb) (i:Int) (x:qc):Bool:=(x.2.2.1:Int) != 2 || zdi r s i x.2.2.2.2.1
def zrO (r:zf) (s:zb) (i:Int) (x:zn):Bool:=x.2.1.all (zgG r s i) && (x.2.2.1.all (zgH r s i) && x.2.2.2.2.2.2.1.all (zdi r s i))
theorem zL0 {r:zf} (hr:qi r) (s:zb) (i:Int) (x:qb):zf0 (x,some (some fun z=>vV (z.1,some (r,s,()),some i,())),()) = some (zgG r s i x,()):=by
  rw [zC]
  simp only [zf0,zku hr,Option.bind_some,zgG]
  grind
theorem zL1 {r:zf} (hr:qi r) (s:zb) (i:Int) (x:qc):zb8 (x,some (some fun z=>vV (z.1,some (r,s,()),some i,())),()) = some (zgH r s i x,()):=by
  rw [zC]
  simp only [zb8,zku hr,Option.bind_some,zgH]
  grind
theorem zEY {r:zf} {s:zb} (hr:qi r) (ok:zhk r) (sz:zeH r s):zfx ((r,s,()),()) = some (zW (fun i=>zrO r s (i:Int) (s.2.1.getD i za)) 0 (s.2.1.length - 0),()):=by
  rw [zC]
  have h1:=ok.labels
  have h2:=sz.shelves
  have h3:=ok.accounts
  exact z7 (B:=zcQ) (i0:=0) (n:=s.2.1.length) (by unfold Go.maxLen; omega) (Nat.zero_le _) (fun i=>(s.2.1,(s.2.1.length:Int),i,(r,s,()))) (fun k i _ h=>by
    have hm:12 ≤ Go.maxLen:=by unfold Go.maxLen; omega
    have hz:=sz.shelf _ (zX (d:=za) h)
    simp only [zcQ]
    have hbelow:zml ((r,s,()),(i:Int),()) = some (some fun z=>vV (z.1,some (r,s,()),some (i:Int),()),()):=rfl
    rw [ltT h,zj h,zG,hbelow,Option.bind_some,zKx (p:=zgG r s i) (by omega) fun x _=>zL0 hr s i x,zAY (p:=zgH r s i) (by omega) fun x _=>zL1 hr s i x,zLS (p:=zdi r s i) (by omega) fun x _=>zku hr s i x]
    simp only [Option.bind_some,cond_true]
    unfold zrO
    grind) (fun k=>by simp only [zcQ]; rw [ltF]; rfl)
theorem zJd {σ ρ:Type} {B:(σ→Option ρ)→σ→Option ρ} {i0 n:Nat} (hn:n ≤ Go.maxLen) (h0:i0 ≤ n) {p:Nat→Bool} {fin bad:Option ρ} (st:Int→σ)
    (hin:∀ k (i:Nat),i0 ≤ i→i < n→B k (st i) = bif p i then k (st (wI (i + 1))) else bad) (hout:∀ k,B k (st n) = fin) (K:Nat) (hK:n - i0 < K):zg B K (st i0) = bif zW p i0 (n - i0) then fin else bad:=by
  have key:∀ (m i fuel:Nat),i0 ≤ i→i + m = n→m < fuel→zg B fuel (st i) = bif zW p i m then fin else bad:=by
    intro m
    induction m with
    | zero =>
      intro i fuel _ h1 h2
      obtain ⟨f,rfl⟩:∃ f,fuel = f + 1:=⟨fuel - 1,by omega⟩
      obtain rfl:i = n:=by omega
      exact hout _
    | succ m ih =>
      intro i fuel h1 h2 h3
      obtain ⟨f,rfl⟩:∃ f,fuel = f + 1:=⟨fuel - 1,by omega⟩
      show B (zg B f) (st i) = _
      rw [hin _ i h1 (by omega),wI,zzz (len:=n) (by omega) hn,show ((i:Int) + 1) = ((i + 1:Nat):Int) by omega,ih (i + 1) f (by omega) (by omega) (by omega)]
      simp only [zW]
      cases p i <;> rfl
  exact key (n - i0) i0 K (Nat.le_refl _) (by omega) hK
def zli (r:zf) (x:qc):Bool:=(x.2.2.1:Int) != 1 || qw r x.2.2.2.1
def zlj (r:zf) (i:Int) (x:qq):Bool:=!x.1 || (zmF r x.2.1 i && (qw r x.2.2.1 && qw r x.2.2.2.1))
def zlk (r:zf) (x:zv):Bool:=!x.1 || (qw r x.2.1 && qw r x.2.2.1)
def zfP (r:zf) (i:Int) (x:zn):Bool:=x.2.2.1.all (zli r) && (x.2.2.2.1.all (zlj r i) && x.2.2.2.2.1.all (zlk r))
theorem zKP (r:zf) (s:zb) (x:qc):zbb (x,some (r,s,()),()) = some (zli r x,()):=by
  rw [zC]
  simp only [zbb,zai,Option.bind_some,zli]
  grind
theorem zKQ {r:zf} (hr:qi r) (s:zb) (i:Int) (x:qq):vq (x,some (r,s,()),some i,()) = some (zlj r i x,()):=by
  rw [zC]
  simp only [vq,zai,zxw hr,Option.bind_some,zlj]
  grind
theorem zKR (r:zf) (s:zb) (x:zv):qJ (x,some (r,s,()),()) = some (zlk r x,()):=by
  rw [zC]
  simp only [qJ,zai,Option.bind_some,zlk]
  grind
theorem zCI {r:zf} {s:zb} (hr:qi r) (ok:zhk r) (sz:zeH r s):zaY ((r,s,()),()) = some (zW (fun i=>zfP r (i:Int) (s.2.1.getD i za)) 0 s.2.1.length,()):=by
  rw [zC]
  have h1:=ok.labels
  have h2:=sz.shelves
  have hm:12 ≤ Go.maxLen:=by unfold Go.maxLen; omega
  have step:∀ k (i:Nat),i < s.2.1.length→qZ k (s.2.1,(s.2.1.length:Int),(i:Int),(r,s,())) = bif zfP r (i:Int) (s.2.1.getD i za) then k (s.2.1,(s.2.1.length:Int),wI ((i:Int) + 1),(r,s,())) else some (false,()):=fun k i h=>by
    have hz:=sz.shelf _ (zX (d:=za) h)
    simp only [qZ]
    rw [ltT h,zj h,zG,zAY (p:=zli r) (by omega) fun x _=>zKP r s x,zKy (p:=zlj r i) (by omega) fun x _=>zKQ hr s i x,zIO (p:=zlk r) (by omega) fun x _=>zKR r s x]
    simp only [Option.bind_some,cond_true]
    unfold zfP
    grind
  have hend:∀ k,qZ k (s.2.1,(s.2.1.length:Int),(s.2.1.length:Int),(r,s,())) = some (true,()):=fun k=>by simp only [qZ]; rw [ltF]; rfl
  have first:zaY ((r,s,()),()) = zzA (qZ) (qZ) K0 (s.2.1,(s.2.1.length:Int),((0:Nat):Int),(r,s,())):=rfl
  have hw:wI (((0:Nat):Int) + 1) = ((1:Nat):Int):=rfl
  obtain ⟨m,hK⟩:=zwc
  have hf:∀ (B0 B1:(vt→Option (Bool × Unit))→vt→Option (Bool × Unit)) (x:vt),zzA B0 B1 K0 x = B0 (zg B1 (m + 7)) x:=fun B0 B1 x=>by rw [hK]; rfl
  have rest:=zJd (B:=qZ) (i0:=1) (n:=s.2.1.length) (by unfold Go.maxLen; omega) (by omega) (p:=fun i=>zfP r (i:Int) (s.2.1.getD i za)) (fun i=>(s.2.1,(s.2.1.length:Int),i,(r,s,()))) (fun k i _ h=>step k i h) hend (m + 7) (by unfold K0 Go.maxLen at hK; omega)
  rw [hf] at first
  rw [first,step _ 0 (by omega),hw]
  refine (congrArg (fun z=>bif zfP r ((0:Nat):Int) (s.2.1.getD 0 za) then z else some (false,())) rest).trans ?_
  obtain ⟨n,hn⟩:∃ n,s.2.1.length = n + 1:=⟨s.2.1.length - 1,by omega⟩
  rw [hn]
  simp only [zW,Nat.add_sub_cancel]
  cases zfP r ((0:Nat):Int) (s.2.1.getD 0 za) <;> rfl
theorem zHp {l:List zv} {g:zv × Unit→Option (Bool × Unit)} {p:zv→Bool} (hg:∀ x,g (x,()) = some (p x,())) (z:Int):vT (some (l,some g,()),z,()) = some (decide (0 ≤ z ∧ z < (l.length:Int)) && p (l.getD z.toNat zS),()):=by
  by_cases h:0 ≤ z ∧ z < (l.length:Int)
  · obtain ⟨n,rfl⟩:=Int.eq_ofNat_of_zero_le h.1
    rw [zxu hg (by omega),decide_eq_true h,Bool.true_and,Int.toNat_natCast]
  · rw [decide_eq_false h,Bool.false_and]
    simp only [vT,zvQ,Option.bind_some,cond_true]
    grind
theorem zBb {α:Type} {p:α→Bool} (d:α) (L:List α) (q:Int→Bool):∀ (l:List α) (i:Nat),(∀ j,j < l.length→L.getD (i + j) d = l.getD j d)→(qN p i l).all q = zW (fun j=>!p (L.getD j d) || q (j:Int)) i l.length
  | [],_,_=>rfl
  | x :: l,i,h=>by
    have ih:=zBb (p:=p) d L q l (i + 1) fun j hj=>by
      have:=h (j + 1) (by simp; omega)
      rw [show i + 1 + j = i + (j + 1) by omega,this]; rfl
    have h0:L.getD i d = x:=h 0 (by simp)
    simp only [qN,List.length_cons,zW,h0]
    rw [← ih]
    cases p x <;> simp
def ziV (x:zn) (j:Nat) (t:qc):Bool:=(t.2.2.1:Int) != 3 || (decide (0 ≤ t.2.2.2.1 ∧ t.2.2.2.1 < (x.2.2.2.2.1.length:Int)) && ((x.2.2.2.2.1.getD (Int.toNat t.2.2.2.1) zS).1 && ((x.2.2.2.2.1.getD (Int.toNat t.2.2.2.1) zS).2.2.2.1.2.2.1:Int) == (j:Int)))
def zeN (x:zn) (j:Int) (t:zv):Bool:=(decide (t.2.2.2.1.2.2.1 < (x.2.2.1.length:Int)) && decide (t.2.2.2.2.1.2.2.1 < (x.2.2.1.length:Int))) && (decide (t.2.2.2.1.2.2.1 < 0) || (((x.2.2.1.getD (Int.toNat t.2.2.2.1.2.2.1) zB).2.2.1:Int) == 3 && ((x.2.2.1.getD (Int.toNat t.2.2.2.1.2.2.1) zB).2.2.2.1:Int) == j))
def zox (x:zn):Bool:=zW (fun j=>ziV x j (x.2.2.1.getD j zB)) 0 (x.2.2.1.length - 0) && zW (fun j=>!(x.2.2.2.2.1.getD j zS).1 || zeN x (j:Int) (x.2.2.2.2.1.getD j zS)) 0 x.2.2.2.2.1.length
theorem zpV (x:zv):vR (x,()) = some (x.1,()):=by
  rw [zC]; rfl
theorem zEZ {r:zf} {s:zb} (ok:zhk r) (sz:zeH r s):zfw ((r,s,()),()) = some (zW (fun i=>zox (s.2.1.getD i za)) 0 (s.2.1.length - 0),()):=by
  rw [zC]
  have h1:=ok.labels
  have h2:=sz.shelves
  have hm:12 ≤ Go.maxLen:=by unfold Go.maxLen; omega
  have hlm:12 ≤ lim:=by unfold lim; omega
  have l2:∀ k0 (i:Nat) (x:zn),x.2.2.2.2.1.length ≤ 12→zcE K0 k0 (s.2.1,(s.2.1.length:Int),(i:Int),qN (fun t:zv=>t.1) 0 x.2.2.2.2.1,((qN (fun t:zv=>t.1) 0 x.2.2.2.2.1).length:Int),0,x) = bif zW (fun j=>!(x.2.2.2.2.1.getD j zS).1 || zeN x (j:Int) (x.2.2.2.2.1.getD j zS)) 0 x.2.2.2.2.1.length then k0 (s.2.1,(s.2.1.length:Int),wI ((i:Int) + 1)) else some (false,()):=fun k0 i x hx=>by
    have hsl:=zna (p:=fun t:zv=>t.1) x.2.2.2.2.1 0
    have hsm:=znb (p:=fun t:zv=>t.1) x.2.2.2.2.1 0
    have:=jB (B:=fun k2=>zcD k0 k2) (l:=qN (fun t:zv=>t.1) 0 x.2.2.2.2.1) (0:Int) (p:=fun z=>zeN x z (x.2.2.2.2.1.getD z.toNat zS)) (fin:=k0 (s.2.1,(s.2.1.length:Int),wI ((i:Int) + 1))) (bad:=some (false,())) (fun j=>(s.2.1,(s.2.1.length:Int),(i:Int),qN (fun t:zv=>t.1) 0 x.2.2.2.2.1,((qN (fun t:zv=>t.1) 0 x.2.2.2.2.1).length:Int),j,x)) (by omega) (fun k j z hj hz hmem=>by
      obtain ⟨n,rfl,-,hn⟩:=hsm z hmem
      simp only [zcD]
      rw [ltT hj,zj hj,zG,hz,zj (by omega),zj (by omega),Int.toNat_natCast]
      simp only [cond_true,zeN,neI]
      by_cases ha:(x.2.2.2.2.1.getD n zS).2.2.2.1.2.2.1 < (x.2.2.1.length:Int)
      · by_cases hb:0 ≤ (x.2.2.2.2.1.getD n zS).2.2.2.1.2.2.1
        · rw [ixR ⟨hb,ha⟩,ixR ⟨hb,ha⟩]
          grind
        · grind
      · grind) (fun k=>by simp only [zcD]; rw [ltF]; rfl)
    refine this.trans ?_
    rw [zBb (p:=fun t:zv=>t.1) zS x.2.2.2.2.1 (fun z=>zeN x z (x.2.2.2.2.1.getD z.toNat zS)) x.2.2.2.2.1 0 fun j _=>by rw [Nat.zero_add]]
    simp only [Int.toNat_natCast]
  have l1:∀ k0 (i:Nat) (x:zn),x.2.2.1.length ≤ 12→x.2.2.2.2.1.length ≤ 12→zcF K0 k0 (some (x.2.2.2.2.1,some vR,()),s.2.1,(s.2.1.length:Int),(i:Int),x.2.2.1,(x.2.2.1.length:Int),0,x) = bif zox x then k0 (s.2.1,(s.2.1.length:Int),wI ((i:Int) + 1)) else some (false,()):=fun k0 i x hx hx2=>by
    have:=z7 (B:=fun k1=>zaf (zcE K0 k0) k0 k1) (i0:=0) (n:=x.2.2.1.length) (p:=fun j=>ziV x j (x.2.2.1.getD j zB)) (fin:=bif zW (fun j=>!(x.2.2.2.2.1.getD j zS).1 || zeN x (j:Int) (x.2.2.2.2.1.getD j zS)) 0 x.2.2.2.2.1.length then k0 (s.2.1,(s.2.1.length:Int),wI ((i:Int) + 1)) else some (false,())) (bad:=some (false,())) (by omega) (Nat.zero_le _) (fun j=>(some (x.2.2.2.2.1,some vR,()),s.2.1,(s.2.1.length:Int),(i:Int),x.2.2.1,(x.2.2.1.length:Int),j,x)) (fun k j _ hj=>by
      simp only [zaf]
      rw [ltT hj,zj hj,zG,zHp zpV]
      simp only [cond_true,Option.bind_some,ziV,neI]
      by_cases ha:0 ≤ (x.2.2.1.getD j zB).2.2.2.1 ∧ (x.2.2.1.getD j zB).2.2.2.1 < (x.2.2.2.2.1.length:Int)
      · rw [ixR ha]
        grind
      · grind) (fun k=>by
      simp only [zaf]
      rw [ltF,ztP (by omega) zpV,Option.bind_some]
      exact l2 k0 i x hx2)
    refine this.trans ?_
    unfold zox
    cases zW (fun j=>ziV x j (x.2.2.1.getD j zB)) 0 (x.2.2.1.length - 0) <;> rfl
  exact z7 (B:=fun k0=>zag (zcF K0 k0) k0) (i0:=0) (n:=s.2.1.length) (by omega) (Nat.zero_le _) (fun i=>(s.2.1,(s.2.1.length:Int),i)) (fun k i _ h=>by
    have hz:=sz.shelf _ (zX (d:=za) h)
    simp only [zag]
    have hq:yK ((s.2.1.getD i za).2.2.2.2.1,some vR,()) = some (some ((s.2.1.getD i za).2.2.2.2.1,some vR,()),()):=by
      simp only [yK,zmz (show (s.2.1.getD i za).2.2.2.2.1.length ≤ lim by omega),Option.bind_some]
      rfl
    rw [ltT h,zj h,zG,hq,Option.bind_some]
    exact l1 k i _ (by omega) (by omega)) (fun k=>by simp only [zag]; rw [ltF]; rfl)
end Go.Proofs.YtgomalidoilgbaaGreatDoor
end
section
namespace Go.Proofs.YtgomalidoilgbaaGreatDoor
open Go.Ev
def znl (r:zf) (s:zb) (i:Int) (x:zn) (j:Nat) (t:qc):Bool:=!t.1 || bif (t.2.2.1:Int) == 1 then qw r t.2.2.2.1 else bif (t.2.2.1:Int) == 2 then zdi r s i t.2.2.2.2.1 else decide (t.2.2.2.1 < (x.2.2.2.2.1.length:Int)) && ((x.2.2.2.2.1.getD (Int.toNat t.2.2.2.1) zS).1 && ((x.2.2.2.2.1.getD (Int.toNat t.2.2.2.1) zS).2.2.2.1.2.2.1:Int) == (j:Int))
theorem zHq {r:zf} (hr:qi r) {s:zb} {i j:Nat} (hi:i < s.2.1.length) (hj:j < (s.2.1.getD i za).2.2.1.length) (hok:vZ ((s.2.1.getD i za).2.2.1.getD j zB) = true) :
    zkc (r,s,(i:Int),(j:Int),()) = some (znl r s i (s.2.1.getD i za) j ((s.2.1.getD i za).2.2.1.getD j zB),()):=by
  rw [zC]
  simp only [zkc]
  rw [zj hi,zG,zj hj,Int.toNat_natCast]
  simp only [zdE,zmG hr,Option.bind_some,znl]
  generalize s.2.1.getD i za = x at *
  have ht:(x.2.2.1.getD j zB).1 = true→((x.2.2.1.getD j zB).2.2.1 == (1:Int)) = false→((x.2.2.1.getD j zB).2.2.1 == (2:Int)) = false→0 ≤ (x.2.2.1.getD j zB).2.2.2.1:=fun h1 h2 h3=>by
    unfold vZ zlc qX at hok; grind
  generalize x.2.2.1.getD j zB = t at *
  cases h1:t.1 with
  | false=>rfl
  | true =>
    cases h2:(t.2.2.1:Int) == 1 with
    | true=>cases hw:qw r t.2.2.2.1 <;> rfl
    | false =>
      cases h3:(t.2.2.1:Int) == 2 with
      | true=>cases hw:zdi r s i t.2.2.2.2.1 <;> rfl
      | false =>
        have h0:=ht h1 h2 h3
        by_cases h4:t.2.2.2.1 < (x.2.2.2.2.1.length:Int)
        · rw [ixR ⟨h0,h4⟩,ixR ⟨h0,h4⟩]
          grind
        · grind
def znm (r:zf) (x:zn) (j:Nat) (t:zv):Bool:=!t.1 || ((qw r t.2.1 && qw r t.2.2.1) && ((decide (t.2.2.2.1.2.2.1 < (x.2.2.1.length:Int)) && decide (t.2.2.2.2.1.2.2.1 < (x.2.2.1.length:Int))) && (decide (t.2.2.2.1.2.2.1 < 0) || ((x.2.2.1.getD (Int.toNat t.2.2.2.1.2.2.1) zB).1 && (((x.2.2.1.getD (Int.toNat t.2.2.2.1.2.2.1) zB).2.2.1:Int) == 3 && ((x.2.2.1.getD (Int.toNat t.2.2.2.1.2.2.1) zB).2.2.2.1:Int) == (j:Int))))))
theorem zHr (r:zf) (x:zn) {j:Nat} (hj:j < x.2.2.2.2.1.length):zjS (r,x,(j:Int),()) = some (znm r x j (x.2.2.2.2.1.getD j zS),()):=by
  rw [zC]
  simp only [zjS]
  rw [zj hj,zG]
  simp only [zdE,Option.bind_some,znm]
  generalize x.2.2.2.2.1.getD j zS = t
  cases h1:t.1 with
  | false=>rfl
  | true =>
    by_cases ha:t.2.2.2.1.2.2.1 < (x.2.2.1.length:Int)
    · by_cases hb:0 ≤ t.2.2.2.1.2.2.1
      · rw [ixR ⟨hb,ha⟩]
        grind
      · grind
    · grind
def zsE (r:zf) (s:zb) (i:Int) (x:zn):Bool:=x.2.1.all (zgG r s i) && (zW (fun j=>znl r s i x j (x.2.2.1.getD j zB)) 0 (x.2.2.1.length - 0) && (zW (fun j=>znm r x j (x.2.2.2.2.1.getD j zS)) 0 (x.2.2.2.2.1.length - 0) && (x.2.2.2.1.all (zlj r i) && x.2.2.2.2.2.2.1.all (zdi r s i))))
theorem zCJ {r:zf} {s:zb} (hr:qi r) (ok:zhk r) (hs:qn s) (sz:zeH r s) {i:Nat} (hi:i < s.2.1.length):zfA (r,s,(i:Int),()) = some (jG (s.2.1.getD i za) && zsE r s i (s.2.1.getD i za),()):=by
  rw [zC]
  have hm:12 ≤ Go.maxLen:=by unfold Go.maxLen; omega
  have hz:=sz.shelf _ (zX (d:=za) hi)
  have hin:=hs.shelves _ (zX (d:=za) hi)
  have h3:=ok.accounts
  simp only [zfA,ziu]
  have hitem:=fun (j:Nat) (hj:j < (s.2.1.getD i za).2.2.1.length) (hok:vZ ((s.2.1.getD i za).2.2.1.getD j zB) = true)=>zHq hr hi hj hok
  rw [zj hi,zG]
  generalize s.2.1.getD i za = x at *
  rw [zEF (by omega),zEG (by omega),zEJ (by omega),zEK (by omega),zEN (by omega) hin.trades]
  simp only [Option.bind_some]
  unfold jG
  cases x.1.all zkr with
  | false=>rfl
  | true =>
    cases zA4 x.2.1 with
    | false=>rfl
    | true =>
      cases hit:x.2.2.1.all vZ with
      | false=>rfl
      | true =>
        cases x.2.2.2.1.all zks with
        | false=>rfl
        | true =>
          cases x.2.2.2.2.1.all zhj with
          | false=>rfl
          | true =>
            have l4:zcW K0 ((i:Int),0,r,s,x) = bif x.2.2.2.2.2.2.1.all (zdi r s i) then some (true,()) else some (false,()) :=
              jB (l:=x.2.2.2.2.2.2.1) zF3 (fun j=>((i:Int),j,r,s,x)) (by omega) (fun k j y hj hy _=>by
                simp only [zf9]
                rw [ltT hj,zj hj,zG,hy,zmG hr]
                simp only [Option.bind_some,cond_true]) (fun k=>by simp only [zf9]; rw [ltF]; rfl)
            have l3:zcY K0 ((i:Int),0,r,s,x) = bif x.2.2.2.1.all (zlj r i) then zcW K0 ((i:Int),0,r,s,x) else some (false,()) :=
              jB (l:=x.2.2.2.1) zaC (fun j=>((i:Int),j,r,s,x)) (by omega) (fun k j y hj hy _=>by
                simp only [zcX]
                rw [ltT hj,zj hj,zG,hy,zqB hr]
                simp only [zdE,Option.bind_some,cond_true,zlj]
                grind) (fun k=>by simp only [zcX]; rw [ltF]; rfl)
            have l2:zc0 K0 ((i:Int),0,r,s,x) = bif zW (fun j=>znm r x j (x.2.2.2.2.1.getD j zS)) 0 (x.2.2.2.2.1.length - 0) then zcY K0 ((i:Int),0,r,s,x) else some (false,()) :=
              z7 (i0:=0) (n:=x.2.2.2.2.1.length) (by omega) (Nat.zero_le _) (fun j=>((i:Int),j,r,s,x)) (fun k j _ hj=>by
                simp only [zcZ]
                rw [ltT hj,zHr r x hj]
                simp only [Option.bind_some,cond_true]) (fun k=>by simp only [zcZ]; rw [ltF]; rfl)
            have l1:zc2 K0 ((i:Int),0,r,s,x) = bif zW (fun j=>znl r s i x j (x.2.2.1.getD j zB)) 0 (x.2.2.1.length - 0) then zc0 K0 ((i:Int),0,r,s,x) else some (false,()) :=
              z7 (i0:=0) (n:=x.2.2.1.length) (by omega) (Nat.zero_le _) (fun j=>((i:Int),j,r,s,x)) (fun k j _ hj=>by
                simp only [zc1]
                rw [ltT hj,hitem j hj (List.all_eq_true.1 hit _ (zX hj))]
                simp only [Option.bind_some,cond_true]) (fun k=>by simp only [zc1]; rw [ltF]; rfl)
            have l0:zkh K0 ((i:Int),0,r,s,x) = bif x.2.1.all (zgG r s i) then zc2 K0 ((i:Int),0,r,s,x) else some (false,()) :=
              jB (l:=x.2.1) qj (fun j=>((i:Int),j,r,s,x)) (by omega) (fun k j y hj hy _=>by
                simp only [zc3]
                rw [ltT hj,zj hj,zG,hy]
                simp only [zmG hr,Option.bind_some,cond_true,zgG]
                grind) (fun k=>by simp only [zc3]; rw [ltF]; rfl)
            simp only [cond_true]
            rw [l0,l1,l2,l3,l4]
            unfold zsE
            grind
def zoy (r:zf) (s:zb) (i:Int) (x:zn):Bool:=zrO r s i x && (zfP r i x && zox x)
theorem zyM {α:Type} {d:α} {l:List α} {p:α→Bool}:l.all p = true ↔ ∀ j,j < l.length→p (l.getD j d) = true:=by
  rw [List.all_eq_true]
  constructor
  · exact fun h j hj=>h _ (zX hj)
  · intro h x hx
    obtain ⟨i,hi,rfl⟩:=List.mem_iff_getElem.1 hx
    have:=h i hi
    simpa [List.getD,hi] using this
theorem zDj {t:qc} (h:vZ t = true) (h1:t.1 = false):t.2.2.1 = 0:=by
  unfold vZ at h
  rw [h1,cond_false] at h
  have e:eqI zw t (ze zw) = cond (t.1 == false) (cond (ByteArray.toList t.2.1 == ByteArray.toList (ze zw).2.1) (cond ((t.2.2.1:Int) == 0) (cond ((t.2.2.2.1:Int) == 0) (cond (eqI zL t.2.2.2.2.1 (ze zL)) true false) false) false) false) false:=rfl
  rw [e] at h
  cases hk:(t.2.2.1:Int) == 0 with
  | true=>exact eq_of_beq hk
  | false =>
    rw [hk] at h
    revert h
    cases (t.1 == false) <;> cases (ByteArray.toList t.2.1 == ByteArray.toList (ze zw).2.1) <;> intro h <;> cases h
theorem zBc {r:zf} {s:zb} {i:Int} {x:zn} {j:Nat} {t:qc} (h:vZ t = true):znl r s i x j t = (zgH r s i t && (zli r t && ziV x j t)):=by
  unfold znl zgH zli ziV
  cases h1:t.1 with
  | false =>
    have:=zDj h h1
    rw [this]; rfl
  | true =>
    unfold vZ zlc qX at h
    rw [h1] at h
    generalize qw r t.2.2.2.1 = a at *
    generalize zdi r s i t.2.2.2.2.1 = b at *
    grind
theorem zKS {r:zf} {x:zn} (hit:x.2.2.1.all vZ = true) {j:Nat} {t:zv}:znm r x j t = (zlk r t && (!t.1 || zeN x (j:Int) t)):=by
  unfold znm zlk zeN
  have hi:0 ≤ t.2.2.2.1.2.2.1→t.2.2.2.1.2.2.1 < (x.2.2.1.length:Int)→((x.2.2.1.getD (Int.toNat t.2.2.2.1.2.2.1) zB).2.2.1 == (3:Int)) = true→(x.2.2.1.getD (Int.toNat t.2.2.2.1.2.2.1) zB).1 = true:=fun h1 h2 h3=>by
    have h4:=List.all_eq_true.1 hit _ (zX (d:=zB) (show (Int.toNat t.2.2.2.1.2.2.1) < x.2.2.1.length by omega))
    cases h5:(x.2.2.1.getD (Int.toNat t.2.2.2.1.2.2.1) zB).1 with
    | true=>rfl
    | false =>
      have:=zDj h4 h5
      rw [this] at h3
      exact absurd h3 (by decide)
  generalize x.2.2.1.getD (Int.toNat t.2.2.2.1.2.2.1) zB = y at *
  cases t.1 with
  | false=>rfl
  | true=>grind
theorem zJe {r:zf} {s:zb} {i:Int} {x:zn} (hit:x.2.2.1.all vZ = true):zsE r s i x = zoy r s i x:=by
  have hi:=List.all_eq_true.1 hit
  rw [Bool.eq_iff_iff]
  unfold zsE zoy zrO zfP zox
  simp only [Bool.and_eq_true,qP,@zyM qc zB,@zyM zv zS,zKS hit]
  constructor
  · rintro ⟨h1,h2,h3,h4,h5⟩
    have h2':∀ j,j < x.2.2.1.length→zgH r s i (x.2.2.1.getD j zB) = true ∧ zli r (x.2.2.1.getD j zB) = true ∧ ziV x j (x.2.2.1.getD j zB) = true:=fun j hj=>by
      have:=h2 j (Nat.zero_le _) (by omega)
      rw [zBc (hi _ (zX hj))] at this
      simpa [Bool.and_eq_true] using this
    exact ⟨⟨h1,fun j hj=>(h2' j hj).1,h5⟩,⟨fun j hj=>(h2' j hj).2.1,h4,fun j hj=>(h3 j (Nat.zero_le _) (by omega)).1⟩,fun j _ hj=>(h2' j (by omega)).2.2,fun j _ hj=>(h3 j (Nat.zero_le _) (by omega)).2⟩
  · rintro ⟨⟨h1,h2,h3⟩,⟨h4,h5,h6⟩,h7,h8⟩
    refine ⟨h1,fun j _ hj=>?_,fun j _ hj=>⟨h6 j (by omega),h8 j (by omega) (by omega)⟩,h5,h3⟩
    rw [zBc (hi _ (zX (by omega))),h2 j (by omega),h4 j (by omega),h7 j (by omega) (by omega)]
    rfl
theorem zE0 {r:zf} {s:zb} (hr:qi r) (ok:zhk r) (hs:qn s) (sz:zeH r s) {i:Nat} (hi:i < s.2.1.length):zfA (r,s,(i:Int),()) = some (jG (s.2.1.getD i za) && zoy r s i (s.2.1.getD i za),()):=by
  rw [zCJ hr ok hs sz hi]
  cases h:jG (s.2.1.getD i za) with
  | false=>rfl
  | true =>
    have hit:(s.2.1.getD i za).2.2.1.all vZ = true:=by
      simp only [jG,Bool.and_eq_true] at h
      exact h.2.2.1
    rw [zJe hit]
end Go.Proofs.YtgomalidoilgbaaGreatDoor
end
section
namespace Go.Proofs.YtgomalidoilgbaaGreatDoor
open Go.Ev
def zF:List Int→Int
  | []=>0
  | x :: l=>x + zF l
theorem zyN:∀ (l m:List Int),zF (l ++ m) = zF l + zF m
  | [],m=>by simp [zF]
  | x :: l,m=>by simp only [List.cons_append,zF,zyN l m]; omega
theorem zoz:∀ {l:List Int},(∀ x ∈ l,0 ≤ x)→0 ≤ zF l
  | [],_=>Int.le_refl 0
  | x :: l,h=>by
    have h1:=h x (by simp)
    have h2:=zoz (l:=l) fun y hy=>h y (by simp [hy])
    simp only [zF]; omega
theorem qY {α:Type} {g:α→Int} {l:List α} (h:∀ x ∈ l,0 ≤ g x):0 ≤ zF (l.map g):=zoz fun x hx=>by
  obtain ⟨y,hy,rfl⟩:=List.mem_map.1 hx
  exact h y hy
def zkv (n:Int):Int × Int × Unit:=bif decide (n > M62) then (0,7,()) else (n,0,())
theorem jw {n:Int} (h:n > M62):zkv n = (0,7,()):=by unfold zkv; rw [decide_eq_true h]; rfl
theorem yd {n:Int} (h:n ≤ M62):zkv n = (n,0,()):=by unfold zkv; rw [decide_eq_false (by omega)]; rfl
theorem zoA:∀ (l:List Int) (a:Int),a ≤ M62→(∀ x ∈ l,0 ≤ x)→zld a l = zkv (a + zF l)
  | [],a,h,_=>by simp only [zld,zF,Int.add_zero]; exact (yd h).symm
  | x :: l,a,h,hp=>by
    have h2:=zoz (l:=l) fun y hy=>hp y (by simp [hy])
    simp only [zld,zF]
    by_cases hb:a + x > M62
    · rw [decide_eq_true hb,jw (by omega)]; rfl
    · rw [decide_eq_false hb,cond_false,zoA l (a + x) (by omega) fun y hy=>hp y (by simp [hy])]
      congr 1; omega
theorem zqC {α:Type} (p:α→Bool) (g:α→Int):∀ l:List α,zF ((l.filter p).map g) = zF (l.map fun x=>bif p x then g x else 0)
  | []=>rfl
  | x :: l=>by
    have ih:=zqC p g l
    rw [zle]
    simp only [List.map_cons,zF]
    cases hp:p x with
    | true=>simp only [cond_true,List.map_cons,zF,ih]
    | false=>simp only [cond_false,ih]; omega
def zl3 (x:zt):Int:=bif (x.2.2.2.1:Int) == 2 then x.2.2.2.2.1 else x.2.2.2.2.2.1
theorem zML (x:zt):zic (x,()) = some (zl3 x,()):=by
  simp only [zic,zl3]; grind
def qz (c:Int) (x:zt):Int:=bif x.1 && zl3 x == c then x.2.2.2.2.2.2.2.2.1 else 0
def zll (l:List zt) (c:Int):Int × Int × Unit:=bif zZ c then zkv (zF (l.map (qz c))) else (0,1,())
theorem zKT (l:List zt) (hl:l.length ≤ lim):zm5 (l,()) = some (some (l,some zjI,()),()):=by
  simp only [zm5,ziK,ztL hl,Option.bind_some]
  rfl
theorem zHs (x:zt):zjI (x,()) = some (x.1,()):=by
  rw [zC]; rfl
theorem zJf {l:List zt} (hl:l.length ≤ lim) (h:∀ x ∈ l,zhl x) (c:Int):zlE (l,c,()) = some (zll l c):=by
  have hl':l.length ≤ Go.maxLen:=by unfold lim at hl; unfold Go.maxLen; omega
  simp only [zlE,zlD,ya,Option.bind_some]
  unfold zll
  cases hc:zZ c with
  | false=>rfl
  | true =>
    have hslots:zj6 (l,()) = some (qN (fun x:zt=>x.1) 0 l,()):=by
      simp only [zj6]
      rw [zKT l hl,Option.bind_some,zEO hl zHs,Option.bind_some]
    simp only [cond_true]
    rw [hslots,Option.bind_some]
    have hsl:=zna (p:=fun x:zt=>x.1) l 0
    have hsm:=znb (p:=fun x:zt=>x.1) l 0
    have hloop:=jY (B:=zfz) (l:=qN (fun x:zt=>x.1) 0 l) (α:=List Int) (0:Int) (fun i o=>o.length ≤ i ∧ ∀ x ∈ o,0 ≤ x ∧ x < U64) (fun i o=>(l,c,qN (fun x:zt=>x.1) 0 l,((qN (fun x:zt=>x.1) 0 l).length:Int),i,o))
      (fun rest o=>some (zld 0 (o ++ (rest.filter fun z=>zl3 (l.getD z.toNat zI) == c).map fun z=>(l.getD z.toNat zI).2.2.2.2.2.2.2.2.1))) (by omega) (fun k i x rest o hi hI hx hm hr hk=>by
        simp only [zfz]
        obtain ⟨j,rfl,-,hj⟩:=hsm x hm
        rw [ltT hi,zj hi,zG,hx,zj (by omega),zj (by omega),Int.toNat_natCast,zvN,zML]
        have hxx:=(h (l.getD j zI) (zX (by omega))).held
        simp only [cond_true,zle,Int.toNat_natCast,Option.bind_some]
        rw [decide_eq_true (by simp; omega)]
        simp only [cond_true]
        cases hq:zl3 (l.getD j zI) == c with
        | false =>
          exact hk o ⟨by omega,hI.2⟩
        | true =>
          simp only [cond_true,List.map_cons,Int.toNat_natCast]
          refine (hk _ ⟨by simp; omega,fun x hx=>?_⟩).trans ?_
          · rcases List.mem_append.1 hx with hx | hx
            · exact hI.2 x hx
            · rcases List.mem_singleton.1 hx with rfl
              exact hxx
          · rw [List.append_assoc]; rfl) (fun k o hI=>by
        simp only [zfz]
        rw [ltF]
        simp only [cond_false]
        rw [zm9 (by omega) hI.2,List.filter_nil,List.map_nil,List.append_nil]
        rfl) [] ⟨Nat.le_refl _,fun x hx=>by cases hx⟩
    refine hloop.trans ?_
    rw [List.nil_append,zmE (q:=fun x:zt=>zl3 x == c) (g:=fun x:zt=>x.2.2.2.2.2.2.2.2.1) zI l l 0 fun j _=>by rw [Nat.zero_add]]
    rw [zoA _ 0 (by unfold M62; omega) fun x hx=>?_,zqC,Int.zero_add]
    · rfl
    · obtain ⟨y,hy,rfl⟩:=List.mem_map.1 hx
      exact (h y (List.mem_filter.1 hy).1).held.1
theorem zfE {x:zt} (h:zhl x) (c:Int):qv (qz c x):=by
  unfold qz
  cases x.1 && zl3 x == c with
  | true=>exact h.held
  | false=>exact (⟨Int.le_refl 0,by unfold U64; decide⟩:qv 0)
theorem zE1 (x:zt) (c:Int):zik (x,c,()) = some (qz c x,()):=by
  simp only [zik,qz,zl3]; grind
theorem zoB {a b:Int}:zm8 a b = zkv (a + b):=rfl
theorem zHt {l:List zt} (hl:l.length ≤ Go.maxLen) (h:∀ x ∈ l,zhl x) (c:Int):zjU (l,c,()) = some (zll l c):=by
  simp only [zjU,zjT]
  unfold zll
  cases hc:zZ c with
  | false=>unfold zZ at hc; grind
  | true =>
    have hloop:=jY (B:=zek) (l:=l) (α:=Int) zI (fun _ s=>0 ≤ s ∧ s ≤ M62) (fun i s=>(l,c,s,i)) (fun rest s=>some (zkv (s + zF (rest.map (qz c))))) hl (fun k i x rest s hi hI hx hm hr hk=>by
      simp only [zek]
      have hxx:=zfE (h x hm) c
      have hrest:0 ≤ zF (rest.map (qz c)):=qY fun y hy=>(zfE (h y (by rw [← hr] at hy; exact List.mem_of_mem_drop hy)) c).1
      rw [ltT hi,zj hi,zG,hx,zE1]
      simp only [cond_true,Option.bind_some,List.map_cons,zF]
      rw [zby (by unfold M62 at hI; unfold U64; omega) hxx,zoB,Option.bind_some]
      by_cases hb:s + qz c x > M62
      · rw [jw hb,jw (by omega)]; rfl
      · rw [yd (by omega)]
        have:=hk (s + qz c x) ⟨by have:=hxx.1; omega,by omega⟩
        refine this.trans ?_
        rw [Int.add_assoc]) (fun k s hI=>by
      simp only [zek]; rw [ltF]
      simp only [cond_false,List.map_nil,zF,Int.add_zero]
      rw [yd hI.2]) 0 (by unfold M62; omega)
    refine Eq.trans ?_ (hloop.trans ?_)
    · unfold zZ at hc
      grind
    · rw [Int.zero_add]; rfl
def zaJ (c:Int) (x:zv):Int:=bif x.1 && (x.2.2.2.1.1:Int) == c then x.2.2.2.1.2.1 else 0
theorem zvU {l:List zv} (h:∀ x ∈ l,zhi x) {c:Int} (hc:zZ c = true):zjb l c = zkv (zF (l.map (zaJ c))):=by
  unfold zjb
  rw [hc,cond_true,zoA _ 0 (by unfold M62; omega) fun x hx=>?_,zqC,Int.zero_add]
  · rfl
  · obtain ⟨y,hy,rfl⟩:=List.mem_map.1 hx
    exact (h y (List.mem_filter.1 hy).1).1.1
theorem zE2 {x:zv} (h:zhi x) (c:Int):qv (zaJ c x):=by
  unfold zaJ
  cases x.1 && (x.2.2.2.1.1:Int) == c with
  | true=>exact h.1
  | false=>exact (⟨Int.le_refl 0,by unfold U64; decide⟩:qv 0)
def jH (c:Int) (a:List Int):Int:=a.getD c.toNat 0
def qh (c:Int) (x:zn):Int:=zF (x.2.2.2.2.1.map (zaJ c)) + zF (x.2.2.2.2.2.1.map (jH c))
theorem zkw {x:zn} (h:znj x) (c:Int):0 ≤ zF (x.2.2.2.2.1.map (zaJ c)):=qY fun y hy=>(zE2 (h.trades y hy) c).1
theorem zsF {x:zn} (h:znj x) (c:Int):0 ≤ zF (x.2.2.2.2.2.1.map (jH c)):=qY fun y hy=>(vu (h.purses y hy) _).1
theorem zbU {x:zn} (h:znj x) (c:Int):0 ≤ qh c x:=by
  have:=zkw h c
  have:=zsF h c
  unfold qh; omega
def zgg (s:zb) (c:Int):Int × Int × Unit:=bif zZ c then zkv (zF (s.2.2.2.1.map (qz c)) + zF (s.2.1.map (qh c))) else (0,1,())
def wts:List zn→Nat
  | []=>0
  | x :: l=>1 + x.2.2.2.2.2.1.length + wts l
structure zwg (s:zb):Prop where
  shelves:s.2.1.length ≤ 2000000
  orders:s.2.2.2.1.length ≤ 2000000
  shelf:∀ x ∈ s.2.1,x.2.2.2.2.1.length ≤ 2000000 ∧ x.2.2.2.2.2.1.length ≤ 2000000
  all:wts s.2.1 ≤ 2000000
theorem zMM {l:List zn} {i:Nat} {x:zn} {rest:List zn} (hi:i < l.length) (hx:l.getD i za = x) (hr:l.drop (i + 1) = rest):wts (l.drop i) = 1 + x.2.2.2.2.2.1.length + wts rest:=by
  rw [zb3 za hi,hx,hr]; rfl
theorem zL2 {n:Nat}:∀ {l:List zn},(∀ x ∈ l,x.2.2.2.2.2.1.length ≤ n)→wts l ≤ l.length * (n + 1)
  | [],_=>Nat.zero_le _
  | x :: l,h=>by
    have h1:=h x (by simp)
    have h2:=zL2 (l:=l) fun y hy=>h y (by simp [hy])
    simp only [wts,List.length_cons,Nat.add_mul]
    omega
theorem vH {c:Int} (hc:zZ c = true):0 ≤ c ∧ c < ((4:Nat):Int):=by
  simp only [zZ,decide_eq_true_eq] at hc; omega
theorem zHu {s:zb} (hs:qn s) (sh:zwg s) (c:Int):zkg (s,c,()) = some (zgg s c):=by
  have hlm:10000000 ≤ lim:=by unfold lim; omega
  have hmm:10000000 ≤ Go.maxLen:=by unfold Go.maxLen; omega
  have hsh:=sh.shelves
  have hso:=sh.orders
  simp only [zkg,zkf,ya,Option.bind_some]
  rw [zJf (by omega) hs.orders]
  unfold zgg zll
  cases hc:zZ c with
  | false=>rfl
  | true =>
    have hcin:=vH hc
    simp only [cond_true,Option.bind_some]
    have hbook:0 ≤ zF (s.2.2.2.1.map (qz c)):=qY fun y hy=>(zfE (hs.orders y hy) c).1
    have hall:0 ≤ zF (s.2.1.map (qh c)):=qY fun y hy=>zbU (hs.shelves y hy) c
    have inner:∀ k0 (i:Nat) (x:zn) (o:List Int),x.2.2.2.2.2.1.length ≤ 2000000→o.length ≤ 2000001→zeE K0 k0 (c,s.2.1,(s.2.1.length:Int),(i:Int),x.2.2.2.2.2.1,(x.2.2.2.2.2.1.length:Int),0,o) = k0 (c,s.2.1,(s.2.1.length:Int),wI ((i:Int) + 1),o ++ x.2.2.2.2.2.1.map (jH c)):=fun k0 i x o hx ho =>
      jY (B:=fun k1=>zeD k0 k1) (l:=x.2.2.2.2.2.1) (α:=List Int) (ze (Ty.arr 4 tU)) (fun j o'=>o'.length ≤ 2000001 + j) (fun j o'=>(c,s.2.1,(s.2.1.length:Int),(i:Int),x.2.2.2.2.2.1,(x.2.2.2.2.2.1.length:Int),j,o')) (fun rest o'=>k0 (c,s.2.1,(s.2.1.length:Int),wI ((i:Int) + 1),o' ++ rest.map (jH c))) (by omega) (fun k j a rest o' hj hI ha hm hr hk=>by
        simp only [zeD]
        have h4:((4:Int)) = ((4:Nat):Int):=rfl
        rw [ltT hj,zj hj,Int.toNat_natCast,ha,zvN,decide_eq_true (by simp; omega)]
        simp only [cond_true]
        refine Eq.trans (ixR hcin) ?_
        refine (hk _ (by simp; omega)).trans ?_
        rw [List.append_assoc]; rfl) (fun k o' _=>by
        simp only [zeD]; rw [ltF]
        simp only [cond_false,List.map_nil,List.append_nil]) o ho
    by_cases hb:zF (s.2.2.2.1.map (qz c)) > M62
    · rw [jw hb,jw (by omega)]; rfl
    · rw [yd (by omega)]
      have hloop:=jY (B:=fun k0=>zaZ (zeE K0 k0) k0) (l:=s.2.1) (α:=List Int) za (fun i o=>o.length + wts (s.2.1.drop i) ≤ 2000001 ∧ ∀ x ∈ o,0 ≤ x ∧ x < U64) (fun i o=>(c,s.2.1,(s.2.1.length:Int),i,o)) (fun rest o=>some (zkv (zF o + zF (rest.map (qh c))))) (by omega) (fun k i x rest o hi hI hx hm hr hk=>by
        simp only [zaZ]
        have hin:=hs.shelves x hm
        have hlen:=sh.shelf x hm
        have hw:=zMM hi hx hr
        have hw2:=hI.1
        rw [hw] at hw2
        have h1:=zkw hin c
        have h2:=zsF hin c
        have ho:0 ≤ zF o:=zoz fun y hy=>(hI.2 y hy).1
        have hrest:0 ≤ zF (rest.map (qh c)):=qY fun y hy=>zbU (hs.shelves y (by rw [← hr] at hy; exact List.mem_of_mem_drop hy)) c
        rw [ltT hi,zj hi,zG,hx,zHk (by omega) hin.trades,zvU hin.trades hc]
        simp only [cond_true,Option.bind_some,List.map_cons,zF,qh]
        by_cases hb:zF (x.2.2.2.2.1.map (zaJ c)) > M62
        · rw [jw hb,jw (by omega)]; rfl
        · rw [yd (by omega),zvN,inner k i x _ (by omega) (by simp; omega)]
          rw [decide_eq_true (by simp; omega)]
          simp only [bne_self_eq_false,cond_true,cond_false]
          refine (hk _ ⟨by rw [hr]; simp; omega,fun y hy=>?_⟩).trans ?_
          · rcases List.mem_append.1 hy with hy | hy
            · rcases List.mem_append.1 hy with hy | hy
              · exact hI.2 y hy
              · rcases List.mem_singleton.1 hy with rfl
                unfold M62 at hb; unfold U64; omega
            · obtain ⟨a,ha,rfl⟩:=List.mem_map.1 hy
              exact vu (hin.purses a ha) _
          · rw [zyN,zyN]
            simp only [zF]
            congr 2; omega) (fun k o hI=>by
        simp only [zaZ]
        rw [ltF]
        simp only [cond_false]
        rw [zm9 (by omega) hI.2,zoA o 0 (by unfold M62; omega) fun y hy=>(hI.2 y hy).1]
        simp only [List.map_nil,zF,Int.add_zero,Int.zero_add]
        rfl) [zF (s.2.2.2.1.map (qz c))] ⟨by have:=sh.all; simp; omega,fun y hy=>by
          rcases List.mem_singleton.1 hy with rfl
          unfold M62 at hb; unfold U64; omega⟩
      refine hloop.trans ?_
      simp only [zF,Int.add_zero]
theorem zHv {s:zb} (hs:qn s) (sh:zwg s) (c:Int):zj4 (s,c,()) = some (zgg s c):=by
  have hmm:10000000 ≤ Go.maxLen:=by unfold Go.maxLen; omega
  have hsh:=sh.shelves
  have hso:=sh.orders
  simp only [zj4,zj3]
  rw [zHt (by omega) hs.orders]
  unfold zgg zll
  cases hc:zZ c with
  | false=>rfl
  | true =>
    have hcin:=vH hc
    simp only [cond_true,Option.bind_some]
    have hbook:0 ≤ zF (s.2.2.2.1.map (qz c)):=qY fun y hy=>(zfE (hs.orders y hy) c).1
    have hall:0 ≤ zF (s.2.1.map (qh c)):=qY fun y hy=>zbU (hs.shelves y hy) c
    have inner:∀ k0 (i:Nat) (a:Int),i < s.2.1.length→0 ≤ a ∧ a ≤ M62→zeu K0 k0 (c,a,(i:Int),0,s) = bif decide (a + zF ((s.2.1.getD i za).2.2.2.2.2.1.map (jH c)) > M62) then some (0,7,()) else k0 (c,a + zF ((s.2.1.getD i za).2.2.2.2.2.1.map (jH c)),wI ((i:Int) + 1),s):=fun k0 i a hi ha=>by
      have hlen:=sh.shelf _ (zX (d:=za) hi)
      have hin:=hs.shelves _ (zX (d:=za) hi)
      exact jY (B:=fun k1=>zet k0 k1) (l:=(s.2.1.getD i za).2.2.2.2.2.1) (α:=Int) (ze (Ty.arr 4 tU)) (fun j a=>0 ≤ a ∧ a ≤ M62) (fun j a=>(c,a,(i:Int),j,s)) (fun rest a=>bif decide (a + zF (rest.map (jH c)) > M62) then some (0,7,()) else k0 (c,a + zF (rest.map (jH c)),wI ((i:Int) + 1),s)) (by omega) (fun k j y rest a hj hI hy hm hr hk=>by
        have hyy:=vu (hin.purses y hm) c.toNat
        have hrest:0 ≤ zF (rest.map (jH c)):=qY fun z hz=>(vu (hin.purses z (by rw [← hr] at hz; exact List.mem_of_mem_drop hz)) _).1
        simp only [zet]
        simp only [zj hi,zG]
        rw [ltT hj,zj hj,hy]
        simp only [cond_true,List.map_cons,zF]
        refine Eq.trans (ixR hcin) ?_
        rw [zby (by unfold M62 at hI; unfold U64; omega) hyy,zoB,Option.bind_some]
        have hp:jH c y = List.getD y c.toNat 0:=rfl
        rw [hp]
        by_cases hb:a + List.getD y c.toNat 0 > M62
        · rw [jw hb,decide_eq_true (by omega)]; rfl
        · rw [yd (by omega)]
          have:=hk (a + List.getD y c.toNat 0) ⟨by have:=hyy.1; omega,by omega⟩
          refine this.trans ?_
          rw [Int.add_assoc]) (fun k a hI=>by
        simp only [zet]
        simp only [zj hi,zG]
        rw [ltF]
        simp only [cond_false,List.map_nil,zF,Int.add_zero]
        rw [decide_eq_false (by omega)]; rfl) a ha
    by_cases hb:zF (s.2.2.2.1.map (qz c)) > M62
    · rw [jw hb,jw (by omega)]; rfl
    · rw [yd (by omega)]
      have hloop:=jY (B:=fun k0=>zaW (zeu K0 k0) k0) (l:=s.2.1) (α:=Int) za (fun i a=>0 ≤ a ∧ a ≤ M62) (fun i a=>(c,a,i,s)) (fun rest a=>some (zkv (a + zF (rest.map (qh c))))) (by omega) (fun k i x rest a hi hI hx hm hr hk=>by
        simp only [zaW]
        have hin:=hs.shelves x hm
        have hlen:=sh.shelf x hm
        have h1:=zkw hin c
        have h2:=zsF hin c
        have hrest:0 ≤ zF (rest.map (qh c)):=qY fun y hy=>zbU (hs.shelves y (by rw [← hr] at hy; exact List.mem_of_mem_drop hy)) c
        have hinn:=fun a ha=>inner k i a hi ha
        rw [hx] at hinn
        rw [ltT hi,zj hi,zG,hx,zHl (by omega) hin.trades,zvU hin.trades hc]
        simp only [cond_true,Option.bind_some,List.map_cons,zF,qh]
        by_cases hb:zF (x.2.2.2.2.1.map (zaJ c)) > M62
        · rw [jw hb,jw (by omega)]; rfl
        · rw [yd (by omega),zby (by unfold M62 at hI; unfold U64; omega) (by unfold M62 at hb; unfold U64; omega),zoB,Option.bind_some]
          by_cases hb2:a + zF (x.2.2.2.2.1.map (zaJ c)) > M62
          · rw [jw hb2,jw (by omega)]; rfl
          · rw [yd (by omega),hinn _ (by omega)]
            simp only [bne_self_eq_false,cond_false]
            by_cases hb3:a + zF (x.2.2.2.2.1.map (zaJ c)) + zF (x.2.2.2.2.2.1.map (jH c)) > M62
            · rw [decide_eq_true hb3,jw (by omega)]; rfl
            · rw [decide_eq_false hb3,cond_false]
              refine (hk _ (by omega)).trans ?_
              congr 2; omega) (fun k a hI=>by
        simp only [zaW]
        rw [ltF]
        simp only [cond_false,List.map_nil,zF,Int.add_zero]
        rw [yd hI.2]) (zF (s.2.2.2.1.map (qz c))) (by omega)
      exact hloop
end Go.Proofs.YtgomalidoilgbaaGreatDoor
end
section
namespace Go.Proofs.YtgomalidoilgbaaGreatDoor
open Go.Ev
def zgI (a b:Int):Int × Int × Unit:=bif decide (a < b) then (0,6,()) else (a - b,0,())
theorem zHw {a b:Int} (ha:0 ≤ a ∧ a ≤ M62) (hb:0 ≤ b ∧ b ≤ M62):za8 (a,b,()) = some (zgI a b):=by
  simp only [za8,extA,extB,zgI,cond_false]
  unfold M62 at *
  have h2:b ≤ a→(a - b) % 18446744073709551616 = a - b:=fun h=>by omega
  grind
theorem zE3 {a b:Int} (ha:0 ≤ a ∧ a ≤ M62) (hb:0 ≤ b ∧ b ≤ M62):zfr (a,b,()) = some (zgI a b):=by
  simp only [zfr,zgI]
  unfold M62 at *
  by_cases h:b > a
  · grind
  · have hw:wU (a - b) = a - b:=zdQ (by omega)
    rw [hw]; grind
def zgJ (f:zn→List Int) (s:zb) (c:Int):Int:=zF (s.2.1.map fun x=>jH c (f x))
theorem zoC {f:zn→List Int} {s:zb} (h:∀ x ∈ s.2.1,zsD (f x)) (c:Int):0 ≤ zgJ f s c:=qY fun y hy=>(vu (h y hy) _).1
theorem zHx {s:zb} (sh:zwg s) {f:zn→List Int} {g:zn × Unit→Option (List Int × Unit)} (hg:∀ x,g (x,()) = some (f x,())) (h:∀ x ∈ s.2.1,zsD (f x)) {c:Int} (hc:zZ c = true):zg8 (s,c,some g,()) = some (zkv (zgJ f s c)):=by
  have hlm:10000000 ≤ lim:=by unfold lim; omega
  have hmm:10000000 ≤ Go.maxLen:=by unfold Go.maxLen; omega
  have hsh:=sh.shelves
  have hcin:=vH hc
  have hloop:=jY (B:=zbm) (l:=s.2.1) (α:=List Int) za (fun i o=>o.length ≤ i ∧ ∀ x ∈ o,0 ≤ x ∧ x < U64) (fun i o=>(c,some g,s.2.1,(s.2.1.length:Int),i,o)) (fun rest o=>some (zld 0 (o ++ rest.map fun x=>jH c (f x)))) (by omega) (fun k i x rest o hi hI hx hm hr hk=>by
    simp only [zbm]
    rw [ltT hi,zj hi,zG,hx]
    simp only [cond_true,Option.bind_some]
    rw [hg]
    simp only [Option.bind_some]
    refine Eq.trans (ixR hcin) ?_
    rw [zvN,decide_eq_true (by simp; omega)]
    simp only [cond_true]
    refine (hk _ ⟨by simp; omega,fun y hy=>?_⟩).trans ?_
    · rcases List.mem_append.1 hy with hy | hy
      · exact hI.2 y hy
      · rcases List.mem_singleton.1 hy with rfl
        exact vu (h x hm) _
    · rw [List.append_assoc]; rfl) (fun k o hI=>by
    simp only [zbm]
    rw [ltF]
    simp only [cond_false]
    rw [zm9 (by omega) hI.2,List.map_nil,List.append_nil]
    rfl) [] ⟨Nat.le_refl _,fun x hx=>by cases hx⟩
  refine Eq.trans ?_ (hloop.trans ?_)
  · rfl
  · rw [List.nil_append,zoA _ 0 (by unfold M62; omega) fun y hy=>?_,Int.zero_add]
    · rfl
    · obtain ⟨z,hz,rfl⟩:=List.mem_map.1 hy
      exact (vu (h z hz) _).1
def zkx (s:zb) (c:Int):Int × Int × Unit:=bif zZ c then bif decide (zgJ (fun x=>x.2.2.2.2.2.2.2.1) s c > M62) then (0,7,()) else bif decide (zgJ (fun x=>x.2.2.2.2.2.2.2.2.1) s c > M62) then (0,7,()) else zgI (zgJ (fun x=>x.2.2.2.2.2.2.2.1) s c) (zgJ (fun x=>x.2.2.2.2.2.2.2.2.1) s c) else (0,1,())
theorem zHy {s:zb} (hs:qn s) (sh:zwg s) (c:Int):zj9 (s,c,()) = some (zkx s c):=by
  simp only [zj9,ya,Option.bind_some]
  unfold zkx
  cases hc:zZ c with
  | false=>rfl
  | true =>
    have p1:=zoC (f:=fun x=>x.2.2.2.2.2.2.2.1) (fun x hx=>(hs.shelves x hx).made) c
    have p2:=zoC (f:=fun x=>x.2.2.2.2.2.2.2.2.1) (fun x hx=>(hs.shelves x hx).spent) c
    rw [zHx sh (f:=fun x=>x.2.2.2.2.2.2.2.1) (g:=zk1) (fun x=>rfl) (fun x hx=>(hs.shelves x hx).made) hc,zHx sh (f:=fun x=>x.2.2.2.2.2.2.2.2.1) (g:=zk2) (fun x=>rfl) (fun x hx=>(hs.shelves x hx).spent) hc]
    simp only [cond_true,Option.bind_some]
    generalize zgJ (fun x=>x.2.2.2.2.2.2.2.1) s c = a at *
    generalize zgJ (fun x=>x.2.2.2.2.2.2.2.2.1) s c = b at *
    by_cases h1:a > M62
    · rw [jw h1,decide_eq_true h1]; rfl
    · rw [yd (by omega),decide_eq_false h1]
      by_cases h2:b > M62
      · rw [jw h2,decide_eq_true h2]; rfl
      · rw [yd (by omega),decide_eq_false h2]
        simp only [bne_self_eq_false,cond_false]
        rw [zHw (by omega) (by omega)]; rfl
theorem zHz {s:zb} (hs:qn s) (sh:zwg s) (c:Int):zjY (s,c,()) = some (zkx s c):=by
  have hmm:10000000 ≤ Go.maxLen:=by unfold Go.maxLen; omega
  have hsh:=sh.shelves
  simp only [zjY,zjX]
  unfold zkx
  cases hc:zZ c with
  | false=>unfold zZ at hc; grind
  | true =>
    have hcin:=vH hc
    have p1:=zoC (f:=fun x=>x.2.2.2.2.2.2.2.1) (fun x hx=>(hs.shelves x hx).made) c
    have p2:=zoC (f:=fun x=>x.2.2.2.2.2.2.2.2.1) (fun x hx=>(hs.shelves x hx).spent) c
    have l1:∀ (a b e:Int),0 ≤ a ∧ a ≤ M62→((e = 0 ∧ 0 ≤ b ∧ b ≤ M62) ∨ e = 7)→zaU K0 (c,a,b,e,0,s) = bif e == 0 then (bif decide (b + zgJ (fun x=>x.2.2.2.2.2.2.2.2.1) s c > M62) then some (0,7,()) else some (zgI a (b + zgJ (fun x=>x.2.2.2.2.2.2.2.2.1) s c))) else some (0,7,()):=fun a b e ha he =>
      jY (B:=zep) (l:=s.2.1) (α:=Int × Int) za (fun _ st=>(st.2 = 0 ∧ 0 ≤ st.1 ∧ st.1 ≤ M62) ∨ st.2 = 7) (fun i st=>(c,a,st.1,st.2,i,s)) (fun rest st=>bif st.2 == 0 then (bif decide (st.1 + zF (rest.map fun x=>jH c x.2.2.2.2.2.2.2.2.1) > M62) then some (0,7,()) else some (zgI a (st.1 + zF (rest.map fun x=>jH c x.2.2.2.2.2.2.2.2.1)))) else some (0,7,())) (by omega) (fun k i x rest st hi hI hx hm hr hk=>by
        obtain ⟨b,e⟩:=st
        have hrest:0 ≤ zF (rest.map fun x:zn=>jH c x.2.2.2.2.2.2.2.2.1):=qY fun y hy=>(vu (hs.shelves y (by rw [← hr] at hy; exact List.mem_of_mem_drop hy)).spent _).1
        simp only [zep]
        rw [ltT hi,zj hi,zG,hx]
        rcases hI with ⟨h0,hb⟩ | h7
        · simp only at h0 hb
          subst h0
          have hxx:=vu (hs.shelves x hm).spent c.toNat
          simp only [beq_self_eq_true,cond_true,List.map_cons,zF,jH]
          refine Eq.trans (ixR hcin) ?_
          rw [zby (by unfold M62 at hb; unfold U64; omega) hxx,zoB,Option.bind_some]
          by_cases hh:b + List.getD x.2.2.2.2.2.2.2.2.1 c.toNat 0 > M62
          · rw [jw hh]
            unfold jH at hrest
            rw [decide_eq_true (by omega)]
            exact hk (0,7) (.inr rfl)
          · rw [yd (by omega)]
            have:=hk (b + List.getD x.2.2.2.2.2.2.2.2.1 c.toNat 0,0) (.inl ⟨rfl,by have:=hxx.1; show 0 ≤ b + _ ∧ b + _ ≤ M62; omega⟩)
            refine this.trans ?_
            simp only [beq_self_eq_true,cond_true]
            rw [Int.add_assoc]; rfl
        · simp only at h7
          subst h7
          rfl) (fun k st hI=>by
        obtain ⟨b,e⟩:=st
        simp only [zep]
        rw [ltF]
        rcases hI with ⟨h0,hb⟩ | h7
        · simp only at h0 hb
          subst h0
          simp only [bne_self_eq_false,cond_false,beq_self_eq_true,cond_true,List.map_nil,zF,Int.add_zero]
          rw [zE3 ha hb,decide_eq_false (by omega)]
          rfl
        · simp only at h7
          subst h7
          rfl) (b,e) he
    have l0:=jY (B:=fun k0=>zaV (zaU K0) k0) (l:=s.2.1) (α:=Int × Int) za (fun _ st=>(st.2 = 0 ∧ 0 ≤ st.1 ∧ st.1 ≤ M62) ∨ (st.2 = 7 ∧ st.1 = 0)) (fun i st=>(c,st.1,0,st.2,i,s)) (fun rest st=>bif st.2 == 0 then (bif decide (st.1 + zF (rest.map fun x=>jH c x.2.2.2.2.2.2.2.1) > M62) then some (0,7,()) else zaU K0 (c,st.1 + zF (rest.map fun x=>jH c x.2.2.2.2.2.2.2.1),0,0,0,s)) else some (0,7,())) (by omega) (fun k i x rest st hi hI hx hm hr hk=>by
        obtain ⟨a,e⟩:=st
        have hrest:0 ≤ zF (rest.map fun x:zn=>jH c x.2.2.2.2.2.2.2.1):=qY fun y hy=>(vu (hs.shelves y (by rw [← hr] at hy; exact List.mem_of_mem_drop hy)).made _).1
        simp only [zaV]
        rw [ltT hi,zj hi,zG,hx]
        rcases hI with ⟨h0,hb⟩ | ⟨h7,ha⟩
        · simp only at h0 hb
          subst h0
          have hxx:=vu (hs.shelves x hm).made c.toNat
          simp only [beq_self_eq_true,cond_true,List.map_cons,zF,jH]
          refine Eq.trans (ixR hcin) ?_
          rw [zby (by unfold M62 at hb; unfold U64; omega) hxx,zoB,Option.bind_some]
          by_cases hh:a + List.getD x.2.2.2.2.2.2.2.1 c.toNat 0 > M62
          · rw [jw hh]
            unfold jH at hrest
            rw [decide_eq_true (by omega)]
            exact hk (0,7) (.inr ⟨rfl,rfl⟩)
          · rw [yd (by omega)]
            have:=hk (a + List.getD x.2.2.2.2.2.2.2.1 c.toNat 0,0) (.inl ⟨rfl,by have:=hxx.1; show 0 ≤ a + _ ∧ a + _ ≤ M62; omega⟩)
            refine this.trans ?_
            simp only [beq_self_eq_true,cond_true]
            rw [Int.add_assoc]; rfl
        · simp only at h7 ha
          subst h7
          subst ha
          simp only [cond_true]
          refine (l1 0 0 7 (by unfold M62; omega) (.inr rfl)).trans ?_
          rfl) (fun k st hI=>by
        obtain ⟨a,e⟩:=st
        simp only [zaV]
        rw [ltF]
        rcases hI with ⟨h0,hb⟩ | ⟨h7,ha⟩
        · simp only at h0 hb
          subst h0
          simp only [cond_false,beq_self_eq_true,cond_true,List.map_nil,zF,Int.add_zero]
          rw [decide_eq_false (by omega)]; rfl
        · simp only at h7 ha
          subst h7
          subst ha
          refine (l1 0 0 7 (by unfold M62; omega) (.inr rfl)).trans ?_
          rfl) (0,0) (.inl ⟨rfl,by show (0:Int) ≤ 0 ∧ (0:Int) ≤ M62; unfold M62; omega⟩)
    refine Eq.trans ?_ (l0.trans ?_)
    · unfold zZ at hc; grind
    · simp only [beq_self_eq_true,cond_true]
      have e1:(0:Int) + zF (s.2.1.map fun x:zn=>jH c x.2.2.2.2.2.2.2.1) = zgJ (fun x=>x.2.2.2.2.2.2.2.1) s c:=by rw [Int.zero_add]; rfl
      rw [e1]
      by_cases h1:zgJ (fun x=>x.2.2.2.2.2.2.2.1) s c > M62
      · rw [decide_eq_true h1]; rfl
      · rw [decide_eq_false h1,cond_false,cond_false,l1 _ 0 0 (by omega) (.inl ⟨rfl,by unfold M62; omega⟩),Int.zero_add]
        simp only [beq_self_eq_true,cond_true]
        cases decide (zgJ (fun x=>x.2.2.2.2.2.2.2.2.1) s c > M62) <;> rfl
end Go.Proofs.YtgomalidoilgbaaGreatDoor
end
section
namespace Go.Proofs.YtgomalidoilgbaaGreatDoor
open Go.Ev
def zky (r:zf) (s:zb) (c i:Nat):Bool:=!decide (((s.2.1.getD i za).2.2.2.2.2.2.2.1.getD c 0:Int) > (r.2.2.2.2.1.getD i qg).2.2.2.2.2.1)
def zkz (s:zb) (c:Int):Bool:=(zgg s c).2.1 == 0 && ((zkx s c).2.1 == 0 && (zgg s c).1 == (zkx s c).1)
def jb (r:zf) (s:zb):Bool:=ja r && (zgF r s && (zhn r s && (zW (fun i=>(jG (s.2.1.getD i za) && zoy r s i (s.2.1.getD i za)) && zW (fun c=>zky r s c i) 0 (4 - 0)) 0 (s.2.1.length - 0) && zW (fun c=>zkz s (c:Int)) 0 (4 - 0))))
theorem zL3 {r:zf} {s:zb} (ok:zhk r) (sz:zeH r s):zwg s:=by
  have h1:=sz.shelves
  have h2:=ok.labels
  have h3:=ok.accounts
  have h4:=sz.orders
  have h5:=zL2 (n:=8) (l:=s.2.1) fun x hx=>by
    have:=sz.shelf x hx
    omega
  refine ⟨by omega,by omega,fun x hx=>?_,by omega⟩
  have:=sz.shelf x hx
  omega
theorem zE4 {r:zf} {s:zb} (ok:zhk r) (hs:qn s) (sz:zeH r s):zfB ((r,s,()),()) = some (zW (fun c=>zW (fun i=>zky r s c i) 0 (s.2.1.length - 0) && zkz s (c:Int)) 0 (4 - 0),()):=by
  rw [zC]
  have hmm:1000000 ≤ Go.maxLen:=by unfold Go.maxLen; omega
  have sh:=zL3 ok sz
  have hsh:s.2.1.length ≤ 8:=by rw [sz.shelves]; exact ok.labels.2
  have h2:=sz.shelves
  have h3:=ok.quotas
  have inner:∀ k0 (c:Nat),c < 4→zc7 K0 k0 ((c:Int),(c:Int),s.2.1,(s.2.1.length:Int),0,(r,s,())) = bif zW (fun i=>zky r s c i) 0 (s.2.1.length - 0) then bif zkz s (c:Int) then k0 (wI ((c:Int) + 1),(r,s,())) else some (false,()) else some (false,()):=fun k0 c hc =>
    z7 (B:=fun k1=>zc6 k0 k1) (i0:=0) (n:=s.2.1.length) (by omega) (Nat.zero_le _) (fun i=>((c:Int),(c:Int),s.2.1,(s.2.1.length:Int),i,(r,s,()))) (fun k i _ hi=>by
      simp only [zc6]
      rw [ltT hi,zj hi,zG,Int.toNat_natCast]
      simp only [cond_true]
      refine Eq.trans (zj (n:=4) hc) ?_
      rw [zj (by omega),zG]
      unfold zky
      grind) (fun k=>by
      simp only [zc6]
      rw [ltF,zHu hs sh,zHy hs sh]
      simp only [Option.bind_some,cond_false,zkz]
      generalize zgg s (c:Int) = h
      generalize zkx s (c:Int) = m
      grind)
  exact z7 (B:=fun k0=>zc8 (zc7 K0 k0) k0) (i0:=0) (n:=4) (by omega) (Nat.zero_le _) (fun c=>(c,(r,s,()))) (fun k c _ hc=>by
    simp only [zc8]
    rw [decide_eq_true (by omega),cond_true]
    refine (inner k c hc).trans ?_
    cases zW (fun i=>zky r s c i) 0 (s.2.1.length - 0) <;> rfl) (fun k=>rfl)
theorem zE5 {r:zf} {s:zb} (hr:qi r) (hs:qn s):ziw (r,s,()) = some (jb r s,()):=by
  rw [zC]
  have hmm:1000000 ≤ Go.maxLen:=by unfold Go.maxLen; omega
  simp only [ziw,ziv,ztN r hr,Option.bind_some]
  unfold jb
  cases hb:ja r with
  | false=>rfl
  | true =>
    rw [zEW hb s,Option.bind_some]
    cases hz:zgF r s with
    | false=>rfl
    | true =>
      have ok:=vG hb
      have sz:=zjd hb hz
      have sh:=zL3 ok sz
      have hsh:s.2.1.length ≤ 8:=by rw [sz.shelves]; exact ok.labels.2
      have h2:=sz.shelves
      have h3:=ok.quotas
      rw [zCH hr hb hs sz,Option.bind_some]
      cases hp:zhn r s with
      | false=>rfl
      | true =>
        have l2:zdb K0 (0,s) = bif zW (fun c=>zkz s (c:Int)) 0 (4 - 0) then some (true,()) else some (false,()) :=
          z7 (i0:=0) (n:=4) (by omega) (Nat.zero_le _) (fun c=>(c,s)) (fun k c _ hc=>by
            simp only [zki]
            rw [decide_eq_true (by omega),zHv hs sh,zHz hs sh]
            simp only [Option.bind_some,cond_true,zkz]
            generalize zgg s (c:Int) = h
            generalize zkx s (c:Int) = m
            grind) (fun k=>rfl)
        have l1:∀ k0 (i:Nat),i < s.2.1.length→zgd K0 k0 ((i:Int),0,r,s) = bif zW (fun c=>zky r s c i) 0 (4 - 0) then k0 (wI ((i:Int) + 1),r,s) else some (false,()):=fun k0 i hi =>
          z7 (B:=fun k1=>zgc k0 k1) (i0:=0) (n:=4) (by omega) (Nat.zero_le _) (fun c=>((i:Int),c,r,s)) (fun k c _ hc=>by
            simp only [zgc]
            rw [decide_eq_true (by omega),zj hi,zj (by omega),zG,zG,Int.toNat_natCast]
            simp only [cond_true]
            refine Eq.trans (zj (n:=4) hc) ?_
            unfold zky
            grind) (fun k=>rfl)
        have l0:zkj K0 (0,r,s) = bif zW (fun i=>(jG (s.2.1.getD i za) && zoy r s i (s.2.1.getD i za)) && zW (fun c=>zky r s c i) 0 (4 - 0)) 0 (s.2.1.length - 0) then zdb K0 (0,s) else some (false,()) :=
          z7 (i0:=0) (n:=s.2.1.length) (by omega) (Nat.zero_le _) (fun i=>(i,r,s)) (fun k i _ hi=>by
            simp only [zdc]
            rw [ltT hi,zE0 hr ok hs sz hi]
            have:=l1 k i hi
            rw [this]
            simp only [Option.bind_some,cond_true]
            generalize (jG (s.2.1.getD i za) && zoy r s i (s.2.1.getD i za)) = u
            cases u <;> rfl) (fun k=>by simp only [zdc]; rw [ltF]; rfl)
        simp only [cond_true,Bool.true_and]
        rw [l0,l2]
        grind
def zHA (r:zf) (s:zb):Bool:=ja r && (zgF r s && (s.2.1.all jG && (zhn r s && (zW (fun i=>zrO r s (i:Int) (s.2.1.getD i za)) 0 (s.2.1.length - 0) && (zW (fun i=>zfP r (i:Int) (s.2.1.getD i za)) 0 s.2.1.length && (zW (fun i=>zox (s.2.1.getD i za)) 0 (s.2.1.length - 0) && zW (fun c=>zW (fun i=>zky r s c i) 0 (s.2.1.length - 0) && zkz s (c:Int)) 0 (4 - 0)))))))
theorem zL4 (r:zf) (s:zb):zHA r s = jb r s:=by
  rw [Bool.eq_iff_iff]
  unfold zHA jb zoy
  simp only [Bool.and_eq_true,qP,@zyM zn za]
  constructor
  · rintro ⟨h1,h2,h3,h4,h5,h6,h7,h8⟩
    exact ⟨h1,h2,h4,fun i hi1 hi=>⟨⟨h3 i (by omega),h5 i hi1 hi,h6 i hi1 (by omega),h7 i hi1 hi⟩,fun c hc1 hc=>(h8 c hc1 hc).1 i hi1 hi⟩,fun c hc1 hc=>(h8 c hc1 hc).2⟩
  · rintro ⟨h1,h2,h4,h5,h6⟩
    exact ⟨h1,h2,fun i hi=>(h5 i (by omega) (by omega)).1.1,h4,fun i h7 h8=>(h5 i h7 h8).1.2.1,fun i h7 h8=>(h5 i h7 (by omega)).1.2.2.1,fun i h7 h8=>(h5 i h7 h8).1.2.2.2,fun c h7 h8=>⟨fun i h9 h10=>(h5 i h9 h10).2 c h7 h8,h6 c h7 h8⟩⟩
theorem zE6 {r:zf} {s:zb} (hr:qi r) (hs:qn s):ziB (r,s,()) = some (jb r s,()):=by
  rw [← zL4,zC]
  obtain ⟨m,hm⟩:=zwc
  have first:ziB (r,s,()) = zg zgf K0 (true,7,0,[some fun z=>zbR ((r,s,()),()),some fun z=>zbS ((r,s,()),()),some fun z=>za0 ((r,s,()),()),some fun z=>zfx ((r,s,()),()),some fun z=>zaY ((r,s,()),()),some fun z=>zfw ((r,s,()),()),some fun z=>zfB ((r,s,()),())]):=rfl
  have hu:∀ (f1 f2 f3 f4 f5 f6 f7:Option (Bool × Unit)),zg zgf (m + 8) (true,7,0,[some fun z=>f1,some fun z=>f2,some fun z=>f3,some fun z=>f4,some fun z=>f5,some fun z=>f6,some fun z=>f7]) =
    Option.bind f1 fun q=>bif q.1 then Option.bind f2 fun q=>bif q.1 then Option.bind f3 fun q=>bif q.1 then Option.bind f4 fun q=>bif q.1 then Option.bind f5 fun q=>bif q.1 then Option.bind f6 fun q=>bif q.1 then Option.bind f7 fun q=>bif q.1 then some (true,()) else some (false,()) else some (false,()) else some (false,()) else some (false,()) else some (false,()) else some (false,()) else some (false,()):=fun f1 f2 f3 f4 f5 f6 f7=>by kernel_rfl
  rw [first,hm,hu,zEV hr s,Option.bind_some]
  unfold zHA
  cases hb:ja r with
  | false=>rfl
  | true =>
    cases hz:zgF r s with
    | false=>rfl
    | true =>
      have ok:=vG hb
      have sz:=zjd hb hz
      rw [zEX ok sz,zCG hr hb hs sz,zEY hr ok sz,zCI hr ok sz,zEZ ok sz,zE4 ok hs sz]
      simp only [Option.bind_some,Bool.true_and,cond_true]
      generalize s.2.1.all jG = c1
      generalize zhn r s = c2
      generalize zW (fun i=>zrO r s (i:Int) (s.2.1.getD i za)) 0 (s.2.1.length - 0) = c3
      generalize zW (fun i=>zfP r (i:Int) (s.2.1.getD i za)) 0 s.2.1.length = c4
      generalize zW (fun i=>zox (s.2.1.getD i za)) 0 (s.2.1.length - 0) = c5
      generalize zW (fun c=>zW (fun i=>zky r s c i) 0 (s.2.1.length - 0) && zkz s (c:Int)) 0 (4 - 0) = c6
      cases c1 <;> cases c2 <;> cases c3 <;> cases c4 <;> cases c5 <;> cases c6 <;> rfl
def yV (r:zf) (x:pMe):Bool:=decide (0 ≤ x.1 ∧ x.1 < (r.2.1.length:Int)) && ((x.2.1:Int) == r.2.1.getD x.1.toNat 0 && qw r x.2.2.1)
theorem zoD {r:zf} {s:zb} (hr:qi r) (hs:qn s) (x:pMe):zeG (r,s,x,()) = some (jb r s && yV r x,()):=by
  rw [zC]
  simp only [zeG,zE6 hr hs,Option.bind_some,yV,ix,qw]
  cases jb r s with
  | false=>rfl
  | true =>
    by_cases h:0 ≤ x.1 ∧ x.1 < (r.2.1.length:Int)
    · rw [ixR h]; grind
    · grind
theorem zHB (r:zf) (x:pMe):zjZ (r,x,()) = some (yV r x,()):=by
  rw [zC]
  simp only [zjZ,yV,ix,zdE,Option.bind_some]
  by_cases h:0 ≤ x.1 ∧ x.1 < (r.2.1.length:Int)
  · rw [ixR h]; grind
  · grind
end Go.Proofs.YtgomalidoilgbaaGreatDoor
end
section
namespace Go.Proofs.YtgomalidoilgbaaGreatDoor
open Go.Ev
theorem zBd {r:zf} (hr:qi r) (i:Int):zde (r,i,()) = some (ja r && jf r i,()):=by
  rw [zC]
  simp only [zde,zmD r hr,Option.bind_some]
  cases hb:ja r with
  | false=>rfl
  | true =>
    have hl:=(vG hb).labels
    have hw:wI ((r.1.length:Int) - 1) = (r.1.length:Int) - 1:=by
      have:=zi2 (i:=r.1.length) (by omega) (by unfold Go.maxLen; omega)
      rw [this]; omega
    rw [hw,zfk]
    simp only [Option.bind_some,cond_true,Bool.true_and,zU,jf]
    grind
theorem zJg {r:zf} (hr:qi r) (hb:ja r = true) (a b:Int):zlF (r,a,b,()) = some (zmF r a b,()):=by
  rw [zC]
  simp only [zlF,zBd hr,hb,Bool.true_and,Option.bind_some,zmF,ix]
  cases ha:jf r a with
  | false=>rfl
  | true =>
    cases hbb:jf r b with
    | false=>rfl
    | true =>
      have h1:=zrN hr a ha
      have h2:=zrN hr b hbb
      simp only [jf,decide_eq_true_eq] at ha hbb
      rw [ixR ha,ixR hbb,zxt h1 h2]
      simp only [Option.bind_some]
      generalize zCD (r.1.getD a.toNat jg) (r.1.getD b.toNat jg) = u
      cases u <;> rfl
def eqW {α:Type} (p:α→α→Bool) (a b:List α):Bool:=decide (a.length = b.length) && (List.zip a b).all fun q=>p q.1 q.2
theorem zar {α σ:Type} {B:(σ→Option (Bool × Unit))→σ→Option (Bool × Unit)} {a b:List α} (d:α) (p:α→α→Bool) (st:Int→σ) (hl:a.length ≤ Go.maxLen) (hab:a.length = b.length)
    (hin:∀ k (i:Nat),i < a.length→B k (st i) = bif p (a.getD i d) (b.getD i d) then k (st (wI (i + 1))) else some (false,())) {fin:Bool} (hout:∀ k,B k (st a.length) = some (fin,())) :
    zg B K0 (st 0) = some (eqW p a b && fin,()):=by
  have hz:(List.zip a b).length = a.length:=by rw [List.length_zip]; omega
  have hx:∀ i,i < a.length→(List.zip a b).getD i (d,d) = (a.getD i d,b.getD i d):=fun i hi=>zxR a b i hi (by omega)
  have:=jB (B:=B) (l:=List.zip a b) (d,d) (p:=fun q=>p q.1 q.2) (fin:=some (fin,())) (bad:=some (false,())) st (by rw [hz]; exact hl) (fun k i x hi hx' _=>?_) (fun k=>?_)
  · rw [this]
    unfold eqW
    rw [decide_eq_true hab]
    cases (List.zip a b).all fun q=>p q.1 q.2 <;> rfl
  · rw [hz] at hi
    rw [hx i hi] at hx'
    subst hx'
    exact hin k i hi
  · rw [hz]; exact hout k
theorem zrP {α ρ:Type} (a b:List α) (p:α→α→Bool) (x:Option ρ) (y:Option ρ):(bif ((List.length a:Int) != (List.length b:Int)) then y else x) = bif decide (a.length = b.length) then x else y:=by
  rw [zia]; cases decide (a.length = b.length) <;> rfl
theorem zrQ {α:Type} {p:α→α→Bool} {a b:List α} (h:¬ a.length = b.length):eqW p a b = false:=by unfold eqW; rw [decide_eq_false h]; rfl
theorem zeO {α:Type} {p:α→α→Bool} {a b:List α} {x:Option (Bool × Unit)} (h:a.length = b.length→x = some (eqW p a b,())):(bif ((List.length a:Int) != (List.length b:Int)) then some (false,()) else x) = some (eqW p a b,()):=by
  rw [zrP a b p]
  by_cases hl:a.length = b.length
  · rw [decide_eq_true hl,h hl]; rfl
  · rw [decide_eq_false hl,zrQ hl]; rfl
theorem zqD {p:Bool} {ρ:Type} (x y:ρ):(bif !p then y else x) = bif p then x else y:=by cases p <;> rfl
theorem zNW {ρ:Type} (u v:Int) (x y:ρ):(bif u != v then y else x) = bif u == v then x else y:=by
  show (bif !(u == v) then y else x) = _
  exact zqD _ _
theorem zHC {a b:List zt} (hl:a.length ≤ Go.maxLen):znO (a,b,()) = some (eqL zp a b,()):=zeO (p:=eqI zp) fun h=>by
  have:=zar (B:=zd9) zI (eqI zp) (fun i=>(a,b,i)) hl h (fun k i hi=>by
    simp only [zd9]
    rw [ltT hi,zj hi,zj (by omega),zG,zG,zqD]; rfl) (fin:=true) (fun k=>by simp only [zd9]; rw [ltF]; rfl)
  rw [Bool.and_true] at this; exact this
theorem zHD {a b:List zH} (hl:a.length ≤ Go.maxLen):znQ (a,b,()) = some (eqL zu a b,()):=zeO (p:=eqI zu) fun h=>by
  have:=zar (B:=zeb) vN (eqI zu) (fun i=>(a,b,i)) hl h (fun k i hi=>by
    simp only [zeb]
    rw [ltT hi,zj hi,zj (by omega),zG,zG,zqD]; rfl) (fin:=true) (fun k=>by simp only [zeb]; rw [ltF]; rfl)
  rw [Bool.and_true] at this; exact this
theorem zJh {a b:List qT} (hl:a.length ≤ Go.maxLen):zhy (a,b,()) = some (eqL qa a b,()):=zeO (p:=eqI qa) fun h=>by
  have:=zar (B:=yu) zgT (eqI qa) (fun i=>(a,b,i)) hl h (fun k i hi=>by
    simp only [yu]
    rw [ltT hi,zj hi,zj (by omega),zG,zG,zqD]; rfl) (fin:=true) (fun k=>by simp only [yu]; rw [ltF]; rfl)
  rw [Bool.and_true] at this; exact this
theorem zJi {a b:List qb} (hl:a.length ≤ Go.maxLen):zhA (a,b,()) = some (eqL zO a b,()):=zeO (p:=eqI zO) fun h=>by
  have:=zar (B:=yx) qj (eqI zO) (fun i=>(a,b,i)) hl h (fun k i hi=>by
    simp only [yx]
    rw [ltT hi,zj hi,zj (by omega),zG,zG,zqD]; rfl) (fin:=true) (fun k=>by simp only [yx]; rw [ltF]; rfl)
  rw [Bool.and_true] at this; exact this
theorem zHE {a b:List qc} (hl:a.length ≤ Go.maxLen):znS (a,b,()) = some (eqL zw a b,()):=zeO (p:=eqI zw) fun h=>by
  have:=zar (B:=zed) zB (eqI zw) (fun i=>(a,b,i)) hl h (fun k i hi=>by
    simp only [zed]
    rw [ltT hi,zj hi,zj (by omega),zG,zG,zqD]; rfl) (fin:=true) (fun k=>by simp only [zed]; rw [ltF]; rfl)
  rw [Bool.and_true] at this; exact this
theorem zHF {a b:List qq} (hl:a.length ≤ Go.maxLen):znU (a,b,()) = some (eqL zV a b,()):=zeO (p:=eqI zV) fun h=>by
  have:=zar (B:=zef) zaC (eqI zV) (fun i=>(a,b,i)) hl h (fun k i hi=>by
    simp only [zef]
    rw [ltT hi,zj hi,zj (by omega),zG,zG,zqD]; rfl) (fin:=true) (fun k=>by simp only [zef]; rw [ltF]; rfl)
  rw [Bool.and_true] at this; exact this
theorem zHG {a b:List zv} (hl:a.length ≤ Go.maxLen):znW (a,b,()) = some (eqL zx a b,()):=zeO (p:=eqI zx) fun h=>by
  have:=zar (B:=zeh) zS (eqI zx) (fun i=>(a,b,i)) hl h (fun k i hi=>by
    simp only [zeh]
    rw [ltT hi,zj hi,zj (by omega),zG,zG,zqD]; rfl) (fin:=true) (fun k=>by simp only [zeh]; rw [ltF]; rfl)
  rw [Bool.and_true] at this; exact this
structure zHH (x:zn):Prop where
  rooms:x.1.length ≤ Go.maxLen
  exits:x.2.1.length ≤ Go.maxLen
  items:x.2.2.1.length ≤ Go.maxLen
  mails:x.2.2.2.1.length ≤ Go.maxLen
  trades:x.2.2.2.2.1.length ≤ Go.maxLen
  purses:x.2.2.2.2.2.1.length ≤ Go.maxLen
  places:x.2.2.2.2.2.2.1.length ≤ Go.maxLen
structure zNX (s:zb):Prop where
  shelves:s.2.1.length ≤ Go.maxLen
  ranks:s.2.2.1.length ≤ Go.maxLen
  orders:s.2.2.2.1.length ≤ Go.maxLen
  entries:s.2.2.2.2.1.length ≤ Go.maxLen
  seats:s.2.2.2.2.2.1.length ≤ Go.maxLen
  shelf:∀ x ∈ s.2.1,zHH x
  rank:∀ l ∈ s.2.2.1,l.length ≤ Go.maxLen
def zfQ (a b:zn):Bool:=eqL qa a.1 b.1 && (eqL zO a.2.1 b.2.1 && (eqL zw a.2.2.1 b.2.2.1 && (eqL zV a.2.2.2.1 b.2.2.2.1 && (eqL zx a.2.2.2.2.1 b.2.2.2.2.1 && (eqL (.arr 4 tU) a.2.2.2.2.2.1 b.2.2.2.2.2.1 && (eqL zL a.2.2.2.2.2.2.1 b.2.2.2.2.2.2.1 && (eqI (.arr 4 tU) a.2.2.2.2.2.2.2.1 b.2.2.2.2.2.2.2.1 && eqI (.arr 4 tU) a.2.2.2.2.2.2.2.2.1 b.2.2.2.2.2.2.2.2.1)))))))
theorem zwE {a b:zn} (h:zHH a):zdN (a,b,()) = some (zfQ a b,()):=by
  rw [zC]
  simp only [zdN,zdM]
  rw [zJh h.rooms,zJi h.exits,zHE h.items,zHF h.mails,zHG h.trades]
  simp only [Option.bind_some]
  rw [zrP a.2.2.2.2.2.1 b.2.2.2.2.2.1 (eqI (.arr 4 tU)),zrP a.2.2.2.2.2.2.1 b.2.2.2.2.2.2.1 (eqI zL)]
  have key:a.2.2.2.2.2.1.length = b.2.2.2.2.2.1.length→a.2.2.2.2.2.2.1.length = b.2.2.2.2.2.2.1.length→zfX K0 (0,a,b) = some (eqL (.arr 4 tU) a.2.2.2.2.2.1 b.2.2.2.2.2.1 && eqL zL a.2.2.2.2.2.2.1 b.2.2.2.2.2.2.1,()):=fun h1 h2=>by
    have l1:=zar (B:=yB) zF3 (eqI zL) (fun i=>(i,a,b)) h.places h2 (fun k i hi=>by
      simp only [yB]
      rw [ltT hi,zj hi,zj (by omega),zG,zG,zqD]; rfl) (fin:=true) (fun k=>by simp only [yB]; rw [ltF]; rfl)
    rw [Bool.and_true] at l1
    exact zar (B:=fun k0=>va (zbK K0) k0) (ze (.arr 4 tU)) (eqI (.arr 4 tU)) (fun i=>(i,a,b)) h.purses h1 (fun k i hi=>by
      simp only [va]
      rw [ltT hi,zj hi,zj (by omega),Int.toNat_natCast,zqD]; rfl) (fun k=>by simp only [va]; rw [ltF]; exact l1)
  unfold zfQ
  by_cases h1:a.2.2.2.2.2.1.length = b.2.2.2.2.2.1.length
  · by_cases h2:a.2.2.2.2.2.2.1.length = b.2.2.2.2.2.2.1.length
    · rw [key h1 h2,decide_eq_true h1,decide_eq_true h2]
      generalize eqL qa a.1 b.1 = c1
      generalize eqL zO a.2.1 b.2.1 = c2
      generalize eqL zw a.2.2.1 b.2.2.1 = c3
      generalize eqL zV a.2.2.2.1 b.2.2.2.1 = c4
      generalize eqL zx a.2.2.2.2.1 b.2.2.2.2.1 = c5
      generalize eqL (.arr 4 tU) a.2.2.2.2.2.1 b.2.2.2.2.2.1 = c6
      generalize eqL zL a.2.2.2.2.2.2.1 b.2.2.2.2.2.2.1 = c7
      generalize eqI (.arr 4 tU) a.2.2.2.2.2.2.2.1 b.2.2.2.2.2.2.2.1 = c8
      generalize eqI (.arr 4 tU) a.2.2.2.2.2.2.2.2.1 b.2.2.2.2.2.2.2.2.1 = c9
      grind
    · have e:eqL zL a.2.2.2.2.2.2.1 b.2.2.2.2.2.2.1 = false:=zrQ h2
      rw [decide_eq_false h2,e]
      grind
  · have e:eqL (.arr 4 tU) a.2.2.2.2.2.1 b.2.2.2.2.2.1 = false:=zrQ h1
    rw [decide_eq_false h1,e]
    grind
def zFh (a b:zb):Bool:=(a.1:Int) == b.1 && (eqW zfQ a.2.1 b.2.1 && (eqW (eqL tI) a.2.2.1 b.2.2.1 && (eqL zp a.2.2.2.1 b.2.2.2.1 && (eqL zu a.2.2.2.2.1 b.2.2.2.2.1 && eqL tI a.2.2.2.2.2.1 b.2.2.2.2.2.1))))
theorem zHI {a b:List (List Int)} (hl:a.length ≤ Go.maxLen) (hr:∀ l ∈ a,l.length ≤ Go.maxLen):znM (a,b,()) = some (eqW (eqL tI) a b,()):=zeO (p:=eqL tI) fun h=>by
  have:=zar (B:=fun k0=>zaT (zgY K0 k0) k0) ([]:List Int) (eqL tI) (fun i=>(a,b,i)) hl h (fun k i hi=>by
    simp only [zaT]
    rw [ltT hi,zj hi,zj (by omega),Int.toNat_natCast]
    simp only [cond_true]
    rw [zrP (a.getD i []) (b.getD i []) (eqI tI)]
    by_cases hm:(a.getD i []).length = (b.getD i []).length
    · rw [decide_eq_true hm,cond_true]
      have hz:(List.zip (a.getD i []) (b.getD i [])).length = (a.getD i []).length:=by rw [List.length_zip]; omega
      have:=jB (B:=fun k1=>zd7 k k1) (l:=List.zip (a.getD i []) (b.getD i [])) ((0:Int),(0:Int)) (p:=fun q=>q.1 == q.2) (fin:=k (a,b,wI (i + 1))) (bad:=some (false,())) (fun j=>(a,b,(i:Int),j)) (by rw [hz]; exact hr _ (zX hi)) (fun k1 j x hj hx _=>by
        rw [hz] at hj
        rw [zxR _ _ j hj (by omega)] at hx
        subst hx
        simp only [zd7]
        rw [zj hi,zj hi,Int.toNat_natCast,ltT hj,zj hj,zj (by omega),zj (by omega),Int.toNat_natCast]
        simp only [cond_true]
        exact zNW _ _ _ _) (fun k1=>by
        simp only [zd7]
        rw [hz,zj hi,Int.toNat_natCast,ltF]; rfl)
      refine Eq.trans this ?_
      unfold eqL
      rw [decide_eq_true hm,Bool.true_and]
      rfl
    · have e:eqL tI (a.getD i []) (b.getD i []) = false:=zrQ hm
      rw [decide_eq_false hm,e]; rfl) (fin:=true) (fun k=>by simp only [zaT]; rw [ltF]; rfl)
  rw [Bool.and_true] at this; exact this
theorem zHJ {a b:zb} (h:zNX a):qm (a,b,()) = some (zFh a b,()):=by
  rw [zC]
  simp only [qm,zj5]
  rw [zHI h.ranks h.rank,zHC h.orders,zHD h.entries]
  simp only [Option.bind_some]
  rw [zrP a.2.1 b.2.1 zfQ,zrP a.2.2.2.2.2.1 b.2.2.2.2.2.1 (eqI tI)]
  have key:a.2.1.length = b.2.1.length→a.2.2.2.2.2.1.length = b.2.2.2.2.2.1.length→zk9 K0 (0,a,b) = some (eqW zfQ a.2.1 b.2.1 && eqL tI a.2.2.2.2.2.1 b.2.2.2.2.2.1,()):=fun h1 h2=>by
    have l1:=zar (B:=zex) (0:Int) (eqI tI) (fun i=>(i,a,b)) h.seats h2 (fun k i hi=>by
      simp only [zex]
      rw [ltT hi,zj hi,zj (by omega),zG,zG]
      simp only [cond_true]
      exact zNW _ _ _ _) (fin:=true) (fun k=>by simp only [zex]; rw [ltF]; rfl)
    rw [Bool.and_true] at l1
    exact zar (B:=fun k0=>zaX (zg9 K0) k0) za zfQ (fun i=>(i,a,b)) h.shelves h1 (fun k i hi=>by
      simp only [zaX]
      rw [ltT hi,zj hi,zj (by omega),zG,zG,zwE (h.shelf _ (zX hi))]; rfl) (fun k=>by simp only [zaX]; rw [ltF]; exact l1)
  unfold zFh
  have e0:(a.1 != b.1) = !(a.1 == b.1):=rfl
  rw [e0]
  by_cases h1:a.2.1.length = b.2.1.length
  · by_cases h2:a.2.2.2.2.2.1.length = b.2.2.2.2.2.1.length
    · rw [key h1 h2,decide_eq_true h1,decide_eq_true h2]
      generalize eqW zfQ a.2.1 b.2.1 = c1
      generalize eqW (eqL tI) a.2.2.1 b.2.2.1 = c2
      generalize eqL zp a.2.2.2.1 b.2.2.2.1 = c3
      generalize eqL zu a.2.2.2.2.1 b.2.2.2.2.1 = c4
      generalize eqL tI a.2.2.2.2.2.1 b.2.2.2.2.2.1 = c5
      generalize (a.1 == b.1) = c6
      grind
    · have e:eqL tI a.2.2.2.2.2.1 b.2.2.2.2.2.1 = false:=zrQ h2
      rw [decide_eq_false h2,e]
      grind
  · have e:eqW zfQ a.2.1 b.2.1 = false:=zrQ h1
    rw [decide_eq_false h1,e]
    grind
theorem zaQ {r:zf} {s:zb} (h:jb r s = true):ja r = true ∧ zgF r s = true ∧ zhn r s = true:=by
  simp only [jb,Bool.and_eq_true] at h
  exact ⟨h.1,h.2.1,h.2.2.1⟩
theorem znt:∀ {τ:Ty},τ.eqIn = true→∀ x:τ.I,eqI τ x x = true:=by
  intro τ
  induction τ with
  | unit=>intro _ _; rfl
  | bool=>intro _ x; exact beq_self_eq_true x
  | int k=>intro _ x; exact beq_self_eq_true (α:=Int) x
  | str=>intro _ x; exact beq_self_eq_true _
  | pair a b iha ihb =>
    intro h x
    simp only [Ty.eqIn,Bool.and_eq_true] at h
    simp only [eqI,iha h.1,ihb h.2,cond_true]
  | st a ih=>intro h x; exact ih h x
  | arr n a ih =>
    intro h x
    simp only [eqI,List.all_eq_true]
    intro p hp
    have:p.1 = p.2:=by
      obtain ⟨i,hi,rfl⟩:=List.mem_iff_getElem.1 hp
      rw [List.getElem_zip]
    rw [this]
    exact ih h _
  | _=>intro h; cases h
theorem zyO {α:Type} {p:α→α→Bool} (h:∀ x,p x x = true) (l:List α):eqW p l l = true:=by
  simp only [eqW,decide_true,Bool.true_and,List.all_eq_true]
  intro q hq
  have:q.1 = q.2:=by
    obtain ⟨i,hi,rfl⟩:=List.mem_iff_getElem.1 hq
    rw [List.getElem_zip]
  rw [this]; exact h _
theorem zbz {τ:Ty} (h:τ.eqIn = true) (l:List τ.I):eqL τ l l = true:=zyO (znt h) l
theorem zHK (x:zn):zfQ x x = true:=by
  simp only [zfQ,Bool.and_eq_true]
  exact ⟨zbz (τ:=qa) rfl _,zbz (τ:=zO) rfl _,zbz (τ:=zw) rfl _,zbz (τ:=zV) rfl _,zbz (τ:=zx) rfl _,zbz (τ:=.arr 4 tU) rfl _,zbz (τ:=zL) rfl _,znt (τ:=.arr 4 tU) rfl _,znt (τ:=.arr 4 tU) rfl _⟩
theorem zKU (s:zb):zFh s s = true:=by
  simp only [zFh,Bool.and_eq_true]
  exact ⟨beq_self_eq_true (α:=Int) _,zyO zHK _,zyO (zbz (τ:=tI) rfl) _,zbz (τ:=zp) rfl _,zbz (τ:=zu) rfl _,zbz (τ:=tI) rfl _⟩
theorem zJj {r:zf} {s:zb} (h:jb r s = true) {c:Nat} (hc:c < 4):∃ n,zgg s c = (n,0,()) ∧ zkx s c = (n,0,()) ∧ n ≤ M62:=by
  simp only [jb,Bool.and_eq_true,qP] at h
  have h1:=h.2.2.2.2 c (Nat.zero_le _) (by omega)
  simp only [zkz,Bool.and_eq_true,beq_iff_eq] at h1
  obtain ⟨h2,h3,h4⟩:=h1
  have hck:zZ (c:Int) = true:=by simp only [zZ,decide_eq_true_eq]; omega
  have hle:(zgg s c).2.1 = 0→(zgg s c).1 ≤ M62:=by
    unfold zgg
    rw [hck,cond_true]
    intro h
    by_cases hb:zF (s.2.2.2.1.map (qz c)) + zF (s.2.1.map (qh c)) > M62
    · rw [jw hb] at h; cases h
    · rw [yd (by omega)]; show _ ≤ M62; omega
  have h5:=hle h2
  rcases e1:zgg s c with ⟨a,b,⟨⟩⟩
  rcases e2:zkx s c with ⟨a',b',⟨⟩⟩
  rw [e1] at h2 h4 h5
  rw [e2] at h3 h4
  simp only at h2 h3 h4 h5
  subst h2; subst h3; subst h4
  exact ⟨a,rfl,rfl,h5⟩
end Go.Proofs.YtgomalidoilgbaaGreatDoor
end
section
namespace Go.Proofs.YtgomalidoilgbaaGreatDoor
open Go.Ev
structure zvV (x:zn):Prop where
  rooms:x.1.length ≤ 2000000
  exits:x.2.1.length ≤ 2000000
  items:x.2.2.1.length ≤ 2000000
  mails:x.2.2.2.1.length ≤ 2000000
  trades:x.2.2.2.2.1.length ≤ 2000000
  purses:x.2.2.2.2.2.1.length ≤ 2000000
  places:x.2.2.2.2.2.2.1.length ≤ 2000000
structure yj (s:zb):Prop where
  shelves:s.2.1.length ≤ 2000000
  ranks:s.2.2.1.length ≤ 2000000
  orders:s.2.2.2.1.length ≤ 2000000
  entries:s.2.2.2.2.1.length ≤ 2000000
  seats:s.2.2.2.2.2.1.length ≤ 2000000
  shelf:∀ x ∈ s.2.1,zvV x
  rank:∀ l ∈ s.2.2.1,l.length ≤ 2000000
theorem zHL {α:Type} {l:List α} {i:Nat} {d:α} (h:i < l.length):List.set l i (l.getD i d) = l:=by
  rw [List.getD_eq_getElem?_getD,List.getElem?_eq_getElem h]
  exact List.set_getElem_self h
theorem jV {s:zb} (h:yj s):qB (s,()) = some (s,()):=by
  have hlm:2000000 ≤ lim:=by unfold lim; omega
  have hmm:2000000 ≤ Go.maxLen:=by unfold Go.maxLen; omega
  have h1:=h.shelves
  have h2:=h.ranks
  have h3:=h.orders
  have h4:=h.entries
  have h5:=h.seats
  have l1:zcj K0 ((s.2.1.length:Int),0,s.1,0,s.2.1,0,s.2.2.1,s.2.2.1.length,s.2.2.2.1,s.2.2.2.2.1,s.2.2.2.2.2.1,[],0,[],0,[],[],[]) = some (s,()) :=
    zfH (α:=Unit) (B:=zci) (len:=s.2.1.length) (by omega) (fun i _=>((s.2.1.length:Int),i,s.1,0,s.2.1,i.toNat,s.2.2.1,s.2.2.1.length,s.2.2.2.1,s.2.2.2.2.1,s.2.2.2.2.2.1,[],0,[],0,[],[],[])) (fun _ _=>some (s,())) (fun _ _=>True) (fun k i _ hi _ hk=>by
      have hx:=h.shelf _ (zX (d:=za) hi)
      have e1:=hx.rooms
      have e2:=hx.exits
      have e3:=hx.items
      have e4:=hx.mails
      have e5:=hx.trades
      have e6:=hx.purses
      have e7:=hx.places
      have hk':=hk () trivial
      have hw:wI ((i:Int) + 1) = (i:Int) + 1:=zzz hi (by omega)
      simp only [zci]
      rw [ltT hi,zj hi,zG]
      simp only [Int.toNat_natCast,Nat.le_refl,decide_true,cond_true]
      rw [zG0 (by omega),zG1 (by omega),zG2 (by omega),zG3 (by omega),zmz (by omega),zKz (by omega),zIP (by omega)]
      simp only [Option.bind_some]
      rw [zj hi]
      refine Eq.trans ?_ hk'
      have hs:List.set s.2.1 i (s.2.1.getD i za) = s.2.1:=zHL hi
      have ht:(wI ((i:Int) + 1)).toNat = i + 1:=by rw [hw]; omega
      rw [ht]
      exact congrArg (fun l=>k ((s.2.1.length:Int),wI ((i:Int) + 1),s.1,0,l,i + 1,s.2.2.1,s.2.2.1.length,s.2.2.2.1,s.2.2.2.2.1,s.2.2.2.2.2.1,[],0,[],0,[],[],[])) hs) (fun k _ _=>by
      simp only [zci]
      rw [ltF]
      simp only [Int.toNat_natCast,decide_true,cond_true,cond_false]) () trivial
  have l0:zjL K0 ((s.2.2.1.length:Int),0,s.1,s.2.1,0,s.2.2.1,0,s.2.2.2.1,s.2.2.2.2.1,s.2.2.2.2.2.1,[],0,[],0,[],[],[]) = some (s,()) :=
    zfH (α:=Unit) (B:=fun k0=>zab (zcj K0) k0) (len:=s.2.2.1.length) (by omega) (fun i _=>((s.2.2.1.length:Int),i,s.1,s.2.1,0,s.2.2.1,i.toNat,s.2.2.2.1,s.2.2.2.2.1,s.2.2.2.2.2.1,[],0,[],0,[],[],[])) (fun _ _=>some (s,())) (fun _ _=>True) (fun k i _ hi _ hk=>by
      have hx:=h.rank _ (zX (d:=([]:List Int)) hi)
      have hk':=hk () trivial
      have hw:wI ((i:Int) + 1) = (i:Int) + 1:=zzz hi (by omega)
      simp only [zab]
      rw [ltT hi,zj hi]
      simp only [Int.toNat_natCast,Nat.le_refl,decide_true,cond_true]
      rw [zxq (by omega)]
      simp only [Option.bind_some]
      rw [zj hi]
      refine Eq.trans ?_ hk'
      have hs:List.set s.2.2.1 i (s.2.2.1.getD i []) = s.2.2.1:=zHL hi
      have ht:(wI ((i:Int) + 1)).toNat = i + 1:=by rw [hw]; omega
      rw [ht,hs]) (fun k _ _=>by
      simp only [zab]
      rw [ltF,zEA (by omega)]
      simp only [Int.toNat_natCast,Option.bind_some,cond_false]
      exact l1) () trivial
  simp only [qB,zil]
  rw [ztL (by omega),zEz (by omega),zxq (by omega),zGZ (by omega)]
  simp only [Option.bind_some]
  exact l0
theorem znn:∀ {l:List Int} {i:Nat},(∀ x ∈ l,0 ≤ x)→i < l.length→l.getD i 0 ≤ zF l
  | [],i,_,hi=>by cases hi
  | x :: l,0,h,_=>by
    have:=zoz (l:=l) fun y hy=>h y (by simp [hy])
    show x ≤ x + zF l; omega
  | x :: l,i + 1,h,hi=>by
    have h1:=h x (by simp)
    have h2:=znn (l:=l) (i:=i) (fun y hy=>h y (by simp [hy])) (by simpa using hi)
    show l.getD i 0 ≤ x + zF l; omega
theorem zyP:∀ {l:List Int} {i j:Nat},(∀ x ∈ l,0 ≤ x)→i < l.length→j < l.length→i ≠ j→l.getD i 0 + l.getD j 0 ≤ zF l
  | [],i,_,_,hi,_,_=>by cases hi
  | x :: l,0,0,_,_,_,hij=>absurd rfl hij
  | x :: l,0,j + 1,h,_,hj,_=>by
    have:=znn (l:=l) (i:=j) (fun y hy=>h y (by simp [hy])) (by simpa using hj)
    show x + l.getD j 0 ≤ x + zF l; omega
  | x :: l,i + 1,0,h,hi,_,_=>by
    have:=znn (l:=l) (i:=i) (fun y hy=>h y (by simp [hy])) (by simpa using hi)
    show l.getD i 0 + x ≤ x + zF l; omega
  | x :: l,i + 1,j + 1,h,hi,hj,hij=>by
    have h1:=h x (by simp)
    have:=zyP (l:=l) (i:=i) (j:=j) (fun y hy=>h y (by simp [hy])) (by simpa using hi) (by simpa using hj) (by omega)
    show l.getD i 0 + l.getD j 0 ≤ x + zF l; omega
theorem zbA {α:Type} {f:α→Int} {l:List α} {i:Nat} (d:α) (h:i < l.length):(l.map f).getD i 0 = f (l.getD i d):=by
  rw [List.getD_eq_getElem?_getD,List.getD_eq_getElem?_getD,List.getElem?_map,List.getElem?_eq_getElem h]; rfl
theorem zxx:∀ {a b:List Int} {i:Nat} {n:Int},a.length = b.length→i < a.length→(∀ j,j < a.length→a.getD j 0 ≤ b.getD j 0)→a.getD i 0 + n ≤ b.getD i 0→zF a + n ≤ zF b
  | [],_,i,_,_,hi,_,_=>by cases hi
  | x :: a,[],_,_,hl,_,_,_=>by cases hl
  | x :: a,y :: b,i,n,hl,hi,h,hn=>by
    have hl':a.length = b.length:=by simpa using hl
    have hall:∀ j,j < a.length→a.getD j 0 ≤ b.getD j 0:=fun j hj=>h (j + 1) (by simpa using hj)
    have key:zF a ≤ zF b:=isum_le hl' hall
    cases i with
    | zero =>
      have hn':x + n ≤ y:=hn
      show x + zF a + n ≤ y + zF b; omega
    | succ i =>
      have h0:x ≤ y:=h 0 (by simp)
      have:=zxx (a:=a) (b:=b) (i:=i) (n:=n) hl' (by simpa using hi) hall hn
      show x + zF a + n ≤ y + zF b; omega
where isum_le:∀ {a b:List Int},a.length = b.length→(∀ j,j < a.length→a.getD j 0 ≤ b.getD j 0)→zF a ≤ zF b
  | [],[],_,_=>Int.le_refl _
  | x :: a,y :: b,hl,h=>by
    have:=isum_le (a:=a) (b:=b) (by simpa using hl) fun j hj=>h (j + 1) (by simpa using hj)
    have h0:x ≤ y:=h 0 (by simp)
    show x + zF a ≤ y + zF b; omega
  | [],_ :: _,hl,_=>by cases hl
  | _ :: _,[],hl,_=>by cases hl
def zrR (r:zf):Prop:=∀ q ∈ r.2.2.2.2.1,qv q.2.2.2.2.2.1
theorem zDk:∀ {l:List zaw} {n:Int},n < U64→(∀ q ∈ l,qv q.2.2.2.2.2.1)→zhf n l = true→zF (l.map fun q=>q.2.2.2.2.2.1) ≤ n ∨ l = []
  | [],_,_,_,_=>.inr rfl
  | q :: l,n,hn,hp,h=>by
    left
    simp only [zhf,Bool.and_eq_true,decide_eq_true_eq] at h
    obtain ⟨-,h1,h2⟩:=h
    have hq:=hp q (by simp)
    unfold qv U64 at hq
    unfold U64 at hn
    have hw:wU (n - q.2.2.2.2.2.1) = n - q.2.2.2.2.2.1:=zdQ (by omega)
    rw [hw] at h2
    show q.2.2.2.2.2.1 + zF _ ≤ n
    rcases zDk (l:=l) (n:=n - q.2.2.2.2.2.1) (by unfold U64; omega) (fun y hy=>hp y (by simp [hy])) h2 with h3 | h3
    · omega
    · subst h3; simp only [List.map_nil,zF]; omega
end Go.Proofs.YtgomalidoilgbaaGreatDoor
end
section
namespace Go.Proofs.YtgomalidoilgbaaGreatDoor
open Go.Ev
abbrev zdj (s:zb) (i w:Int):List Int:=List.getD (ix za s.2.1 i).2.2.2.2.2.1 (Int.toNat w) (ze (.arr 4 tU))
abbrev zQ (s:zb) (i w c:Int):Int:=List.getD (zdj s i w) (Int.toNat c) (0:Int)
abbrev jI (s:zb) (i c:Int):Int:=List.getD (ix za s.2.1 i).2.2.2.2.2.2.2.1 (Int.toNat c) (0:Int)
abbrev yW (r:zf) (i:Int):Int:=(ix qg r.2.2.2.2.1 i).2.2.2.2.2.1
structure At (s:zb) (i w:Int):Prop where
  hi:0 ≤ i ∧ i < (s.2.1.length:Int)
  hw:0 ≤ w ∧ w < (((ix za s.2.1 i).2.2.2.2.2.1.length:Nat):Int)
theorem zNq {n a:Int} (h:zkv n = (a,0,())):n = a ∧ n ≤ M62:=by
  by_cases hb:n > M62
  · rw [jw hb] at h; cases h
  · rw [yd (by omega)] at h
    injection h with h1 h2
    exact ⟨h1,by omega⟩
theorem zMN {c:Int} (hc:zZ c = true):∃ k:Nat,c = (k:Int) ∧ k < 4:=by
  have:=vH hc
  exact ⟨c.toNat,by omega,by omega⟩
theorem zyQ {r:zf} {s:zb} (h:jb r s = true) (hs:qn s) {c:Int} (hc:zZ c = true):zF (s.2.2.2.1.map (qz c)) + zF (s.2.1.map (qh c)) ≤ M62 ∧ zF (s.2.2.2.1.map (qz c)) + zF (s.2.1.map (qh c)) ≤ zgJ (fun x=>x.2.2.2.2.2.2.2.1) s c:=by
  obtain ⟨k,rfl,hk⟩:=zMN hc
  obtain ⟨n,h1,h2,h3⟩:=zJj h hk
  unfold zgg at h1
  rw [hc,cond_true] at h1
  obtain ⟨h4,h5⟩:=zNq h1
  refine ⟨h5,?_⟩
  unfold zkx at h2
  rw [hc,cond_true] at h2
  have p2:=zoC (f:=fun x=>x.2.2.2.2.2.2.2.2.1) (fun x hx=>(hs.shelves x hx).spent) (k:Int)
  generalize zgJ (fun x=>x.2.2.2.2.2.2.2.1) s (k:Int) = a at *
  generalize zgJ (fun x=>x.2.2.2.2.2.2.2.2.1) s (k:Int) = b at *
  by_cases c1:a > M62
  · rw [decide_eq_true c1] at h2; cases h2
  · rw [decide_eq_false c1] at h2
    by_cases c2:b > M62
    · rw [decide_eq_true c2] at h2; cases h2
    · rw [decide_eq_false c2] at h2
      simp only [cond_false] at h2
      unfold zgI at h2
      by_cases c3:a < b
      · rw [decide_eq_true c3] at h2; cases h2
      · rw [decide_eq_false c3] at h2
        injection h2 with h6 h7
        omega
theorem zsG {s:zb} (hs:qn s) (c:Int):0 ≤ zF (s.2.2.2.1.map (qz c)):=qY fun y hy=>(zfE (hs.orders y hy) c).1
theorem zdk {s:zb} {i:Int} (hi:0 ≤ i ∧ i < (s.2.1.length:Int)):ix za s.2.1 i ∈ s.2.1:=zX (by omega)
theorem zyR {s:zb} (hs:qn s) {i c:Int} (hi:0 ≤ i ∧ i < (s.2.1.length:Int)):qh c (ix za s.2.1 i) ≤ zF (s.2.1.map (qh c)):=by
  have h1:=znn (l:=s.2.1.map (qh c)) (i:=i.toNat) (fun x hx=>by
    obtain ⟨y,hy,rfl⟩:=List.mem_map.1 hx
    exact zbU (hs.shelves y hy) c) (by rw [List.length_map]; omega)
  rw [zbA za (by omega)] at h1
  exact h1
theorem zsH {x:zn} (hx:znj x) {w c:Int} (hw:0 ≤ w ∧ w < ((x.2.2.2.2.2.1.length:Nat):Int)):(x.2.2.2.2.2.1.getD w.toNat (ze (.arr 4 tU))).getD c.toNat 0 ≤ qh c x:=by
  have h1:=znn (l:=x.2.2.2.2.2.1.map (jH c)) (i:=w.toNat) (fun y hy=>by
    obtain ⟨a,ha,rfl⟩:=List.mem_map.1 hy
    exact (vu (hx.purses a ha) _).1) (by rw [List.length_map]; omega)
  rw [zbA (ze (.arr 4 tU)) (by omega)] at h1
  have:=zkw hx c
  unfold qh
  unfold jH at h1 ⊢
  omega
theorem zBe {s:zb} (hs:qn s) {i w:Int} (a:At s i w) (c:Int):qv (zQ s i w c):=vu ((hs.shelves _ (zdk a.hi)).purses _ (zX (by have:=a.hw; omega))) _
theorem zwh {r:zf} {s:zb} (h:jb r s = true) (hs:qn s) {i w c:Int} (hc:zZ c = true) (a:At s i w):0 ≤ zQ s i w c ∧ zQ s i w c ≤ M62:=by
  have h0:=(zBe hs a c).1
  have h1:=(zyQ h hs hc).1
  have h2:=zsG hs c
  have h3:=zyR hs (c:=c) a.hi
  have h4:=zsH (hs.shelves _ (zdk a.hi)) (c:=c) a.hw
  refine ⟨h0,?_⟩
  show _ ≤ M62
  have h5:zQ s i w c ≤ qh c (ix za s.2.1 i):=h4
  omega
theorem zMO {r:zf} {s:zb} (h:jb r s = true) (hs:qn s) {i w j v c:Int} (hc:zZ c = true) (a:At s i w) (b:At s j v) (hne:¬ (i = j ∧ w = v)):zQ s i w c + zQ s j v c ≤ M62:=by
  have h1:=(zyQ h hs hc).1
  have h2:=zsG hs c
  have h4:zQ s i w c ≤ qh c (ix za s.2.1 i):=zsH (hs.shelves _ (zdk a.hi)) (c:=c) a.hw
  have h5:zQ s j v c ≤ qh c (ix za s.2.1 j):=zsH (hs.shelves _ (zdk b.hi)) (c:=c) b.hw
  have ahi:=a.hi
  have bhi:=b.hi
  by_cases hij:i = j
  · subst hij
    have hwv:w ≠ v:=fun e=>hne ⟨rfl,e⟩
    have h3:=zyR hs (c:=c) a.hi
    have hx:=hs.shelves _ (zdk a.hi)
    have ahw:=a.hw
    have bhw:=b.hw
    have h6:=zyP (l:=(ix za s.2.1 i).2.2.2.2.2.1.map (jH c)) (i:=w.toNat) (j:=v.toNat) (fun y hy=>by
      obtain ⟨q,hq,rfl⟩:=List.mem_map.1 hy
      exact (vu (hx.purses q hq) _).1) (by rw [List.length_map]; omega) (by rw [List.length_map]; omega) (by omega)
    rw [zbA (ze (.arr 4 tU)) (by omega),zbA (ze (.arr 4 tU)) (by omega)] at h6
    have h7:=zkw hx c
    have h8:zQ s i w c + zQ s i v c ≤ qh c (ix za s.2.1 i):=by
      unfold qh
      have h9:zQ s i w c + zQ s i v c ≤ zF ((ix za s.2.1 i).2.2.2.2.2.1.map (jH c)):=h6
      omega
    omega
  · have h6:=zyP (l:=s.2.1.map (qh c)) (i:=i.toNat) (j:=j.toNat) (fun x hx=>by
      obtain ⟨y,hy,rfl⟩:=List.mem_map.1 hx
      exact zbU (hs.shelves y hy) c) (by rw [List.length_map]; omega) (by rw [List.length_map]; omega) (by omega)
    rw [zbA za (by omega),zbA za (by omega)] at h6
    have h7:qh c (ix za s.2.1 i) + qh c (ix za s.2.1 j) ≤ zF (s.2.1.map (qh c)):=h6
    omega
theorem zJI {s:zb} (hs:qn s) {i:Int} (hi:0 ≤ i ∧ i < (s.2.1.length:Int)) (c:Int):qv (jI s i c):=vu (hs.shelves _ (zdk hi)).made _
theorem zHM {r:zf} {s:zb} (h:jb r s = true) {i c:Int} (hc:zZ c = true) (hi:0 ≤ i ∧ i < (s.2.1.length:Int)):jI s i c ≤ yW r i:=by
  simp only [jb,Bool.and_eq_true,qP] at h
  have:=(h.2.2.2.1 i.toNat (Nat.zero_le _) (by omega)).2 c.toNat (Nat.zero_le _) (by have:=vH hc; omega)
  simp only [zky,Bool.not_eq_true',decide_eq_false_iff_not] at this
  exact Int.not_lt.1 this
theorem zpW {r:zf} {s:zb} (h:jb r s = true) (hs:qn s) (hq:zrR r) {i w c n:Int} (hc:zZ c = true) (a:At s i w) (hn:jI s i c + n ≤ yW r i):zQ s i w c + n ≤ M62 ∧ 0 ≤ yW r i ∧ yW r i ≤ M62:=by
  obtain ⟨hb,hz,-⟩:=zaQ h
  have ok:=vG hb
  have sz:=zjd hb hz
  have hl:=ok.quotas
  have hsl:=sz.shelves
  have h1:=(zyQ h hs hc).2
  have h2:=zsG hs c
  have h3:=zyR hs (c:=c) a.hi
  have h4:zQ s i w c ≤ qh c (ix za s.2.1 i):=zsH (hs.shelves _ (zdk a.hi)) (c:=c) a.hw
  have ahi:=a.hi
  have hcaps:zF (r.2.2.2.2.1.map fun q=>q.2.2.2.2.2.1) ≤ M62:=by
    have hb':=hb
    simp only [ja,zfN,Bool.and_eq_true,decide_eq_true_eq] at hb'
    obtain ⟨-,-,-,-,⟨-,h6,-,h7⟩,-⟩:=hb'
    rcases zDk (by unfold U64; omega) hq h7 with h8 | h8
    · exact h8
    · rw [h8] at h6; cases h6
  have hcap:0 ≤ yW r i ∧ yW r i ≤ M62:=by
    have h6:=znn (l:=r.2.2.2.2.1.map fun q=>q.2.2.2.2.2.1) (i:=i.toNat) (fun x hx=>by
      obtain ⟨y,hy,rfl⟩:=List.mem_map.1 hx
      exact (hq y hy).1) (by rw [List.length_map]; omega)
    rw [zbA qg (by omega)] at h6
    have h7:yW r i ≤ zF (r.2.2.2.2.1.map fun q=>q.2.2.2.2.2.1):=h6
    exact ⟨(hq _ (zX (by omega))).1,by omega⟩
  refine ⟨?_,hcap⟩
  have h6:=zxx (a:=s.2.1.map fun x=>jH c x.2.2.2.2.2.2.2.1) (b:=r.2.2.2.2.1.map fun q=>q.2.2.2.2.2.1) (i:=i.toNat) (n:=n) (by rw [List.length_map,List.length_map]; omega) (by rw [List.length_map]; omega) (fun j hj=>by
    rw [List.length_map] at hj
    rw [zbA za hj,zbA qg (by omega)]
    have:=zHM h hc (i:=(j:Int)) (by omega)
    exact this) (by
    rw [zbA za (by omega),zbA qg (by omega)]
    exact hn)
  have h7:zgJ (fun x=>x.2.2.2.2.2.2.2.1) s c + n ≤ zF (r.2.2.2.2.1.map fun q=>q.2.2.2.2.2.1):=h6
  omega
theorem zBf {r:zf} {s:zb} (h:jb r s = true) {i w:Int} (hi:jf r i = true) (hw:qw r w = true):At s i w:=by
  obtain ⟨hb,hz,-⟩:=zaQ h
  have sz:=zjd hb hz
  have hsl:=sz.shelves
  simp only [jf,qw,decide_eq_true_eq] at hi hw
  have h1:0 ≤ i ∧ i < (s.2.1.length:Int):=by omega
  have h2:=(sz.shelf _ (zdk h1)).2.2.2.2.2.1
  exact ⟨h1,by omega⟩
theorem zHN {r:zf} (hb:ja r = true) {x:pMe} (hm:yV r x = true):jf r x.2.1 = true:=by
  simp only [ja,zl1,Bool.and_eq_true,decide_eq_true_eq,List.all_eq_true] at hb
  simp only [yV,Bool.and_eq_true,decide_eq_true_eq,beq_iff_eq] at hm
  have:=hb.2.1.2 _ (zX (d:=(0:Int)) (i:=x.1.toNat) (by omega))
  rw [← hm.2.1] at this
  simp only [jf,decide_eq_true_eq]
  exact this
theorem zlG {r:zf} {s:zb} (h:jb r s = true) {x:pMe} (hm:yV r x = true):At s x.2.1 x.2.2.1:=by
  have hw:qw r x.2.2.1 = true:=by
    simp only [yV,Bool.and_eq_true] at hm; exact hm.2.2
  exact zBf h (zHN (zaQ h).1 hm) hw
end Go.Proofs.YtgomalidoilgbaaGreatDoor
end
section
namespace Go.Proofs.YtgomalidoilgbaaGreatDoor
open Go.Ev
theorem bnd {α β:Type} {x:Option α} {a:α} {f:α→Option β} (h:x = some a):Option.bind x f = f a:=by rw [h]; rfl
theorem cT {α:Type} {b:Bool} {x y:α} (h:b = true):cond b x y = x:=by rw [h]; rfl
theorem cF {α:Type} {b:Bool} {x y:α} (h:b = false):cond b x y = y:=by rw [h]; rfl
theorem geF {n:Nat} {i:Int} {ρ:Type} {x y:ρ} (h:0 ≤ i ∧ i < (n:Int)):cond (decide (n ≤ Int.toNat i)) x y = y:=cF (decide_eq_false (by omega))
abbrev upd (s:zb) (i:Int) (h:zn):zb:=u1 s (List.set s.2.1 (Int.toNat i) h)
abbrev zmH (s:zb) (i w c v:Int):zb:=upd s i (u5 (ix za s.2.1 i) (List.set (ix za s.2.1 i).2.2.2.2.2.1 (Int.toNat w) (List.set (zdj s i w) (Int.toNat c) v)))
theorem zJk {α:Type} {l:List α} {i:Nat} {x d:α} (h:i < l.length):(List.set l i x).getD i d = x:=by
  rw [List.getD_eq_getElem?_getD,List.getElem?_set_self h]; rfl
theorem getD_set_ne {α:Type} {l:List α} {i j:Nat} {x d:α} (h:i ≠ j):(List.set l i x).getD j d = l.getD j d:=by
  rw [List.getD_eq_getElem?_getD,List.getElem?_set_ne h,List.getD_eq_getElem?_getD]
theorem zrS {s:zb} {i:Int} {h:zn} (hi:0 ≤ i ∧ i < (s.2.1.length:Int)):ix za (upd s i h).2.1 i = h:=zJk (by omega)
theorem zvW {s:zb} {i j:Int} {h:zn} (hi:0 ≤ i) (hj:0 ≤ j) (hne:i ≠ j):ix za (upd s i h).2.1 j = ix za s.2.1 j:=getD_set_ne (by omega)
theorem zHO {s:zb} {i j v:Int} {h:zn} (hi:0 ≤ i ∧ i < (s.2.1.length:Int)) (hp:h.2.2.2.2.2.1.length = (ix za s.2.1 i).2.2.2.2.2.1.length) (a:At s j v):At (upd s i h) j v:=by
  refine ⟨by have:=a.hi; show 0 ≤ j ∧ j < (((List.set s.2.1 i.toNat h).length:Nat):Int); rw [List.length_set]; exact this,?_⟩
  by_cases hij:i = j
  · subst hij
    rw [zrS hi,hp]; exact a.hw
  · rw [zvW hi.1 a.hi.1 hij]; exact a.hw
theorem zrT {s:zb} {i w c v j u:Int} (hi:0 ≤ i ∧ i < (s.2.1.length:Int)) (a:At s j u):At (zmH s i w c v) j u:=zHO hi (by show (List.set _ _ _).length = _; rw [List.length_set]) a
theorem zL5 {s:zb} {i w c v j u c':Int} (a:At s i w) (b:At s j u) (hne:¬ (i = j ∧ w = u)):zQ (zmH s i w c v) j u c' = zQ s j u c':=by
  by_cases hij:i = j
  · subst hij
    have hwu:w ≠ u:=fun e=>hne ⟨rfl,e⟩
    have e:zdj (zmH s i w c v) i u = zdj s i u:=by
      show List.getD (ix za (upd s i _).2.1 i).2.2.2.2.2.1 _ _ = _
      rw [zrS a.hi]
      exact getD_set_ne (by have:=a.hw; have:=b.hw; omega)
    show List.getD (zdj (zmH s i w c v) i u) _ _ = _
    rw [e]
  · have e:zdj (zmH s i w c v) j u = zdj s j u:=by
      show List.getD (ix za (upd s i _).2.1 j).2.2.2.2.2.1 _ _ = _
      rw [zvW a.hi.1 b.hi.1 hij]
    show List.getD (zdj (zmH s i w c v) j u) _ _ = _
    rw [e]
theorem zBg {s:zb} {i:Int} {h:zn} (hl:s.2.1.length ≤ lim) (hi:0 ≤ i ∧ i < (s.2.1.length:Int)):za9 (s,i,h,()) = some (upd s i h,()):=by
  simp only [za9]
  refine (cT (decide_eq_true (by simpa using hl))).trans ?_
  exact ixR hi
theorem zMZ {s:zb} {i w c n:Int} (hl:s.2.1.length ≤ lim) (hp:(ix za s.2.1 i).2.2.2.2.2.1.length ≤ lim) (a:At s i w) (hc:zZ c = true) (hv:qv (zQ s i w c + n)):zdy (s,i,w,c,n,()) = some (zmH s i w c (zQ s i w c + n),()):=by
  have hw:wU (zQ s i w c + n) = zQ s i w c + n:=zdQ hv
  have hc4:=vH hc
  simp only [zdy]
  refine (ixR a.hi).trans ?_
  refine (cT (decide_eq_true (by simpa using hp))).trans ?_
  refine (ixR (n:=List.length (ix za s.2.1 i).2.2.2.2.2.1) a.hw).trans ?_
  refine (ixR hc4).trans ?_
  refine (ixR (n:=List.length (ix za s.2.1 i).2.2.2.2.2.1) a.hw).trans ?_
  refine (ixR hc4).trans ?_
  refine (bnd (zBg hl a.hi)).trans ?_
  show some (upd s i (u5 (ix za s.2.1 i) (List.set (ix za s.2.1 i).2.2.2.2.2.1 (Int.toNat w) (List.set (zdj s i w) (Int.toNat c) (wU (zQ s i w c + n))))),()) = _
  rw [hw]
theorem zNY {s:zb} {i w c n:Int} (hl:s.2.1.length ≤ lim) (hp:(ix za s.2.1 i).2.2.2.2.2.1.length ≤ lim) (a:At s i w) (hc:zZ c = true) (hv:qv (zQ s i w c - n)):zj0 (s,i,w,c,n,()) = some (zmH s i w c (zQ s i w c - n),()):=by
  have hw:wU (zQ s i w c - n) = zQ s i w c - n:=zdQ hv
  have hc4:=vH hc
  simp only [zj0]
  refine (ixR a.hi).trans ?_
  refine (cT (decide_eq_true (by simpa using hp))).trans ?_
  refine (ixR (n:=List.length (ix za s.2.1 i).2.2.2.2.2.1) a.hw).trans ?_
  refine (ixR hc4).trans ?_
  refine (ixR (n:=List.length (ix za s.2.1 i).2.2.2.2.2.1) a.hw).trans ?_
  refine (ixR hc4).trans ?_
  refine (bnd (zBg hl a.hi)).trans ?_
  show some (upd s i (u5 (ix za s.2.1 i) (List.set (ix za s.2.1 i).2.2.2.2.2.1 (Int.toNat w) (List.set (zdj s i w) (Int.toNat c) (wU (zQ s i w c - n))))),()) = _
  rw [hw]
theorem zMP {a b:Int} (ha:qv a) (hb:qv b):za8 (a,b,()) = some (zgI a b):=by
  simp only [za8,extA,extB,zgI,cond_false]
  unfold qv U64 at *
  have h2:b ≤ a→(a - b) % 18446744073709551616 = a - b:=fun h=>by omega
  grind
theorem zHP {row:List Int} {c n:Int} {by':Int × Int × Unit→Option (Int × Int × Unit)} {v:Int × Int × Unit} (hc:zZ c = true) (h:by' (List.getD row c.toNat 0,n,()) = some v):zfs (row,c,n,some by',()) = bif v.2.1 != 0 then some ([0,0,0,0],v.2.1,()) else some (List.set row c.toNat v.1,0,()):=by
  have hc4:=vH hc
  simp only [zfs]
  refine (bnd (ya c)).trans ?_
  refine (cT hc).trans ?_
  refine (ixR hc4).trans ?_
  refine (bnd (a:=by') rfl).trans ?_
  refine (bnd h).trans ?_
  cases v.2.1 != 0 with
  | true=>rfl
  | false=>exact ixR hc4
theorem zNZ {row:List Int} {c n:Int} (hc:zZ c = true) (ha:0 ≤ List.getD row c.toNat 0) (hn:qv n) (h:List.getD row c.toNat 0 + n ≤ M62):zdz (row,c,n,()) = some (List.set row c.toNat (List.getD row c.toNat 0 + n),0,()):=by
  have e:zfJ (List.getD row c.toNat 0,n,()) = some (List.getD row c.toNat 0 + n,0,()):=by
    rw [zxs ha hn]; unfold zm8; rw [decide_eq_false (by omega)]; rfl
  simp only [zdz]
  rw [zHP hc e]; rfl
theorem zN0 {row:List Int} {c n:Int} (hc:zZ c = true) (ha:qv (List.getD row c.toNat 0)) (hn:qv n):zdA (row,c,n,()) = bif decide (List.getD row c.toNat 0 < n) then some ([0,0,0,0],6,()) else some (List.set row c.toNat (List.getD row c.toNat 0 - n),0,()):=by
  simp only [zdA]
  rw [zHP hc (zMP ha hn)]
  unfold zgI
  cases decide (List.getD row c.toNat 0 < n) <;> rfl
def zeI (e:Int):zb × Int × Unit:=((0,[],[],[],[],[],()),e,())
def zgK (r:zf) (s:zb) (me:pMe) (c n:Int):Bool:=(jb r s && yV r me) && (zZ c && decide (n > 0))
abbrev zgh (s:zb) (me:pMe) (c n:Int):zb:=zmH s me.2.1 me.2.2.1 c (zQ s me.2.1 me.2.2.1 c - n)
abbrev ziC (s:zb) (me:pMe) (c n:Int):zb:=upd s me.2.1 (u7 (ix za s.2.1 me.2.1) (List.set (ix za s.2.1 me.2.1).2.2.2.2.2.2.2.1 (Int.toNat c) (jI s me.2.1 c + n)))
def zKV (t:zb) (i w c n:Int):zb × Int × Unit:=(zmH t i w c (zQ t i w c + n),0,())
def zpX (r:zf) (s:zb) (me:pMe) (c n:Int):zb × Int × Unit:=bif (ix qo r.2.2.1 me.2.2.1).2.2.2.1 then bif decide (jI s me.2.1 c + n ≤ yW r me.2.1) then zKV (ziC s me c n) me.2.1 me.2.2.1 c n else zeI 8 else zeI 5
def zpY (s:zb) (me:pMe) (c n:Int):zb × Int × Unit:=bif decide (zQ s me.2.1 me.2.2.1 c < n) then zeI 6 else (upd (zgh s me c n) me.2.1 (u8 (ix za (zgh s me c n).2.1 me.2.1) (List.set (ix za (zgh s me c n).2.1 me.2.1).2.2.2.2.2.2.2.2.1 (Int.toNat c) (wU (List.getD (ix za (zgh s me c n).2.1 me.2.1).2.2.2.2.2.2.2.2.1 (Int.toNat c) (0:Int) + n)))),0,())
def zlm (s:zb) (me:pMe) (i w c n:Int):zb × Int × Unit:=bif decide (zQ s me.2.1 me.2.2.1 c < n) then zeI 6 else zKV (zgh s me c n) i w c n
def zpZ (r:zf) (s:zb) (me:pMe) (i w c n:Int):zb × Int × Unit:=bif (i != me.2.1) && zmF r me.2.1 i then zlm s me i w c n else zeI 5
def zyS (r:zf) (s:zb) (me:pMe) (k i w c n:Int):zb × Int × Unit :=
  bif zgK r s me c n then bif k == 1 then zpX r s me c n else bif k == 2 then zpY s me c n else bif k == 3 then (bif qw r w && w != me.2.2.1 then zlm s me me.2.1 w c n else zeI 1) else (bif qw r w && jf r i then zpZ r s me i w c n else zeI 1) else zeI 1
structure Ctx (r:zf) (s:zb) (me:pMe) (c n:Int):Prop where
  rs:jb r s = true
  im:yV r me = true
  hc:zZ c = true
  pos:0 < n
theorem zrU {r:zf} {s:zb} {me:pMe} {c n:Int} (h:zgK r s me c n = true):Ctx r s me c n:=by
  simp only [zgK,Bool.and_eq_true,decide_eq_true_eq] at h
  exact ⟨h.1.1,h.1.2,h.2.1,h.2.2⟩
end Go.Proofs.YtgomalidoilgbaaGreatDoor
end
section
namespace Go.Proofs.YtgomalidoilgbaaGreatDoor
open Go.Ev
theorem zlH {r:zf} {s:zb} (hr:qi r) (hs:qn s) (me:pMe) (c n:Int):zdC (r,s,me,c,n,()) = some (zgK r s me c n,()):=by
  rw [zC]
  simp only [zdC,zoD hr hs,ya,Option.bind_some,zgK]
  cases jb r s <;> cases yV r me <;> cases zZ c <;> rfl
theorem zNr {r:zf} {s:zb} (hr:qi r) (hs:qn s) (me:pMe):yi (r,s,me,()) = bif jb r s && yV r me then some (zdj s me.2.1 me.2.2.1,0,()) else some ([0,0,0,0],1,()):=by
  simp only [yi,zoD hr hs,Option.bind_some]
  cases h:jb r s && yV r me with
  | false=>rfl
  | true =>
    simp only [Bool.and_eq_true] at h
    have a:=zlG h.1 h.2
    exact (ixR a.hi).trans (ixR a.hw)
theorem zKW {t:zb} {i w c n:Int} {k:List Int × Int × Unit→Option (zb × Int × Unit)} (a:At t i w) (hc:zZ c = true) (h0:qv (zQ t i w c)) (hn:qv n) :
    inR i ((List.length t.2.1):Int) (bif decide (List.length t.2.1 ≤ Int.toNat i) then none else inR w ((List.length (ix za t.2.1 i).2.2.2.2.2.1):Int) (Option.bind (zdA (zdj t i w,c,n,())) fun q=>inR i ((List.length t.2.1):Int) (bif decide (List.length t.2.1 ≤ Int.toNat i) then none else inR w ((List.length (ix za t.2.1 i).2.2.2.2.2.1):Int) (bif q.2.1 != 0 then some ((0,[],[],[],[],[],()),q.2.1,()) else k q)))) = bif decide (zQ t i w c < n) then some (zeI 6) else k (List.set (zdj t i w) c.toNat (zQ t i w c - n),0,()):=by
  refine (ixR a.hi).trans ?_
  refine (geF a.hi).trans ?_
  refine (ixR a.hw).trans ?_
  rw [zN0 hc h0 hn]
  cases h:decide (zQ t i w c < n) with
  | true =>
    refine (ixR a.hi).trans ?_
    refine (geF a.hi).trans ?_
    exact ixR a.hw
  | false =>
    refine (ixR a.hi).trans ?_
    refine (geF a.hi).trans ?_
    exact ixR a.hw
theorem zKX {t:zb} {i w c n:Int} {m:Nat} {k:List Int × Int × Unit→Option (zb × Int × Unit)} (a:At t i w) (hm:i < (m:Int)) (hc:zZ c = true) (h0:0 ≤ zQ t i w c) (hn:qv n) (hle:zQ t i w c + n ≤ M62) :
    inR i ((List.length t.2.1):Int) (bif decide (m ≤ Int.toNat i) then none else inR w ((List.length (ix za t.2.1 i).2.2.2.2.2.1):Int) (Option.bind (zdz (zdj t i w,c,n,())) fun q=>inR i ((List.length t.2.1):Int) (bif decide (m ≤ Int.toNat i) then none else inR w ((List.length (ix za t.2.1 i).2.2.2.2.2.1):Int) (bif q.2.1 != 0 then some ((0,[],[],[],[],[],()),q.2.1,()) else k q)))) = k (List.set (zdj t i w) c.toNat (zQ t i w c + n),0,()):=by
  have hi:0 ≤ i ∧ i < (m:Int):=⟨a.hi.1,hm⟩
  refine (ixR a.hi).trans ?_
  refine (geF hi).trans ?_
  refine (ixR a.hw).trans ?_
  rw [zNZ hc h0 hn hle]
  refine (ixR a.hi).trans ?_
  refine (geF hi).trans ?_
  exact ixR a.hw
theorem zN1 {r:zf} {s:zb} (hr:qi r) (hs:qn s) (hf:yj s) {me:pMe} {c n:Int} (hn:qv n):zbw (r,s,me,c,n,()) = some (bif zgK r s me c n then zpY s me c n else zeI 1):=by
  simp only [zbw]
  refine (bnd (zlH hr hs me c n)).trans ?_
  cases h:zgK r s me c n with
  | false=>rfl
  | true =>
    obtain ⟨rs,im,hc,pos⟩:=zrU h
    have a:=zlG rs im
    have hc4:=vH hc
    refine (bnd (jV hf)).trans ?_
    refine (zKW (t:=s) (k:=fun q=>_) a hc (zBe hs a c) hn).trans ?_
    show _ = some (zpY s me c n)
    unfold zpY
    cases decide (zQ s me.2.1 me.2.2.1 c < n) with
    | true=>rfl
    | false =>
      have b:At (zgh s me c n) me.2.1 me.2.2.1:=zrT a.hi a
      refine (ixR b.hi).trans ?_
      refine (ixR hc4).trans ?_
      refine (ixR b.hi).trans ?_
      refine (ixR hc4).trans ?_
      refine (cT (decide_eq_true (by rw [List.length_set,List.length_set]))).trans ?_
      exact cT (decide_eq_true trivial)
theorem zMQ {r:zf} {s:zb} (hs:qn s) {me:pMe} {i w c n:Int} (x:Ctx r s me c n) (hn:qv n) (b:At s i w) (hne:¬ (me.2.1 = i ∧ me.2.2.1 = w)) (h:¬ zQ s me.2.1 me.2.2.1 c < n):zQ (zgh s me c n) i w c = zQ s i w c ∧ 0 ≤ zQ s i w c ∧ zQ s i w c + n ≤ M62:=by
  have a:=zlG x.rs x.im
  have h1:=zMO x.rs hs x.hc a b hne
  have h2:=zwh x.rs hs x.hc b
  exact ⟨zL5 a b hne,h2.1,by omega⟩
theorem zOg {r:zf} {s:zb} (hr:qi r) (hs:qn s) (hf:yj s) {me:pMe} {w c n:Int} (hn:qv n):zdD (r,s,me,w,c,n,()) = some (bif zgK r s me c n then (bif qw r w && w != me.2.2.1 then zlm s me me.2.1 w c n else zeI 1) else zeI 1):=by
  simp only [zdD]
  refine (bnd (zlH hr hs me c n)).trans ?_
  cases h:zgK r s me c n with
  | false=>rfl
  | true =>
    have x:=zrU h
    obtain ⟨rs,im,hc,pos⟩:=x
    have a:=zlG rs im
    by_cases hw:w = me.2.2.1
    · subst hw
      refine (cT (beq_self_eq_true (α:=Int) me.2.2.1)).trans ?_
      have:(me.2.2.1 != me.2.2.1) = false:=by simp
      show _ = some (bif qw r me.2.2.1 && (me.2.2.1 != me.2.2.1) then _ else _)
      rw [this,Bool.and_false]; rfl
    · have hne:(w != me.2.2.1) = true:=bne_iff_ne.2 hw
      refine (cF (beq_eq_false_iff_ne.2 hw)).trans ?_
      refine (bnd (zoD hr hs _)).trans ?_
      rw [rs,hne,Bool.and_true,Bool.true_and]
      have him:yV r (me.1,me.2.1,w,(ze tMe).2.2.2) = qw r w:=by
        have:=im
        simp only [yV,Bool.and_eq_true] at this ⊢
        rw [this.1,this.2.1,Bool.true_and,Bool.true_and]
      rw [him]
      cases hww:qw r w with
      | false=>rfl
      | true =>
        have b0:At s me.2.1 w:=zBf rs (zHN (zaQ rs).1 im) hww
        refine (bnd (jV hf)).trans ?_
        refine (zKW (t:=s) (k:=fun q=>_) a hc (zBe hs a c) hn).trans ?_
        show _ = some (zlm s me me.2.1 w c n)
        unfold zlm
        cases hlt:decide (zQ s me.2.1 me.2.2.1 c < n) with
        | true=>rfl
        | false =>
          have hge:=of_decide_eq_false hlt
          obtain ⟨e,h0,hle⟩:=zMQ hs ⟨rs,im,hc,pos⟩ hn b0 (fun e=>hw e.2.symm) hge
          have b:At (zgh s me c n) me.2.1 w:=zrT a.hi b0
          refine (zKX (t:=zgh s me c n) (m:=List.length s.2.1) (k:=fun q=>_) b a.hi.2 hc (by rw [e]; exact h0) hn (by rw [e]; exact hle)).trans ?_
          refine (cT (decide_eq_true (by rw [List.length_set,List.length_set]))).trans ?_
          exact cT (decide_eq_true trivial)
theorem zN2 {r:zf} {s:zb} (hr:qi r) (hs:qn s) (hf:yj s) {me:pMe} {i w c n:Int} (hn:qv n):zbx (r,s,me,i,w,c,n,()) = some (bif zgK r s me c n then (bif qw r w && jf r i then zpZ r s me i w c n else zeI 1) else zeI 1):=by
  simp only [zbx]
  refine (bnd (zlH hr hs me c n)).trans ?_
  cases h:zgK r s me c n with
  | false=>rfl
  | true =>
    obtain ⟨rs,im,hc,pos⟩:=zrU h
    have a:=zlG rs im
    simp only [cond_true]
    by_cases hb:qw r w = true ∧ jf r i = true
    · obtain ⟨hww,hii⟩:=hb
      have b0:At s i w:=zBf rs hii hww
      rw [hww,hii]
      simp only [qw,jf,decide_eq_true_eq] at hww hii
      refine (cF (decide_eq_false (by omega))).trans ?_
      refine (cF (decide_eq_false (by omega))).trans ?_
      refine (cF (decide_eq_false (by omega))).trans ?_
      refine (cF (decide_eq_false (by omega))).trans ?_
      show _ = some (zpZ r s me i w c n)
      unfold zpZ
      cases hne:i != me.2.1 with
      | false =>
        simp only [cond_false,Bool.false_and]
        rw [jV hf]; rfl
      | true =>
        simp only [cond_true,Bool.true_and]
        refine (bnd (zJg hr (zaQ rs).1 _ _)).trans ?_
        cases zmF r me.2.1 i with
        | false=>rw [jV hf]; rfl
        | true =>
          refine (bnd (jV hf)).trans ?_
          refine (zKW (t:=s) (k:=fun q=>_) a hc (zBe hs a c) hn).trans ?_
          show _ = some (zlm s me i w c n)
          unfold zlm
          cases hlt:decide (zQ s me.2.1 me.2.2.1 c < n) with
          | true=>rfl
          | false =>
            have hge:=of_decide_eq_false hlt
            have hni:¬ i = me.2.1:=bne_iff_ne.1 hne
            obtain ⟨e,h0,hle⟩:=zMQ hs ⟨rs,im,hc,pos⟩ hn b0 (fun e=>hni e.1.symm) hge
            have b:At (zgh s me c n) i w:=zrT a.hi b0
            refine (zKX (t:=zgh s me c n) (m:=List.length s.2.1) (k:=fun q=>_) b b0.hi.2 hc (by rw [e]; exact h0) hn (by rw [e]; exact hle)).trans ?_
            refine (cT (decide_eq_true (by rw [List.length_set,List.length_set]))).trans ?_
            exact cT (decide_eq_true trivial)
    · have hbf:(qw r w && jf r i) = false:=by
        cases h1:qw r w <;> cases h2:jf r i <;> first | rfl | exact absurd ⟨h1,h2⟩ hb
      rw [hbf]
      simp only [qw,jf,decide_eq_true_eq] at hb
      simp only [cond_false]
      by_cases c1:i < 0
      · exact cT (decide_eq_true c1)
      · refine (cF (decide_eq_false c1)).trans ?_
        by_cases c2:i ≥ (r.1.length:Int)
        · exact cT (decide_eq_true c2)
        · refine (cF (decide_eq_false c2)).trans ?_
          by_cases c3:w < 0
          · exact cT (decide_eq_true c3)
          · refine (cF (decide_eq_false c3)).trans ?_
            by_cases c4:w ≥ (r.2.2.1.length:Int)
            · exact cT (decide_eq_true c4)
            · omega
theorem zN3 {r:zf} {s:zb} (hr:qi r) (hs:qn s) (hf:yj s) (hq:zrR r) {me:pMe} {c n:Int} (hn:qv n):y7 (r,s,me,c,n,()) = some (bif zgK r s me c n then zpX r s me c n else zeI 1):=by
  simp only [y7]
  refine (bnd (zlH hr hs me c n)).trans ?_
  cases h:zgK r s me c n with
  | false=>rfl
  | true =>
    obtain ⟨rs,im,hc,pos⟩:=zrU h
    have a:=zlG rs im
    have hc4:=vH hc
    obtain ⟨hb,hz,-⟩:=zaQ rs
    have ok:=vG hb
    have sz:=zjd hb hz
    have hl:=ok.quotas
    have hsl:=sz.shelves
    have ahi:=a.hi
    have hww:qw r me.2.2.1 = true:=by
      have:=im; simp only [yV,Bool.and_eq_true] at this; exact this.2.2
    simp only [qw,decide_eq_true_eq] at hww
    have hqi:0 ≤ me.2.1 ∧ me.2.1 < (r.2.2.2.2.1.length:Int):=by omega
    simp only [cond_true]
    refine (ixR hqi).trans ?_
    refine (ixR a.hi).trans ?_
    refine (ixR hc4).trans ?_
    refine (ixR hww).trans ?_
    have hm0:=zJI hs a.hi c
    have hcap:=zHM rs hc a.hi
    have hcm:=zpW (n:=0) rs hs hq hc a (by omega)
    have hw1:wU (yW r me.2.1 - jI s me.2.1 c) = yW r me.2.1 - jI s me.2.1 c:=zdQ (by have:=hm0.1; have:=hcm.2.2; unfold M62 at this; omega)
    have hiff:decide (n ≤ wU (yW r me.2.1 - jI s me.2.1 c)) = decide (jI s me.2.1 c + n ≤ yW r me.2.1):=by
      rw [hw1]; exact decide_eq_decide.2 (by omega)
    show (bif (ix qo r.2.2.1 me.2.2.1).2.2.2.1 then (bif decide (n ≤ wU (yW r me.2.1 - jI s me.2.1 c)) then _ else _) else (bif decide (n ≤ wU (yW r me.2.1 - jI s me.2.1 c)) then _ else _)) = some (zpX r s me c n)
    rw [hiff]
    unfold zpX
    cases (ix qo r.2.2.1 me.2.2.1).2.2.2.1 with
    | false =>
      rw [jV hf]
      cases decide (jI s me.2.1 c + n ≤ yW r me.2.1) <;> rfl
    | true =>
      cases hle:decide (jI s me.2.1 c + n ≤ yW r me.2.1) with
      | false=>rw [jV hf]; rfl
      | true =>
        have hle:=of_decide_eq_true hle
        have hgo:=zpW rs hs hq hc a hle
        have hw2:wU (jI s me.2.1 c + n) = jI s me.2.1 c + n:=zdQ (by have:=hm0.1; have:=hgo.2.2; have:=hn.1; unfold M62 at *; omega)
        refine (bnd (jV hf)).trans ?_
        refine (ixR a.hi).trans ?_
        refine (ixR hc4).trans ?_
        refine (ixR a.hi).trans ?_
        refine (ixR hc4).trans ?_
        have b:At (ziC s me c n) me.2.1 me.2.2.1:=zHO a.hi rfl a
        have e:zQ (ziC s me c n) me.2.1 me.2.2.1 c = zQ s me.2.1 me.2.2.1 c:=by
          show List.getD (List.getD (ix za (upd s me.2.1 _).2.1 me.2.1).2.2.2.2.2.1 _ _) _ _ = _
          rw [zrS a.hi]
        have hco:=zwh rs hs hc a
        have key:=zKX (t:=upd s me.2.1 (u7 (ix za s.2.1 me.2.1) (List.set (ix za s.2.1 me.2.1).2.2.2.2.2.2.2.1 (Int.toNat c) (wU (jI s me.2.1 c + n))))) (i:=me.2.1) (w:=me.2.2.1) (c:=c) (n:=n) (m:=List.length s.2.1) (k:=fun q=>some (u1 s (List.set (ziC s me c n).2.1 me.2.1.toNat (u5 (ix za (ziC s me c n).2.1 me.2.1) (List.set (ix za (ziC s me c n).2.1 me.2.1).2.2.2.2.2.1 me.2.2.1.toNat q.1))),0,())) (by rw [hw2]; exact b) a.hi.2 hc (by rw [hw2]; show 0 ≤ zQ (ziC s me c n) me.2.1 me.2.2.1 c; rw [e]; exact hco.1) hn (by rw [hw2]; show zQ (ziC s me c n) me.2.1 me.2.2.1 c + n ≤ M62; rw [e]; exact hgo.1)
        rw [hw2] at key
        show inR me.2.1 _ _ = _
        simp only [hw2]
        refine Eq.trans ?_ key
        have el:∀ (X:zn),List.length s.2.1 = List.length (List.set (List.set s.2.1 (Int.toNat me.2.1) (u7 (ix za s.2.1 me.2.1) (List.set (ix za s.2.1 me.2.1).2.2.2.2.2.2.2.1 (Int.toNat c) (jI s me.2.1 c + n)))) (Int.toNat me.2.1) X):=fun X=>by rw [List.length_set,List.length_set]
        simp only [decide_eq_true (el _),decide_true,cond_true]
end Go.Proofs.YtgomalidoilgbaaGreatDoor
end
section
namespace Go.Proofs.YtgomalidoilgbaaGreatDoor
open Go.Ev
theorem zxy {r:zf} {s:zb} (hr:qi r) (hs:qn s) (me:pMe):zaP (r,s,me,()) = some (jb r s && yV r me,()):=by
  rw [zC]
  simp only [zaP,zE5 hr hs,zHB,Option.bind_some]
  cases jb r s <;> cases yV r me <;> rfl
theorem zNs {r:zf} {s:zb} (hr:qi r) (hs:qn s) (me:pMe) (k i w c:Int) {n:Int} (hn:qv n):zdB (r,s,me,k,i,w,c,n,()) = bif zgK r s me c n then vm (zaq yh) (k,i,w,c,n,false,r,s,me,0,[],[],[],[],[],()) else some (zeI 1):=by
  show zh2 (vm (zaq yh)) (r,s,me,k,i,w,c,n,()) = _
  simp only [zh2]
  rw [zxy hr hs]
  simp only [Option.bind_some]
  have e1:vm (zaq yh) (k,i,w,c,n,true,r,s,me,0,[],[],[],[],[],()) = some (zeI 1):=rfl
  rw [e1]
  generalize vm (zaq yh) (k,i,w,c,n,false,r,s,me,0,[],[],[],[],[],()) = y
  have h0:=hn.1
  unfold zgK zZ
  cases jb r s && yV r me with
  | false=>rfl
  | true =>
    simp only [cond_true,Bool.true_and]
    by_cases c1:c < 0
    · rw [decide_eq_true c1,decide_eq_false (p:=0 ≤ c ∧ c ≤ 3) (by omega)]; rfl
    · rw [decide_eq_false c1]
      by_cases c2:c > 3
      · rw [decide_eq_true c2,decide_eq_false (p:=0 ≤ c ∧ c ≤ 3) (by omega)]; rfl
      · rw [decide_eq_false c2,decide_eq_true (p:=0 ≤ c ∧ c ≤ 3) (by omega)]
        by_cases c3:n = 0
        · subst c3; rfl
        · rw [beq_eq_false_iff_ne.2 c3,decide_eq_true (p:=n > 0) (by omega)]; rfl
theorem zJl {s:zb} {i w c v j:Int} (hi:0 ≤ i ∧ i < (s.2.1.length:Int)) (hj:0 ≤ j):(ix za (zmH s i w c v).2.1 j).2.2.2.2.2.1.length = (ix za s.2.1 j).2.2.2.2.2.1.length:=by
  by_cases hij:i = j
  · subst hij
    rw [zrS hi]; exact List.length_set ..
  · rw [zvW hi.1 hj hij]
theorem zsI {s:zb} (hf:yj s) {i:Int} (hi:0 ≤ i ∧ i < (s.2.1.length:Int)):(ix za s.2.1 i).2.2.2.2.2.1.length ≤ lim:=by
  have:=(hf.shelf _ (zdk hi)).purses
  unfold lim; omega
theorem zh4 {s:zb} (hf:yj s):s.2.1.length ≤ lim:=by have:=hf.shelves; unfold lim; omega
theorem zCK {x:Int} (h0:0 ≤ x) (h1:x ≤ M62):qv x:=⟨h0,by unfold M62 at h1; unfold U64; omega⟩
theorem zN4 {r:zf} {s:zb} (hs:qn s) (hf:yj s) {me:pMe} {i w c n:Int} (x:Ctx r s me c n) (hn:qv n) (b:At s i w) (hne:¬ (me.2.1 = i ∧ me.2.2.1 = w)) (h:¬ zQ s me.2.1 me.2.2.1 c < n) :
    (Option.bind (zdy (zgh s me c n,i,w,c,n,())) fun q=>some (q.1,(0:Int),())) = some (zKV (zgh s me c n) i w c n):=by
  have a:=zlG x.rs x.im
  obtain ⟨e,h0,hle⟩:=zMQ hs x hn b hne h
  have hn0:=x.pos
  rw [zMZ (by show (List.set _ _ _).length ≤ lim; rw [List.length_set]; exact zh4 hf) (by rw [zJl a.hi b.hi.1]; exact zsI hf b.hi) (zrT a.hi b) x.hc (by rw [e]; exact zCK (by omega) hle)]
  rfl
theorem zMR {r:zf} {s:zb} (hs:qn s) (hf:yj s) {me:pMe} {k i w c n:Int} (z:zb) (x:Ctx r s me c n) (hn:qv n) (h3:k = 3→qw r w = true ∧ w ≠ me.2.2.1) (h4:k = 4→qw r w = true ∧ jf r i = true ∧ i ≠ me.2.1) :
    yh (k,i,w,c,n,false,s,me,z,ix za s.2.1 me.2.1) = some (bif k == 3 then zlm s me me.2.1 w c n else bif k == 4 then zlm s me i w c n else zpY s me c n):=by
  have a:=zlG x.rs x.im
  have hc4:=vH x.hc
  have hco:=zwh x.rs hs x.hc a
  simp only [yh,cond_false]
  refine (ixR a.hw).trans ?_
  refine (ixR hc4).trans ?_
  show (bif decide (zQ s me.2.1 me.2.2.1 c < n) then some (zeI 6) else _) = _
  unfold zlm zpY
  cases hlt:decide (zQ s me.2.1 me.2.2.1 c < n) with
  | true=>cases k == 3 <;> cases k == 4 <;> rfl
  | false =>
    have hge:=of_decide_eq_false hlt
    simp only [cond_false]
    refine (bnd (zNY (zh4 hf) (zsI hf a.hi) a x.hc (by have:=x.pos; exact zCK (by omega) (by omega)))).trans ?_
    by_cases k3:k = 3
    · obtain ⟨hw,hne⟩:=h3 k3
      subst k3
      exact zN4 hs hf x hn (zBf x.rs (zHN (zaQ x.rs).1 x.im) hw) (fun e=>hne e.2.symm) hge
    · rw [beq_eq_false_iff_ne.2 k3]
      by_cases k4:k = 4
      · obtain ⟨hw,hi,hne⟩:=h4 k4
        subst k4
        exact zN4 hs hf x hn (zBf x.rs hi hw) (fun e=>hne e.1.symm) hge
      · rw [beq_eq_false_iff_ne.2 k4]
        simp only [cond_false]
        have b:At (zgh s me c n) me.2.1 me.2.2.1:=zrT a.hi a
        refine (ixR b.hi).trans ?_
        refine (ixR hc4).trans ?_
        refine (ixR hc4).trans ?_
        refine (bnd (zBg (by show (List.set _ _ _).length ≤ lim; rw [List.length_set]; exact zh4 hf) b.hi)).trans ?_
        rfl
theorem zOh {r:zf} {s:zb} (hr:qi r) (hs:qn s) (hf:yj s) (hq:zrR r) {me:pMe} {k i w c n:Int} (hk:k = 1 ∨ k = 2 ∨ k = 3 ∨ k = 4) (hn:qv n):zdB (r,s,me,k,i,w,c,n,()) = some (zyS r s me k i w c n):=by
  rw [zNs hr hs me k i w c hn]
  unfold zyS
  cases h:zgK r s me c n with
  | false=>rfl
  | true =>
    have x:=zrU h
    obtain ⟨rs,im,hc,pos⟩:=x
    have a:=zlG rs im
    have hc4:=vH hc
    simp only [cond_true]
    rcases hk with rfl | rfl | rfl | rfl
    ·
      obtain ⟨hb,hz,-⟩:=zaQ rs
      have ok:=vG hb
      have sz:=zjd hb hz
      have hl:=ok.quotas
      have hsl:=sz.shelves
      have ahi:=a.hi
      have hww:qw r me.2.2.1 = true:=by
        have:=im; simp only [yV,Bool.and_eq_true] at this; exact this.2.2
      simp only [qw,decide_eq_true_eq] at hww
      have hqi:0 ≤ me.2.1 ∧ me.2.1 < (r.2.2.2.2.1.length:Int):=by omega
      have hm0:=zJI hs a.hi c
      have hcap:=zHM rs hc a.hi
      have hcm:=(zpW (n:=0) rs hs hq hc a (by omega)).2
      show inR me.2.1 _ _ = some (zpX r s me c n)
      refine (ixR a.hi).trans ?_
      show inR me.2.2.1 _ _ = some (zpX r s me c n)
      refine (ixR hww).trans ?_
      unfold zpX
      cases (ix qo r.2.2.1 me.2.2.1).2.2.2.1 with
      | false=>rfl
      | true =>
        refine (ixR hc4).trans ?_
        refine (bnd (zby hm0 hn)).trans ?_
        unfold zm8
        by_cases hb1:jI s me.2.1 c + n > M62
        · rw [decide_eq_true hb1,decide_eq_false (p:=jI s me.2.1 c + n ≤ yW r me.2.1) (by omega)]; rfl
        · rw [decide_eq_false hb1]
          refine (ixR hqi).trans ?_
          by_cases hb2:jI s me.2.1 c + n ≤ yW r me.2.1
          · rw [decide_eq_true hb2]
            refine (cF (decide_eq_false (by show ¬ (jI s me.2.1 c + n > yW r me.2.1); omega))).trans ?_
            have hgo:=(zpW rs hs hq hc a hb2).1
            have hco:=zwh rs hs hc a
            refine (ixR hc4).trans ?_
            refine (bnd (zBg (zh4 hf) a.hi)).trans ?_
            have b:At (ziC s me c n) me.2.1 me.2.2.1:=zHO a.hi rfl a
            have e:zQ (ziC s me c n) me.2.1 me.2.2.1 c = zQ s me.2.1 me.2.2.1 c:=by
              show List.getD (List.getD (ix za (upd s me.2.1 _).2.1 me.2.1).2.2.2.2.2.1 _ _) _ _ = _
              rw [zrS a.hi]
            refine (bnd (zMZ (s:=ziC s me c n) (by show (List.set _ _ _).length ≤ lim; rw [List.length_set]; exact zh4 hf) (by rw [zrS a.hi]; exact zsI hf a.hi) b hc (by rw [e]; exact zCK (by omega) hgo))).trans ?_
            rfl
          · rw [decide_eq_false hb2]
            exact cT (decide_eq_true (by show jI s me.2.1 c + n > yW r me.2.1; omega))
    ·
      show inR me.2.1 _ _ = some (zpY s me c n)
      refine (ixR a.hi).trans ?_
      exact zMR hs hf (0,[],[],[],[],[],()) ⟨rs,im,hc,pos⟩ hn (fun e=>by omega) (fun e=>by omega)
    ·
      show vm _ _ = some (bif qw r w && w != me.2.2.1 then zlm s me me.2.1 w c n else zeI 1)
      by_cases hb:qw r w = true ∧ w ≠ me.2.2.1
      · have hb':=hb
        simp only [qw,decide_eq_true_eq] at hb'
        rw [hb.1,bne_iff_ne.2 hb.2]
        show (bif decide (w < 0) then _ else _) = _
        refine (cF (decide_eq_false (by omega))).trans ?_
        refine (cF (decide_eq_false (by omega))).trans ?_
        refine (cF (beq_eq_false_iff_ne.2 hb.2)).trans ?_
        show inR me.2.1 _ _ = _
        refine (ixR a.hi).trans ?_
        exact zMR hs hf (0,[],[],[],[],[],()) ⟨rs,im,hc,pos⟩ hn (fun _=>hb) (fun e=>by omega)
      · have hbf:(qw r w && w != me.2.2.1) = false:=by
          cases h1:qw r w <;> cases h2:w != me.2.2.1 <;> first | rfl | exact absurd ⟨h1,bne_iff_ne.1 h2⟩ hb
        rw [hbf]
        simp only [qw,decide_eq_true_eq] at hb
        show (bif decide (w < 0) then _ else _) = _
        by_cases c3:w < 0
        · exact cT (decide_eq_true c3)
        · refine (cF (decide_eq_false c3)).trans ?_
          by_cases c4:w ≥ (r.2.2.1.length:Int)
          · exact cT (decide_eq_true c4)
          · refine (cF (decide_eq_false c4)).trans ?_
            have c5:w = me.2.2.1:=by
              by_cases c5:w = me.2.2.1
              · exact c5
              · exact absurd ⟨by omega,c5⟩ hb
            exact cT (beq_iff_eq.2 c5)
    ·
      show vm _ _ = some (bif qw r w && jf r i then zpZ r s me i w c n else zeI 1)
      by_cases hb:qw r w = true ∧ jf r i = true
      · have hb':=hb
        simp only [qw,jf,decide_eq_true_eq] at hb'
        rw [hb.1,hb.2]
        show (bif decide (w < 0) then _ else _) = _
        refine (cF (decide_eq_false (by omega))).trans ?_
        refine (cF (decide_eq_false (by omega))).trans ?_
        show (bif decide (i < 0) then _ else _) = _
        refine (cF (decide_eq_false (by omega))).trans ?_
        refine (cF (decide_eq_false (by omega))).trans ?_
        show inR me.2.1 _ _ = some (zpZ r s me i w c n)
        refine (ixR a.hi).trans ?_
        unfold zpZ
        by_cases hne:i = me.2.1
        · have e1:(i != me.2.1) = false:=by rw [hne]; simp
          rw [e1]
          show (bif i == me.2.1 then _ else _) = _
          exact cT (by rw [hne]; exact beq_self_eq_true (α:=Int) _)
        · rw [bne_iff_ne.2 hne]
          show (bif i == me.2.1 then _ else _) = _
          refine (cF (beq_eq_false_iff_ne.2 hne)).trans ?_
          refine (bnd (zqB hr _ _)).trans ?_
          cases zmF r me.2.1 i with
          | false=>rfl
          | true=>exact zMR hs hf (0,[],[],[],[],[],()) ⟨rs,im,hc,pos⟩ hn (fun e=>by omega) (fun _=>⟨hb.1,hb.2,hne⟩)
      · have hbf:(qw r w && jf r i) = false:=by
          cases h1:qw r w <;> cases h2:jf r i <;> first | rfl | exact absurd ⟨h1,h2⟩ hb
        rw [hbf]
        simp only [qw,jf,decide_eq_true_eq] at hb
        show (bif decide (w < 0) then _ else _) = _
        by_cases c3:w < 0
        · exact cT (decide_eq_true c3)
        · refine (cF (decide_eq_false c3)).trans ?_
          by_cases c4:w ≥ (r.2.2.1.length:Int)
          · exact cT (decide_eq_true c4)
          · refine (cF (decide_eq_false c4)).trans ?_
            show (bif decide (i < 0) then _ else _) = _
            by_cases c1:i < 0
            · exact cT (decide_eq_true c1)
            · refine (cF (decide_eq_false c1)).trans ?_
              by_cases c2:i ≥ (r.1.length:Int)
              · exact cT (decide_eq_true c2)
              · omega
end Go.Proofs.YtgomalidoilgbaaGreatDoor
end
section
namespace Go.Proofs.YtgomalidoilgbaaGreatDoor
open Go.Ev
def zJJ (x:zn):Bool:=decide (x.1.length ≤ 2000000) && (decide (x.2.1.length ≤ 2000000) && (decide (x.2.2.1.length ≤ 2000000) && (decide (x.2.2.2.1.length ≤ 2000000) && (decide (x.2.2.2.2.1.length ≤ 2000000) && (decide (x.2.2.2.2.2.1.length ≤ 2000000) && decide (x.2.2.2.2.2.2.1.length ≤ 2000000))))))
def zFi (s:zb):Bool:=decide (s.2.1.length ≤ 2000000) && (decide (s.2.2.1.length ≤ 2000000) && (decide (s.2.2.2.1.length ≤ 2000000) && (decide (s.2.2.2.2.1.length ≤ 2000000) && (decide (s.2.2.2.2.2.1.length ≤ 2000000) && (s.2.1.all zJJ && s.2.2.1.all fun l=>decide (l.length ≤ 2000000))))))
theorem zMS {s:zb} (h:zFi s = true):yj s:=by
  simp only [zFi,Bool.and_eq_true,decide_eq_true_eq,List.all_eq_true] at h
  obtain ⟨h1,h2,h3,h4,h5,h6,h7⟩:=h
  refine ⟨h1,h2,h3,h4,h5,fun x hx=>?_,h7⟩
  have:=h6 x hx
  simp only [zJJ,Bool.and_eq_true,decide_eq_true_eq] at this
  obtain ⟨a,b,c,d,e,f,g⟩:=this
  exact ⟨a,b,c,d,e,f,g⟩
noncomputable def zL6 (x:zb × Unit):Option (zb × Unit):=bif zFi x.1 then some x else qB x
theorem zMT:qB = zL6:=by
  funext ⟨s,u⟩
  cases u
  unfold zL6
  cases h:zFi s with
  | true=>exact jV (zMS h)
  | false=>rfl
theorem zL7:jm () = some (true,()):=by
  simp only [jm,y7,zbw,zdD,zbx,zMT]
  kernel_rfl
theorem zJm {x:zn} (h:zvV x):zHH x:=by
  have hm:2000000 ≤ Go.maxLen:=by unfold Go.maxLen; omega
  exact ⟨Nat.le_trans h.rooms hm,Nat.le_trans h.exits hm,Nat.le_trans h.items hm,Nat.le_trans h.mails hm,Nat.le_trans h.trades hm,Nat.le_trans h.purses hm,Nat.le_trans h.places hm⟩
theorem zL8 {s:zb} (h:yj s):zNX s:=by
  have hm:2000000 ≤ Go.maxLen:=by unfold Go.maxLen; omega
  exact ⟨Nat.le_trans h.shelves hm,Nat.le_trans h.ranks hm,Nat.le_trans h.orders hm,Nat.le_trans h.entries hm,Nat.le_trans h.seats hm,fun x hx=>zJm (h.shelf x hx),fun l hl=>Nat.le_trans (h.rank l hl) hm⟩
theorem zyT {s:zb} (h:yj s) {i:Int} {x:zn} (hx:zvV x):yj (upd s i x):=by
  refine ⟨by show (List.set _ _ _).length ≤ _; rw [List.length_set]; exact h.shelves,h.ranks,h.orders,h.entries,h.seats,fun y hy=>?_,h.rank⟩
  rcases List.mem_or_eq_of_mem_set hy with hy | rfl
  · exact h.shelf y hy
  · exact hx
theorem zCL {s:zb} (h:yj s) (i:Int):zvV (ix za s.2.1 i):=by
  by_cases hi:i.toNat < s.2.1.length
  · exact h.shelf _ (zX hi)
  · have e:ix za s.2.1 i = za:=by
      show List.getD _ _ _ = _
      rw [List.getD_eq_getElem?_getD,List.getElem?_eq_none (by omega)]; rfl
    rw [e]
    exact ⟨Nat.zero_le _,Nat.zero_le _,Nat.zero_le _,Nat.zero_le _,Nat.zero_le _,Nat.zero_le _,Nat.zero_le _⟩
theorem zp0 {s:zb} (h:yj s) (i w c v:Int):yj (zmH s i w c v):=by
  have a:=zCL h i
  exact zyT h ⟨a.rooms,a.exits,a.items,a.mails,a.trades,by show (List.set _ _ _).length ≤ _; rw [List.length_set]; exact a.purses,a.places⟩
theorem zgL:yj (0,[],[],[],[],[],()):=⟨Nat.zero_le _,Nat.zero_le _,Nat.zero_le _,Nat.zero_le _,Nat.zero_le _,fun x hx=>(by cases hx),fun x hx=>(by cases hx)⟩
theorem zHQ {s:zb} (h:yj s) (me:pMe) (i w c n:Int):yj (zlm s me i w c n).1:=by
  unfold zlm
  cases decide (zQ s me.2.1 me.2.2.1 c < n) with
  | true=>exact zgL
  | false=>exact zp0 (zp0 h _ _ _ _) _ _ _ _
theorem zMU {r:zf} {s:zb} (h:yj s) (me:pMe) (k i w c n:Int):yj (zyS r s me k i w c n).1:=by
  unfold zyS
  cases zgK r s me c n with
  | false=>exact zgL
  | true =>
    simp only [cond_true]
    cases k == 1 with
    | true =>
      simp only [cond_true]
      unfold zpX
      cases (ix qo r.2.2.1 me.2.2.1).2.2.2.1 with
      | false=>exact zgL
      | true =>
        cases decide (jI s me.2.1 c + n ≤ yW r me.2.1) with
        | false=>exact zgL
        | true =>
          have a:=zCL h me.2.1
          have e:yj (ziC s me c n):=zyT h (i:=me.2.1) (x:=u7 (ix za s.2.1 me.2.1) (List.set (ix za s.2.1 me.2.1).2.2.2.2.2.2.2.1 (Int.toNat c) (jI s me.2.1 c + n))) ⟨a.rooms,a.exits,a.items,a.mails,a.trades,a.purses,a.places⟩
          exact zp0 e _ _ _ _
    | false =>
      simp only [cond_false]
      cases k == 2 with
      | true =>
        simp only [cond_true]
        unfold zpY
        cases decide (zQ s me.2.1 me.2.2.1 c < n) with
        | true=>exact zgL
        | false =>
          have h1:=zp0 h me.2.1 me.2.2.1 c (zQ s me.2.1 me.2.2.1 c - n)
          have a:=zCL h1 me.2.1
          exact zyT h1 ⟨a.rooms,a.exits,a.items,a.mails,a.trades,a.purses,a.places⟩
      | false =>
        simp only [cond_false]
        cases k == 3 with
        | true =>
          simp only [cond_true]
          cases qw r w && w != me.2.2.1 with
          | true=>exact zHQ h _ _ _ _ _
          | false=>exact zgL
        | false =>
          simp only [cond_false]
          cases qw r w && jf r i with
          | false=>exact zgL
          | true =>
            simp only [cond_true]
            unfold zpZ
            cases (i != me.2.1) && zmF r me.2.1 i with
            | true=>exact zHQ h _ _ _ _ _
            | false=>exact zgL
def zeJ (a:Int):Int:=bif decide (a < 1) then 4 else bif decide (a > 3) then 4 else a
theorem zNt (a:Int):zeJ a = 1 ∨ zeJ a = 2 ∨ zeJ a = 3 ∨ zeJ a = 4:=by
  unfold zeJ
  by_cases h1:a < 1
  · rw [decide_eq_true h1]; right; right; right; rfl
  · rw [decide_eq_false h1]
    by_cases h2:a > 3
    · rw [decide_eq_true h2]; right; right; right; rfl
    · rw [decide_eq_false h2]
      show a = 1 ∨ a = 2 ∨ a = 3 ∨ a = 4
      omega
theorem zOr {r:zf} {s:zb} (hr:qi r) (hs:qn s) (hf:yj s) (hq:zrR r) {me:pMe} {x:yc} (hn:qv x.2.2.2.2.1):zfj (r,s,me,x,()) = some (zyS r s me (zeJ x.1) x.2.1 x.2.2.1 x.2.2.2.1 x.2.2.2.2.1):=by
  simp only [zfj]
  rw [zN3 hr hs hf hq hn,zN1 hr hs hf hn,zOg hr hs hf hn,zN2 hr hs hf hn]
  simp only [Option.bind_some]
  unfold zyS zeJ
  by_cases h1:x.1 = 1
  · rw [h1]; rfl
  · by_cases h2:x.1 = 2
    · rw [h2]; rfl
    · by_cases h3:x.1 = 3
      · rw [h3]; rfl
      · rw [beq_eq_false_iff_ne.2 h1,beq_eq_false_iff_ne.2 h2,beq_eq_false_iff_ne.2 h3]
        by_cases h4:x.1 < 1
        · rw [decide_eq_true h4]; rfl
        · rw [decide_eq_false h4,decide_eq_true (p:=x.1 > 3) (by omega)]; rfl
theorem x_MoneyTells {r:zf} {s:zb} (hr:qi r) (hs:qn s) (hf:yj s) (hq:zrR r) {me:pMe} {x:yc} (hn:qv x.2.2.2.2.1):P_law30_MoneyTells (r,s,me,x,()) = some (true,()):=by
  have hk:zeJ x.1 = bif decide (x.1 < 1) then 4 else bif decide (x.1 > 3) then 4 else x.1:=rfl
  have hact:=fun k (h:k = zeJ x.1)=>h ▸ zOh hr hs hf hq (me:=me) (k:=zeJ x.1) (i:=x.2.1) (w:=x.2.2.1) (c:=x.2.2.2.1) (zNt x.1) hn
  have hS:∀ t:zb,yj t→qm (t,t,()) = some (true,()):=fun t ht=>by rw [zHJ (zL8 ht),zKU]
  have hfa:=zMU (r:=r) hf me (zeJ x.1) x.2.1 x.2.2.1 x.2.2.2.1 x.2.2.2.2.1
  simp only [P_law30_MoneyTells]
  refine (bnd (jV hf)).trans ?_
  have road:∀ k,k = zeJ x.1→(Option.bind (zfj (r,s,me,x,())) fun q1=>Option.bind (zdB (r,s,me,k,x.2.1,x.2.2.1,x.2.2.2.1,x.2.2.2.2.1,())) fun q2=>Option.bind (yi (r,s,me,())) fun q3=>Option.bind (zaP (r,s,me,())) fun q4=>bif q4.1 then bif q3.2.1 != 0 then some (false,()) else inR me.2.1 ((List.length s.2.1):Int) (inR me.2.2.1 ((List.length (ix za s.2.1 me.2.1).2.2.2.2.2.1):Int) (bif !eqI (.arr 4 tU) q3.1 (List.getD (ix za s.2.1 me.2.1).2.2.2.2.2.1 (Int.toNat me.2.2.1) (ze (.arr 4 tU))) then some (false,()) else Option.bind (jm ()) fun q5=>bif q5.1 then Option.bind (qm (q1.1,q2.1,())) fun q6=>bif q6.1 then bif q1.2.1 == q2.2.1 then Option.bind (qm (s,s,())) fun q7=>bif q7.1 then some (true,()) else some (false,()) else some (false,()) else some (false,()) else some (false,()))) else bif q3.2.1 != 1 then some (false,()) else bif !eqI (.arr 4 tU) q3.1 (ze (.arr 4 tU)) then some (false,()) else Option.bind (jm ()) fun q8=>bif q8.1 then Option.bind (qm (q1.1,q2.1,())) fun q9=>bif q9.1 then bif q1.2.1 == q2.2.1 then Option.bind (qm (s,s,())) fun q10=>bif q10.1 then some (true,()) else some (false,()) else some (false,()) else some (false,()) else some (false,())) = some (true,()):=by
    intro k hkk
    subst hkk
    refine (bnd (zOr hr hs hf hq hn)).trans ?_
    refine (bnd (hact _ rfl)).trans ?_
    generalize zyS r s me (zeJ x.1) x.2.1 x.2.2.1 x.2.2.2.1 x.2.2.2.2.1 = v at *
    have hbeq:(v.2.1 == v.2.1) = true:=beq_self_eq_true (α:=Int) _
    rw [zNr hr hs me,zxy hr hs me,zL7,hS v.1 hfa,hS s hf]
    cases hm:jb r s && yV r me with
    | false =>
      simp only [cond_false,cond_true,Option.bind_some,hbeq]
      rfl
    | true =>
      have hm':=hm
      simp only [Bool.and_eq_true] at hm'
      have a:=zlG hm'.1 hm'.2
      have he:eqI (.arr 4 tU) (zdj s me.2.1 me.2.2.1) (zdj s me.2.1 me.2.2.1) = true:=znt (τ:=.arr 4 tU) rfl _
      simp only [cond_false,cond_true,Option.bind_some,hbeq]
      refine (cF rfl).trans ?_
      refine (ixR a.hi).trans ?_
      refine (ixR a.hw).trans ?_
      refine (cF (by rw [he]; rfl)).trans ?_
      rfl
  by_cases h1:x.1 < 1
  · refine (cT (decide_eq_true h1)).trans ?_
    exact road 4 (by rw [hk,decide_eq_true h1]; rfl)
  · refine (cF (decide_eq_false h1)).trans ?_
    by_cases h2:x.1 > 3
    · refine (cT (decide_eq_true h2)).trans ?_
      exact road 4 (by rw [hk,decide_eq_false h1,decide_eq_true h2]; rfl)
    · refine (cF (decide_eq_false h2)).trans ?_
      exact road x.1 (by rw [hk,decide_eq_false h1,decide_eq_false h2]; rfl)
end Go.Proofs.YtgomalidoilgbaaGreatDoor
end
section
namespace Go.Proofs.YtgomalidoilgbaaGreatDoor
open Go.Ev
theorem zh5 {x:Int} (h:(Lit.int .u64 x).wf = true):qv x:=by
  unfold Lit.wf at h
  simp only [Bool.and_eq_true,decide_eq_true_eq] at h
  have e1:IntKind.min .u64 = 0:=by decide
  have e2:IntKind.max .u64 = 18446744073709551615:=by decide
  rw [e1,e2] at h
  exact ⟨h.1,Int.lt_of_le_of_lt h.2 (by decide)⟩
theorem zNu {r:zf} (h:InR zo r):qi r:=by
  obtain ⟨hl,h2⟩:=h
  refine ⟨fun a ha=>?_,h2.2.2.1.1,h2.2.2.2.1.1⟩
  have h3:(Lit.int .u64 a.2.1).wf = true:=(hl.2 a ha).2.1
  exact zh5 h3
theorem zHR {a:List Int} (h:InR (.arr 4 tU) a):zsD a:=fun x hx=>zh5 (h.2 x hx)
theorem zJK {x:zjp} (h:InR zb4 x):qv x.2.1:=zh5 (show (Lit.int .u64 x.2.1).wf = true from h.2.1)
theorem zNv {x:zn} (h:InR zl x):znj x:=by
  obtain ⟨-,-,-,-,h5,h6,-,h8,h9,-⟩:=h
  refine ⟨fun t ht=>?_,fun a ha=>zHR (h6.2 a ha),zHR h8,zHR h9⟩
  obtain ⟨-,-,-,g1,g2,-⟩:=h5.2 t ht
  exact ⟨zJK g1,zJK g2⟩
theorem zNw {x:zt} (h:InR zp x):zhl x:=by
  obtain ⟨-,-,-,-,-,-,h7,h8,h9,-⟩:=h
  exact ⟨zh5 h7,zh5 h8,zh5 h9⟩
theorem zNx {x:zH} (h:InR zu x):zni x:=by
  obtain ⟨-,-,-,-,-,-,-,h8,h9,-⟩:=h
  exact ⟨zh5 h8,zh5 h9⟩
theorem zNy {s:zb} (h:InR zh s):qn s:=by
  obtain ⟨-,h2,-,h4,h5,-⟩:=h
  exact ⟨fun x hx=>zNv (h2.2 x hx),fun x hx=>zNw (h4.2 x hx),fun x hx=>zNx (h5.2 x hx)⟩
theorem zN5 {r:zf} (h:InR zo r):zrR r:=by
  obtain ⟨-,-,-,-,h5,-⟩:=h
  intro q hq
  have h3:(Lit.int .u64 q.2.2.2.2.2.1).wf = true:=(h5.2 q hq).2.2.2.2.2.1
  exact zh5 h3
theorem zN6 {x:yc} (h:InR qL x):qv x.2.2.2.2.1:=by
  obtain ⟨-,-,-,-,h5,-⟩:=h
  exact zh5 h5
theorem zL9 {τ:Ty} (h:∀ x:τ.I,1 ≤ bkI τ x):∀ l:List τ.I,l.length ≤ (l.map (bkI τ)).sum
  | []=>Nat.zero_le _
  | x :: l=>by
    have h1:=zL9 h l
    have h2:=h x
    simp only [List.length_cons,List.map_cons,List.sum_cons]; omega
theorem zMa {τ:Ty} {x:τ.I}:∀ {l:List τ.I},x ∈ l→bkI τ x ≤ (l.map (bkI τ)).sum
  | y :: l,h=>by
    simp only [List.map_cons,List.sum_cons]
    rcases List.mem_cons.1 h with rfl | h
    · omega
    · have:=zMa h; omega
theorem zho {τ:Ty} (h:∀ x:τ.I,1 ≤ bkI τ x) (l:List τ.I):l.length ≤ bkI (.sl τ) l:=Nat.le_succ_of_le (zL9 h l)
theorem zM0 {τ:Ty} {x:τ.I} {l:List τ.I} (h:x ∈ l):bkI τ x ≤ bkI (.sl τ) l:=Nat.le_succ_of_le (zMa h)
theorem zOi {a:Ty} (x:a.I):1 ≤ bkI (.st a) x:=Nat.le_add_left 1 (bkI a x)
theorem zkA {τ a:Ty} (e:τ = .st a):∀ x:τ.I,1 ≤ bkI τ x:=by subst e; exact fun x=>zOi (a:=a) x
theorem zMb (k:IntKind) (x:Int):1 ≤ bkI (.int k) x:=Nat.le_refl 1
theorem zN7 {n:Nat} {a:Ty} (x:List a.I):1 ≤ bkI (.arr n a) x:=Nat.le_add_left 1 _
theorem zN8 {a:Ty} (x:List a.I):1 ≤ bkI (.sl a) x:=Nat.le_add_left 1 _
theorem zMc {x:zn} {n:Nat} (h:bkI zl x ≤ n) (hn:n ≤ 2000000):zvV x:=by
  have e:bkI zl x = (bkI (.sl qa) x.1 + (bkI (.sl zO) x.2.1 + (bkI (.sl zw) x.2.2.1 + (bkI (.sl zV) x.2.2.2.1 + (bkI (.sl zx) x.2.2.2.2.1 + (bkI (.sl (.arr 4 tU)) x.2.2.2.2.2.1 + (bkI (.sl zL) x.2.2.2.2.2.2.1 + (bkI (.arr 4 tU) x.2.2.2.2.2.2.2.1 + (bkI (.arr 4 tU) x.2.2.2.2.2.2.2.2.1 + 0))))))))) + 1:=rfl
  have h1:=zho (τ:=qa) (zkA rfl) x.1
  have h2:=zho (τ:=zO) (zkA rfl) x.2.1
  have h3:=zho (τ:=zw) (zkA rfl) x.2.2.1
  have h4:=zho (τ:=zV) (zkA rfl) x.2.2.2.1
  have h5:=zho (τ:=zx) (zkA rfl) x.2.2.2.2.1
  have h6:=zho (τ:=.arr 4 tU) (fun y=>zN7 (n:=4) (a:=tU) y) x.2.2.2.2.2.1
  have h7:=zho (τ:=zL) (zkA rfl) x.2.2.2.2.2.2.1
  exact ⟨by omega,by omega,by omega,by omega,by omega,by omega,by omega⟩
theorem zNz {s:zb} {n:Nat} (h:bkI zh s ≤ n) (hn:n ≤ 2000000):yj s:=by
  have e:bkI zh s = (1 + (bkI (.sl zl) s.2.1 + (bkI (.sl (.sl tI)) s.2.2.1 + (bkI (.sl zp) s.2.2.2.1 + (bkI (.sl zu) s.2.2.2.2.1 + (bkI (.sl tI) s.2.2.2.2.2.1 + 0)))))) + 1:=rfl
  have h1:=zho (τ:=zl) (zkA rfl) s.2.1
  have h2:=zho (τ:=.sl tI) (fun y=>zN8 (a:=tI) y) s.2.2.1
  have h3:=zho (τ:=zp) (zkA rfl) s.2.2.2.1
  have h4:=zho (τ:=zu) (zkA rfl) s.2.2.2.2.1
  have h5:=zho (τ:=tI) (fun y=>zMb .i64 y) s.2.2.2.2.2.1
  refine ⟨by omega,by omega,by omega,by omega,by omega,fun x hx=>?_,fun l hl=>?_⟩
  · have:=zM0 (τ:=zl) hx
    exact zMc (n:=n) (by omega) hn
  · have h6:=zM0 (τ:=.sl tI) hl
    have h7:=zho (τ:=tI) (fun y=>zMb .i64 y) l
    omega
theorem zKY {r:zf} {s:zb} {m:pMe} {x:yc} {n:Nat} (h:bkI A_law30_MoneyTells (r,s,m,x,()) ≤ n) (hn:n ≤ 2000000):yj s:=by
  have e:bkI A_law30_MoneyTells (r,s,m,x,()) = bkI zo r + (bkI zh s + (bkI tMe m + (bkI qL x + 0))):=rfl
  exact zNz (n:=n) (by omega) hn
end Go.Proofs.YtgomalidoilgbaaGreatDoor
end
section
namespace Go.Proofs.YtgomalidoilgbaaGreatDoor.fnMoneyTells
open Go.ChangeShapes Go.WideShapes Go.ChangeAt Go.RowKit Go.Ev
theorem own:ownKnob Tryz.prog.godebug = none:=by kernel_rfl
def zMd:List Int→List Value:=List.map (Value.int .u8)
theorem zOj:∀ f add,Ev.look ext f = some add→ExtOk Tryz.prog f add:=by
  intro f add h
  have h':(Nat.beq 278 f = true ∧ add = false) ∨ (Nat.beq 372 f = true ∧ add = true):=by
    simp only [ext,Ev.look] at h
    cases h1:Nat.beq 278 f with
    | true=>rw [h1] at h; exact .inl ⟨rfl,(Option.some.inj h).symm⟩
    | false =>
      rw [h1] at h
      cases h2:Nat.beq 372 f with
      | true=>rw [h2] at h; exact .inr ⟨rfl,(Option.some.inj h).symm⟩
      | false=>rw [h2] at h; cases h
  rcases h' with ⟨h1,rfl⟩ | ⟨h1,rfl⟩
  · obtain rfl:=Nat.eq_of_beq_eq_true h1
    intro x y w hx hy hy2
    obtain ⟨m,rfl⟩:=Int.eq_ofNat_of_zero_le hx
    obtain ⟨n,rfl⟩:=Int.eq_ofNat_of_zero_le hy
    rw [run_callFunc_extern (P:=Tryz.prog) (f:=278) Tryz.func278 (by kernel_rfl) (by kernel_rfl) (by kernel_rfl) (e:=sub64Entry) (by kernel_rfl)]
    have h0:(sub64Entry #[.int .u64 (m:Int),.int .u64 (n:Int),.int .u64 0]).run Tryz.prog w = .ok (.tuple #[.int .u64 (((m + 18446744073709551616 - n - 0) % 18446744073709551616:Nat):Int),.int .u64 ((if m < n + 0 then 1 else 0:Nat):Int)]) w:=run_sub64 m n 0 (by omega) w
    have e1:extA false (m:Int) (n:Int) = (((m + 18446744073709551616 - n - 0) % 18446744073709551616:Nat):Int):=by
      show ((m:Int) - (n:Int)) % 18446744073709551616 = _
      omega
    have e2:extB false (m:Int) (n:Int) = ((if m < n + 0 then 1 else 0:Nat):Int):=by
      show cond (decide ((m:Int) < (n:Int))) 1 0 = _
      by_cases h:m < n
      · rw [decide_eq_true (by omega),if_pos (by omega)]; rfl
      · rw [decide_eq_false (by omega),if_neg (by omega)]; rfl
    rw [h0,e1,e2]
    rfl
  · obtain rfl:=Nat.eq_of_beq_eq_true h1
    intro x y w hx hy hy2
    rw [run_callFunc_extern (P:=Tryz.prog) (f:=372) Tryz.func372 (by kernel_rfl) (by kernel_rfl) (by kernel_rfl) (e:=add64Entry) (by kernel_rfl),run_add64 x y 0 hx hy (by omega) (by omega),Int.add_zero]
    rfl
theorem env {W:World} (hL:laidMetH Tryz.prog Rows.moneyTellsUptoRow.laid W):EnvOk Tryz.prog (FH.of W) E0:=by
  exact EnvOk.nil (by kernel_rfl) (fun g v hv=>by cases hv) zOj
mutual
theorem zN9 {H:Type}:∀ d:DataW H,dbk d ≤ Rows.uptoBulk d
  | .slice e s=>by have:=zp1 e; simp only [dbk,Rows.uptoBulk]; omega
  | .agg p=>by have:=zp1 p; simp only [dbk,Rows.uptoBulk]; omega
  | .lit l=>by cases l <;> simp [dbk,Rows.uptoBulk]
  | .nil=>by simp [dbk,Rows.uptoBulk]
  | .ptr d=>by simp [dbk,Rows.uptoBulk]
  | .iface t d=>by simp [dbk,Rows.uptoBulk]
  | .map es=>by simp [dbk,Rows.uptoBulk]
  | .held h=>by simp [dbk,Rows.uptoBulk]
theorem zp1 {H:Type}:∀ l:List (DataW H),dbkAll l ≤ Rows.uptoBulkAll l
  | []=>Nat.zero_le _
  | d :: l=>by have h1:=zN9 d; have h2:=zp1 l; simp only [dbkAll,Rows.uptoBulkAll]; omega
end
theorem zMV {H:Type} (l r:List (DataW H)):Rows.uptoBulkAll (l ++ r) = Rows.uptoBulkAll l + Rows.uptoBulkAll r:=by
  induction l with
  | nil=>simp [Rows.uptoBulkAll]
  | cons x l ih=>simp only [List.cons_append,Rows.uptoBulkAll,ih]; omega
theorem small {H:Type} {n:Nat} {ds gs:List (DataW H)} (h:n ≤ dbkAll ds) (hk:Rows.uptoSmall H (ds ++ gs) = true):n ≤ 1048576:=by
  have h1:=zp1 ds
  have h2:=zMV ds gs
  have h3:Rows.uptoBulkAll (ds ++ gs) ≤ 1048576:=of_decide_eq_true hk
  omega
set_option maxRecDepth 100000 in
theorem zMW (H:Type) (enc:TypeId × Value→H) (W:World) (base:Nat) (args:Array Value) (ds gs:List (DataW H)) (before:List MemPlace)
    (hval:∀ (j:Nat) t v,Tryz.f4.params[j]? = some t→args[j]? = some v→Value.okWide Tryz.prog W .any base t v)
    (hW:DataW.Whole enc Tryz.prog Tryz.f4.params.toList Rows.moneyTellsSpec.vars false W args.toList ds gs before) (hL:laidMetH Tryz.prog Rows.moneyTellsUptoRow.laid W) (hk:Rows.uptoSmall H (ds ++ gs) = true) :
    Calls Tryz.prog 4 args W fun e W'=>∃ v,e = .returned v ∧ Rows.moneyTellsSpec.post enc Tryz.prog Tryz.f4 false true false false W args v W':=by
  refine law_contract (a:=A_law30_MoneyTells) (tb:=4) (by kernel_rfl) (by decide +kernel) (by kernel_rfl) (by kernel_rfl) (by kernel_rfl) rfl (fun ds hd=>?_) hval hW fun x hx hbk hr=>?_
  · have:Tryz.f4.params.size = 4:=by kernel_rfl
    rw [this] at hd
    match ds,hd with
    | [d1,d2,d3,d4],_=>rfl
  · have hs:=s_law30_MoneyTells (FH.of W) (env hL)
    have he:P_law30_MoneyTells x = some (true,()):=by
      obtain ⟨r,s,m,d,⟨⟩⟩:=x
      exact x_MoneyTells (zNu hx.1) (zNy hx.2.1) (zKY (small hbk hk) (by omega)) (zN5 hx.1) (zN6 hx.2.2.2.1)
    have hc:=hs.2 x (true,()) he (FH.of W) W args.toList (FH.le.refl _) (FH.of_ok W) hr
    refine hc.mono fun e W' he=>?_
    obtain ⟨us,F',h1,h2,_,_,h3⟩:=he
    refine ⟨?_,h2⟩
    obtain ⟨v,r,hus,hv,hva,hnil⟩:=(show RepA Tryz.prog F' (.pair .bool .unit) (true,()) us from h3)
    have hr0:r = []:=hnil
    subst hr0
    have hv':v.cells.toList = [.bool true]:=hv
    rw [h1,hus]
    have hva':isAggV v = false:=hva
    have:v = .bool true:=by
      cases v <;> first | (simp [isAggV] at hva'; done) | (simp [Value.cells] at hv'; exact congrArg _ hv') | (simp [Value.cells] at hv')
    rw [this]
    rfl
def zOa (l:List Value):Obj→Obj
  | .cells _ t frozen=>.cells l.toArray t frozen
  | o=>o
noncomputable def laidWorld (os:Os):World :=
  { World.holding Tryz.prog os ⟨#[],#[],[]⟩ with heap:=((World.holding Tryz.prog os ⟨#[],#[],[]⟩).heap.modify 2 (zOa (zMd (Pinned.utf8FirstZ.map fun n:Nat=>(n:Int))))).modify 3 (zOa (zMd [128,191,160,191,128,159,144,191,128,143,0,0,0,0,0,0,0,0,0,0,0,0,0,0,0,0,0,0,0,0,0,0])) }
def arg0:Value:=.agg #[.slice none 0 0,.slice none 0 0,.slice none 0 0,.slice none 0 0,.slice none 0 0,.int .i64 0,.int .i64 0,.int .i64 0,.int .i64 0]
def zKZ:Value:=.agg #[.int .u64 0,.slice none 0 0,.slice none 0 0,.slice none 0 0,.slice none 0 0,.slice none 0 0]
def zK0:Value:=.agg #[.int .i64 0,.int .i64 0,.int .i64 0]
def zK1:Value:=.agg #[.int .i64 0,.int .i64 0,.int .i64 0,.int .i64 0,.int .u64 0]
theorem laid_met (os:Os):laidMet Tryz.prog Rows.moneyTellsUptoRow.laid ((laidWorld os).forCall (fun _ _=>0) ⟨#[],#[arg0,zKZ,zK0,zK1],[]⟩).memory :=
  laidMet_of_run' 8 (by kernel_rfl) (by kernel_rfl)
theorem reads (os:Os) {H:Type} (enc:TypeId × Value→H):∃ places,DataW.whole enc Tryz.prog ((laidWorld os).forCall (fun _ _=>0) ⟨#[],#[arg0,zKZ,zK0,zK1],[]⟩).memory Tryz.f4.params.toList Rows.moneyTellsSpec.vars false #[arg0,zKZ,zK0,zK1].toList 8 = some ([.agg [.nil,.nil,.nil,.nil,.nil,.lit (.int .i64 0),.lit (.int .i64 0),.lit (.int .i64 0),.lit (.int .i64 0)],.agg [.lit (.int .u64 0),.nil,.nil,.nil,.nil,.nil],.agg [.lit (.int .i64 0),.lit (.int .i64 0),.lit (.int .i64 0)],.agg [.lit (.int .i64 0),.lit (.int .i64 0),.lit (.int .i64 0),.lit (.int .i64 0),.lit (.int .u64 0)]],[],places) :=
  ⟨[],by kernel_rfl⟩
set_option maxRecDepth 100000 in
theorem lifted (os:Os) (started:os.Started) (H:Type) (enc:TypeId × Value→H) (F:Stop.Interp) :
    ReturnsInHanded {} Tryz.checked os 4 .any ((Rows.OpenSpec.upto Rows.moneyTellsSpec).preRow enc Tryz.prog Tryz.f4 Rows.moneyTellsUptoRow.domain false Rows.moneyTellsUptoRow.laid) (((Rows.OpenSpec.upto Rows.moneyTellsSpec).at F).post enc Tryz.prog Tryz.f4 false true false false):=by
  obtain ⟨places,hx⟩:=reads os enc
  refine returnsInHanded_of_row (C:=Tryz.checked) (s:=Rows.OpenSpec.upto Rows.moneyTellsSpec) own started (by kernel_rfl) Tryz.func4
    (witness_row_at (enc:=enc) (C:=Tryz.checked) false (laidWorld os) #[arg0,zKZ,zK0,zK1] rfl (by kernel_rfl) (by kernel_rfl) (by kernel_rfl)
      (OpenSpec.preRow_of_cond 8 hx (by kernel_rfl) (fun k hk=>by cases hk; kernel_rfl) (by kernel_rfl) (laid_met os))) ?_
  intro W base args ds gs before hval hW _ hcond _ hL _ _
  exact zMW H enc W base args ds gs before hval hW hL (hcond _ rfl)
end Go.Proofs.YtgomalidoilgbaaGreatDoor.fnMoneyTells
end
section
namespace Go.Proofs.YtgomalidoilgbaaGreatDoor.fnMoneyTells
open Go.ChangeShapes Go.WideShapes Go.ChangeAt Go.RowKit Go.Ev
theorem k2:laidOutB Tryz.prog = true:=by kernel_rfl
theorem k3:mapsRowed Tryz.prog = true:=by kernel_rfl
theorem k10:(Rows.moneyTellsUptoRow.inPlace == Tryz.prog.inPlace 4) = true:=by kernel_rfl
theorem k11:(Rows.moneyTellsUptoRow.unfollowed == Tryz.prog.unfollowed 4) = true:=by kernel_rfl
theorem k12:(Rows.moneyTellsUptoRow.recurses == Tryz.prog.recurses 4) = true:=by kernel_rfl
theorem k13:(Rows.moneyTellsUptoRow.named == Tryz.prog.varsNamed 4) = true:=by kernel_rfl
theorem k23:(Rows.moneyTellsUptoRow.plainKeys == Tryz.prog.plainKeys) = true:=by kernel_rfl
theorem k24:Tryz.prog.stopsHeard = true:=by kernel_rfl
theorem k25:Tryz.prog.mayEnter = true:=by kernel_rfl
theorem k26:(Rows.moneyTellsUptoRow.lifted == Tryz.prog.liftsFinal) = true:=by kernel_rfl
theorem k27:(Tryz.prog.make == some Rows.moneyTellsUptoRow.make) = true:=by kernel_rfl
theorem zNA:joinedFacts Tryz.prog 4 Tryz.f4 (Rows.OpenSpec.upto Rows.moneyTellsSpec).bare Rows.moneyTellsUptoRow = true:=by
  unfold joinedFacts
  rw [k2,k3,k10,k11,k12,k13,k23,k24,k25,k26,k27]
  kernel_rfl
theorem peq:Tryz.pinned.checked.prog = Tryz.prog:=by kernel_rfl
theorem closed:joinedFacts Tryz.pinned.checked.prog 4 Tryz.f4 (Rows.OpenSpec.upto Rows.moneyTellsSpec).bare Rows.moneyTellsUptoRow = true:=by
  rw [peq]; exact zNA
end Go.Proofs.YtgomalidoilgbaaGreatDoor.fnMoneyTells
end
