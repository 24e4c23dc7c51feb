import Derived.Test.YtlklokhlgcfcdaaGreatDoorMte
import Derived.Shelf.Spec.BitsCarry
import Derived.Test.YtlklokhlgcfcdaaGreatDoorCards
import Derived.Test.YtlklokhlgcfcdaaGreatDoorTie
import Derived.ProofKit
import Derived.OpenShut
import Derived.Deep.DeepHandedRow
set_option linter.unusedVariables false
set_option linter.unusedSimpArgs false
section
namespace Go.Proofs.YtlklokhlgcfcdaaGreatDoor
open Go.Ev
structure znd (x:zl):Prop where
  trades:∀ t ∈ x.2.2.2.2.1,zhh t
  purses:∀ a ∈ x.2.2.2.2.2.1,zsu a
  made:zsu x.2.2.2.2.2.2.2.1
  spent:zsu x.2.2.2.2.2.2.2.2.1
structure qm (s:zb):Prop where
  shelves:∀ x ∈ s.2.1,znd x
  orders:∀ x ∈ s.2.2.2.1,zhk x
  entries:∀ x ∈ s.2.2.2.2.1,znc x
def zjc (r:zf) (x:zl) (q:zaw):Bool:=((decide ((x.1.length:Int) = q.1) && decide ((x.2.1.length:Int) = q.2.1)) && (decide ((x.2.2.1.length:Int) = q.2.2.1) && decide ((x.2.2.2.1.length:Int) = q.2.2.2.1))) && (decide ((x.2.2.2.2.1.length:Int) = q.2.2.2.2.1) && (decide (x.2.2.2.2.2.1.length = r.2.2.1.length) && decide (x.2.2.2.2.2.2.1.length = r.2.2.1.length)))
def zgE (r:zf) (s:zb):Bool:=(decide (s.2.1.length = r.1.length) && (decide ((s.2.2.2.1.length:Int) = r.2.2.2.2.2.1) && decide ((s.2.2.2.2.1.length:Int) ≤ r.2.2.2.2.2.2.1))) && ((decide (s.2.2.2.2.2.1.length = r.2.1.length) && decide (s.1 ≤ M62)) && zU (fun i=>zjc r (s.2.1.getD i za) (r.2.2.2.2.1.getD i qe)) 0 (s.2.1.length - 0))
theorem neI (a b:Int):(a != b) = !decide (a = b):=by
  rw [Bool.eq_iff_iff]; simp
theorem zET {r:zf} (hr:qg r) (s:zb):zbQ ((r,s,()),()) = some (qZ r && zgE r s,()):=by
  rw [zA]
  simp only [zbQ,zix,zmy r hr,Option.bind_some]
  cases hb:qZ r with
  | false=>rfl
  | true =>
    have ok:=jS hb
    have ok1:=ok.labels
    have ok2:=ok.quotas
    rw [zia,zia]
    unfold zgE M62
    by_cases hn:s.2.1.length = r.1.length
    · have hloop:zki K0 ((r.2.2.1.length:Int),s.2.1,(s.2.1.length:Int),0,(r,s,())) = bif zU (fun i=>zjc r (s.2.1.getD i za) (r.2.2.2.2.1.getD i qe)) 0 (s.2.1.length - 0) then some (true,()) else some (false,()) :=
        z6 (i0:=0) (n:=s.2.1.length) (by unfold Go.maxLen; omega) (Nat.zero_le _) (fun i=>((r.2.2.1.length:Int),s.2.1,(s.2.1.length:Int),i,(r,s,()))) (fun k i h1 h2=>by
          simp only [zgd]
          rw [ltT h2,zi h2,zi (by omega)]
          simp only [zE,neI,cond_true,zjc]
          generalize s.2.1.getD i za = x
          generalize r.2.2.2.2.1.getD i qe = q
          generalize k _ = kk
          grind (splits:=30)) (fun k=>by simp only [zgd]; rw [ltF]; rfl)
      rw [hloop]
      grind
    · grind
theorem zEU {r:zf} (hb:qZ r = true) (s:zb):zii (r,s,()) = some (zgE r s,()):=by
  rw [zA]
  simp only [zii,zih]
  have ok:=jS hb
  have ok1:=ok.labels
  have ok2:=ok.quotas
  rw [zia,zia]
  unfold zgE M62
  by_cases hn:s.2.1.length = r.1.length
  · have hloop:zjI K0 (0,r,s) = bif zU (fun i=>zjc r (s.2.1.getD i za) (r.2.2.2.2.1.getD i qe)) 0 (s.2.1.length - 0) then some (true,()) else some (false,()) :=
      z6 (i0:=0) (n:=s.2.1.length) (by unfold Go.maxLen; omega) (Nat.zero_le _) (fun i=>(i,r,s)) (fun k i h1 h2=>by
        simp only [zf1]
        rw [ltT h2,zi h2,zi (by omega)]
        simp only [zE,neI,cond_true,zjc]
        generalize s.2.1.getD i za = x
        generalize r.2.2.2.2.1.getD i qe = q
        generalize k _ = kk
        grind (splits:=30)) (fun k=>by simp only [zf1]; rw [ltF]; rfl)
    rw [hloop]
    grind
  · grind
structure zeI (r:zf) (s:zb):Prop where
  shelves:s.2.1.length = r.1.length
  orders:s.2.2.2.1.length ≤ 24
  entries:s.2.2.2.2.1.length ≤ 48
  people:s.2.2.2.2.2.1.length = r.2.1.length
  shelf:∀ x ∈ s.2.1,x.1.length ≤ 12 ∧ x.2.1.length ≤ 12 ∧ x.2.2.1.length ≤ 12 ∧ x.2.2.2.1.length ≤ 12 ∧ x.2.2.2.2.1.length ≤ 12 ∧ x.2.2.2.2.2.1.length = r.2.2.1.length ∧ x.2.2.2.2.2.2.1.length = r.2.2.1.length
theorem zHp:∀ (l:List zaw) (n:Int),zhe n l = true→∀ q ∈ l,zrB q = true
  | [],_,_,q,h=>by cases h
  | a :: l,n,h,q,hq=>by
    simp only [zhe,Bool.and_eq_true] at h
    rcases List.mem_cons.1 hq with rfl | hq
    · exact h.1
    · exact zHp l _ h.2.2 q hq
theorem zeO {r:zf} {s:zb} (hb:qZ r = true) (h:zgE r s = true):zeI r s:=by
  have ok:=jS hb
  simp only [qZ,Bool.and_eq_true] at hb
  obtain ⟨-,-,-,-,h5,h6⟩:=hb
  simp only [zfM,zwa,zS,Bool.and_eq_true,decide_eq_true_eq] at h5 h6
  simp only [zgE,Bool.and_eq_true,decide_eq_true_eq,qP] at h
  obtain ⟨⟨h7,h8,h9⟩,⟨h10,-⟩,h11⟩:=h
  refine ⟨h7,by omega,by omega,h10,fun x hx=>?_⟩
  obtain ⟨i,hi,rfl⟩:=List.mem_iff_getElem.1 hx
  have h12:=h11 i (by omega) (by omega)
  have e:s.2.1.getD i za = s.2.1[i]:=by simp [List.getD,hi]
  rw [e] at h12
  have hq:=zHp _ _ h5.2.2.2 (r.2.2.2.2.1.getD i qe) (zV (by have:=ok.quotas; omega))
  simp only [zrB,zS,Bool.and_eq_true,decide_eq_true_eq] at hq
  simp only [zjc,Bool.and_eq_true,decide_eq_true_eq] at h12
  omega
def jF (x:zl):Bool:=(x.1.all zkp) && (zA1 x.2.1 && (x.2.2.1.all yb && (x.2.2.2.1.all zkq && x.2.2.2.2.1.all zhi)))
theorem zA7 {x:zl} (h:x.1.length ≤ 12 ∧ x.2.1.length ≤ 12 ∧ x.2.2.1.length ≤ 12 ∧ x.2.2.2.1.length ≤ 12 ∧ x.2.2.2.2.1.length ≤ 12):zga (x,()) = some (jF x,()):=by
  rw [zA]
  have hm:12 ≤ Go.maxLen:=by unfold Go.maxLen; omega
  simp only [zga]
  rw [zHa (by omega),zHc (by omega),zEG (by omega),zHg (by omega),zEK (by omega)]
  simp only [Option.bind_some,jF]
  grind
theorem zEV {r:zf} {s:zb} (ok:zhj r) (sz:zeI r s):zbR ((r,s,()),()) = some (s.2.1.all jF,()):=by
  rw [zA]
  simp only [zbR]
  have h1:=ok.labels
  have h2:=sz.shelves
  rw [zIO (p:=jF) (by unfold Go.maxLen; omega) fun x hx=>zA7 (by have:=sz.shelf x hx; omega)]
  simp only [Option.bind_some]
def qv (r:zf) (x:Int):Bool:=decide (0 ≤ x ∧ x < (r.2.2.1.length:Int))
def jc (r:zf) (x:Int):Bool:=decide (0 ≤ x ∧ x < (r.1.length:Int))
theorem zai (r:zf) (s:zb) (x:Int):qV ((r,s,()),x,()) = some (qv r x,()):=by simp only [qV,qv]; grind
theorem ztJ (r:zf) (s:zb) (x:Int):zbP ((r,s,()),x,()) = some (jc r x,()):=by simp only [zbP,jc]; grind
theorem zdE (r:zf) (x:Int):jU (r,x,()) = some (qv r x,()):=by simp only [jU,qv]; grind
def zoq (s:zb) (x:vJ):Bool:=decide (0 ≤ x.1 ∧ x.1 < (s.2.1.length:Int)) && (decide (0 ≤ x.2.1 ∧ x.2.1 < ((s.2.1.getD x.1.toNat za).1.length:Int)) && ((s.2.1.getD x.1.toNat za).1.getD x.2.1.toNat zgS).1)
theorem ztK (s:zb) (x:vJ):zfl (s,x,()) = some (zoq s x,()):=by
  rw [zA]
  simp only [zfl,zoq,ix]
  by_cases h1:0 ≤ x.1 ∧ x.1 < (s.2.1.length:Int)
  · rw [ixR h1,ixR h1]
    by_cases h2:0 ≤ x.2.1 ∧ x.2.1 < ((s.2.1.getD x.1.toNat za).1.length:Int)
    · rw [ixR h2]
      grind
    · grind
  · grind
theorem ztL (s:zb) (x:vJ):zfq (s,x,()) = some (zoq s x,()):=by
  rw [zA]
  simp only [zfq,zoq,ix]
  by_cases h1:0 ≤ x.1 ∧ x.1 < (s.2.1.length:Int)
  · rw [ixR h1,ixR h1]
    by_cases h2:0 ≤ x.2.1 ∧ x.2.1 < ((s.2.1.getD x.1.toNat za).1.length:Int)
    · rw [ixR h2]
      grind
    · grind
  · grind
def zle (r:zf) (s:zb) (x:zo):Bool:=!x.1 || (jc r x.2.1 && (qv r x.2.2.1 && decide (x.2.2.2.2.2.2.2.2.2.1 < (s.2.2.2.2.1.length:Int))))
def zlf (r:zf) (s:zb) (x:zF):Bool:=decide (x.2.1 < (r.2.1.length:Int)) && ((x.2.2.1:Int) == r.2.1.getD x.2.1.toNat 0 && (qv r x.2.2.2.1 && decide (x.1 ≤ s.1)))
def zne (r:zf) (x:Int):Bool:=x == -1 || qv r x
theorem zKS (r:zf) (s:zb) (x:zo):zfa (x,some (r,s,()),()) = some (zle r s x,()):=by
  rw [zA]
  simp only [zfa,zai,ztJ,Option.bind_some,zle]
  grind
theorem zKT (r:zf) (s:zb) {x:zF} (h:zhl x = true):za9 (x,some (r,s,()),()) = some (zlf r s x,()):=by
  rw [zA]
  simp only [za9,zai,Option.bind_some,zlf,ix]
  have:0 ≤ x.2.1:=by unfold zhl qW at h; grind
  by_cases h1:x.2.1 < (r.2.1.length:Int)
  · rw [ixR ⟨this,h1⟩]
    grind
  · grind
theorem zKU (r:zf) (s:zb) (x:Int):vq (x,some (r,s,()),()) = some (zne r x,()):=by
  rw [zA]
  simp only [vq,zai,Option.bind_some,zne]
  grind
def zhm (r:zf) (s:zb):Bool:=zop r s.2.2.1 && (zfN s.2.2.2.1 && (ziU s.2.2.2.2.1 && (zoq s (ze zM) && (s.2.2.2.1.all (zle r s) && (s.2.2.2.2.1.all (zlf r s) && s.2.2.2.2.2.1.all (zne r))))))
theorem zvO {l:List zF} (h:ziU l = true):∀ x ∈ l,zhl x = true:=by
  intro x hx
  simp only [ziU,qP,Bool.and_eq_true] at h
  obtain ⟨i,hi,rfl⟩:=List.mem_iff_getElem.1 hx
  have e:l.getD i vP = l[i]:=by simp [List.getD,hi]
  rw [← e]
  exact (h i (by omega) (by omega)).1
theorem zJf {l:List zo} (h:zfN l = true):∀ x ∈ l,zld x = true:=by
  intro x hx
  simp only [zfN,Bool.and_eq_true,List.all_eq_true] at h
  exact h.1 x hx
theorem zCD {r:zf} {s:zb} (hr:qg r) (hb:qZ r = true) (hs:qm s) (sz:zeI r s):zaY ((r,s,()),()) = some (zhm r s,()):=by
  rw [zA]
  have ok:=jS hb
  have h1:=ok.lines
  have h2:=sz.orders
  have h3:=sz.entries
  have h4:=sz.people
  have hm:48 ≤ Go.maxLen:=by unfold Go.maxLen; omega
  simp only [zaY,zHn hr,hb,Bool.true_and,Option.bind_some]
  unfold zhm
  cases zop r s.2.2.1 with
  | false=>rfl
  | true =>
    rw [zHo (by omega) hs.orders,zER (by omega) hs.entries,ztK]
    simp only [Option.bind_some,cond_true]
    cases zfN s.2.2.2.1 with
    | false=>rfl
    | true =>
      cases he:ziU s.2.2.2.2.1 with
      | false=>rfl
      | true =>
        rw [zIP (p:=zle r s) (by omega) fun x _=>zKS r s x,zIQ (p:=zlf r s) (by omega) fun x hx=>zKT r s (zvO he x hx),zLX (p:=zne r) (by omega) fun x _=>zKU r s x]
        simp only [Option.bind_some,cond_true]
        grind
theorem zCE {r:zf} {s:zb} (hr:qg r) (hb:qZ r = true) (hs:qm s) (sz:zeI r s):zhc (r,s,()) = some (zhm r s,()):=by
  rw [zA]
  have ok:=jS hb
  have h1:=ok.lines
  have h2:=sz.orders
  have h3:=sz.entries
  have h4:=sz.people
  have hm:48 ≤ Go.maxLen:=by unfold Go.maxLen; omega
  simp only [zhc,zhb,zEO hr,hb,Bool.true_and,Option.bind_some]
  unfold zhm
  cases zop r s.2.2.1 with
  | false=>rfl
  | true =>
    rw [zEP (by omega) hs.orders,zES (by omega) hs.entries,ztL]
    simp only [Option.bind_some,cond_true]
    cases ho:zfN s.2.2.2.1 with
    | false=>rfl
    | true =>
      cases he:ziU s.2.2.2.2.1 with
      | false=>rfl
      | true =>
        cases zoq s (ze zM) with
        | false=>rfl
        | true =>
          simp only [cond_true,Bool.true_and]
          have l2:zbr K0 (0,r,s) = bif s.2.2.2.2.2.1.all (zne r) then some (true,()) else some (false,()) :=
            jA (l:=s.2.2.2.2.2.1) (0:Int) (fun i=>(i,r,s)) (by omega) (fun k i x hi hx _=>by
              simp only [zfi]
              rw [ltT hi]
              simp only [zi hi,zE,hx,zdE,Option.bind_some,cond_true,zne]
              grind) (fun k=>by simp only [zfi]; rw [ltF]; rfl)
          have l1:zbt K0 (0,r,s) = bif s.2.2.2.2.1.all (zlf r s) then zbr K0 (0,r,s) else some (false,()) :=
            jA (l:=s.2.2.2.2.1) vP (fun i=>(i,r,s)) (by omega) (fun k i x hi hx hmem=>by
              have hok:=zvO he x hmem
              have h0:0 ≤ x.2.1:=by unfold zhl qW at hok; grind
              simp only [zbs]
              rw [ltT hi]
              simp only [zi hi,zE,hx,zdE,Option.bind_some,cond_true,zlf]
              by_cases h1:x.2.1 < (r.2.1.length:Int)
              · rw [ixR ⟨h0,h1⟩]
                grind
              · grind) (fun k=>by simp only [zbs]; rw [ltF]; rfl)
          have l0:ziS K0 (0,r,s) = bif s.2.2.2.1.all (zle r s) then zbt K0 (0,r,s) else some (false,()) :=
            jA (l:=s.2.2.2.1) zH (fun i=>(i,r,s)) (by omega) (fun k i x hi hx hmem=>by
              have hok:=zJf ho x hmem
              have h0:x.1 = true→0 ≤ x.2.1:=fun h=>by unfold zld ziT qW at hok; grind
              simp only [zbu]
              rw [ltT hi]
              simp only [zi hi,zE,hx,zdE,Option.bind_some,cond_true,zle,jc]
              grind) (fun k=>by simp only [zbu]; rw [ltF]; rfl)
          rw [l0,l1,l2]
          grind
end Go.Proofs.YtlklokhlgcfcdaaGreatDoor
end
section
namespace Go.Proofs.YtlklokhlgcfcdaaGreatDoor
open Go.Ev
def zmA (r:zf) (a b:Int):Bool:=jc r a && (jc r b && zCA (r.1.getD a.toNat je) (r.1.getD b.toNat je))
theorem zrE {r:zf} (hr:qg r) (a:Int) (h:jc r a = true):zon (r.1.getD a.toNat je):=by
  simp only [jc,decide_eq_true_eq] at h
  exact hr.labels _ (zV (by omega))
theorem zxs {r:zf} (hr:qg r) (s:zb) (a b:Int):zhY ((r,s,()),a,b,()) = some (zmA r a b,()):=by
  rw [zA]
  simp only [zhY,ztJ,Option.bind_some,zmA,ix]
  cases ha:jc r a with
  | false=>rfl
  | true =>
    cases hb:jc r b with
    | false=>rfl
    | true =>
      rw [zxp (zrE hr a ha) (zrE hr b hb)]
      simp only [jc,decide_eq_true_eq] at ha hb
      rw [ixR ha,ixR hb]
      simp only [Option.bind_some]
      grind
theorem zqt {r:zf} (hr:qg r) (a b:Int):zfL (r,a,b,()) = some (zmA r a b,()):=by
  rw [zA]
  simp only [zfL,zmA,ix]
  cases ha:jc r a with
  | false=>unfold jc at ha; grind
  | true =>
    cases hb:jc r b with
    | false=>unfold jc at ha hb; grind
    | true =>
      rw [zI2 (zrE hr a ha) (zrE hr b hb)]
      simp only [jc,decide_eq_true_eq] at ha hb
      rw [ixR ha,ixR hb]
      simp only [Option.bind_some]
      grind
def zdi (r:zf) (s:zb) (i:Int) (x:vJ):Bool:=zoq s x && zmA r x.1 i
theorem zks {r:zf} (hr:qg r) (s:zb) (i:Int) (x:vJ):vX (x,some (r,s,()),some i,()) = some (zdi r s i x,()):=by
  rw [zA]
  simp only [vX,ztK,zxs hr,Option.bind_some,zdi]
  grind
theorem zmB {r:zf} (hr:qg r) (s:zb) (i:Int) (x:vJ):zao (r,s,x,i,()) = some (zdi r s i x,()):=by
  rw [zA]
  simp only [zao,ztL,zqt hr,Option.bind_some,zdi]
  grind
def zgF (r:zf) (s:zb) (i:Int) (x:z9):Bool:=!x.1 || (zdi r s i x.2.1 && zdi r s i x.2.2.1)
def zgG (r:zf) (s:zb) (i:Int) (x:qa):Bool:=(x.2.2.1:Int) != 2 || zdi r s i x.2.2.2.2.1
def zrF (r:zf) (s:zb) (i:Int) (x:zl):Bool:=x.2.1.all (zgF r s i) && (x.2.2.1.all (zgG r s i) && x.2.2.2.2.2.2.1.all (zdi r s i))
theorem zL6 {r:zf} (hr:qg r) (s:zb) (i:Int) (x:z9):zfZ (x,some (some fun z=>vX (z.1,some (r,s,()),some i,())),()) = some (zgF r s i x,()):=by
  rw [zA]
  simp only [zfZ,zks hr,Option.bind_some,zgF]
  grind
theorem zL7 {r:zf} (hr:qg r) (s:zb) (i:Int) (x:qa):zb7 (x,some (some fun z=>vX (z.1,some (r,s,()),some i,())),()) = some (zgG r s i x,()):=by
  rw [zA]
  simp only [zb7,zks hr,Option.bind_some,zgG]
  grind
theorem zEW {r:zf} {s:zb} (hr:qg r) (ok:zhj r) (sz:zeI r s):zfx ((r,s,()),()) = some (zU (fun i=>zrF r s (i:Int) (s.2.1.getD i za)) 0 (s.2.1.length - 0),()):=by
  rw [zA]
  have h1:=ok.labels
  have h2:=sz.shelves
  have h3:=ok.accounts
  exact z6 (B:=zcP) (i0:=0) (n:=s.2.1.length) (by unfold Go.maxLen; omega) (Nat.zero_le _) (fun i=>(s.2.1,(s.2.1.length:Int),i,(r,s,()))) (fun k i _ h=>by
    have hm:12 ≤ Go.maxLen:=by unfold Go.maxLen; omega
    have hz:=sz.shelf _ (zV (d:=za) h)
    simp only [zcP]
    have hbelow:zmh ((r,s,()),(i:Int),()) = some (some fun z=>vX (z.1,some (r,s,()),some (i:Int),()),()):=rfl
    rw [ltT h,zi h,zE,hbelow,Option.bind_some,zKD (p:=zgF r s i) (by omega) fun x _=>zL6 hr s i x,zAV (p:=zgG r s i) (by omega) fun x _=>zL7 hr s i x,zLY (p:=zdi r s i) (by omega) fun x _=>zks hr s i x]
    simp only [Option.bind_some,cond_true]
    unfold zrF
    grind) (fun k=>by simp only [zcP]; rw [ltF]; rfl)
theorem zJg {σ ρ:Type} {B:(σ→Option ρ)→σ→Option ρ} {i0 n:Nat} (hn:n ≤ Go.maxLen) (h0:i0 ≤ n) {p:Nat→Bool} {fin bad:Option ρ} (st:Int→σ)
    (hin:∀ k (i:Nat),i0 ≤ i→i < n→B k (st i) = bif p i then k (st (wI (i + 1))) else bad) (hout:∀ k,B k (st n) = fin) (K:Nat) (hK:n - i0 < K):zg B K (st i0) = bif zU p i0 (n - i0) then fin else bad:=by
  have key:∀ (m i fuel:Nat),i0 ≤ i→i + m = n→m < fuel→zg B fuel (st i) = bif zU p i m then fin else bad:=by
    intro m
    induction m with
    | zero =>
      intro i fuel _ h1 h2
      obtain ⟨f,rfl⟩:∃ f,fuel = f + 1:=⟨fuel - 1,by omega⟩
      obtain rfl:i = n:=by omega
      exact hout _
    | succ m ih =>
      intro i fuel h1 h2 h3
      obtain ⟨f,rfl⟩:∃ f,fuel = f + 1:=⟨fuel - 1,by omega⟩
      show B (zg B f) (st i) = _
      rw [hin _ i h1 (by omega),wI,zzx (len:=n) (by omega) hn,show ((i:Int) + 1) = ((i + 1:Nat):Int) by omega,ih (i + 1) f (by omega) (by omega) (by omega)]
      simp only [zU]
      cases p i <;> rfl
  exact key (n - i0) i0 K (Nat.le_refl _) (by omega) hK
def zlg (r:zf) (x:qa):Bool:=(x.2.2.1:Int) != 1 || qv r x.2.2.2.1
def zlh (r:zf) (i:Int) (x:qq):Bool:=!x.1 || (zmA r x.2.1 i && (qv r x.2.2.1 && qv r x.2.2.2.1))
def zli (r:zf) (x:zt):Bool:=!x.1 || (qv r x.2.1 && qv r x.2.2.1)
def zfO (r:zf) (i:Int) (x:zl):Bool:=x.2.2.1.all (zlg r) && (x.2.2.2.1.all (zlh r i) && x.2.2.2.2.1.all (zli r))
theorem zKV (r:zf) (s:zb) (x:qa):zba (x,some (r,s,()),()) = some (zlg r x,()):=by
  rw [zA]
  simp only [zba,zai,Option.bind_some,zlg]
  grind
theorem zKW {r:zf} (hr:qg r) (s:zb) (i:Int) (x:qq):vu (x,some (r,s,()),some i,()) = some (zlh r i x,()):=by
  rw [zA]
  simp only [vu,zai,zxs hr,Option.bind_some,zlh]
  grind
theorem zKX (r:zf) (s:zb) (x:zt):qJ (x,some (r,s,()),()) = some (zli r x,()):=by
  rw [zA]
  simp only [qJ,zai,Option.bind_some,zli]
  grind
theorem zCF {r:zf} {s:zb} (hr:qg r) (ok:zhj r) (sz:zeI r s):zaW ((r,s,()),()) = some (zU (fun i=>zfO r (i:Int) (s.2.1.getD i za)) 0 s.2.1.length,()):=by
  rw [zA]
  have h1:=ok.labels
  have h2:=sz.shelves
  have hm:12 ≤ Go.maxLen:=by unfold Go.maxLen; omega
  have step:∀ k (i:Nat),i < s.2.1.length→qY k (s.2.1,(s.2.1.length:Int),(i:Int),(r,s,())) = bif zfO r (i:Int) (s.2.1.getD i za) then k (s.2.1,(s.2.1.length:Int),wI ((i:Int) + 1),(r,s,())) else some (false,()):=fun k i h=>by
    have hz:=sz.shelf _ (zV (d:=za) h)
    simp only [qY]
    rw [ltT h,zi h,zE,zAV (p:=zlg r) (by omega) fun x _=>zKV r s x,zKE (p:=zlh r i) (by omega) fun x _=>zKW hr s i x,zIR (p:=zli r) (by omega) fun x _=>zKX r s x]
    simp only [Option.bind_some,cond_true]
    unfold zfO
    grind
  have hend:∀ k,qY k (s.2.1,(s.2.1.length:Int),(s.2.1.length:Int),(r,s,())) = some (true,()):=fun k=>by simp only [qY]; rw [ltF]; rfl
  have first:zaW ((r,s,()),()) = zzy (qY) (qY) K0 (s.2.1,(s.2.1.length:Int),((0:Nat):Int),(r,s,())):=rfl
  have hw:wI (((0:Nat):Int) + 1) = ((1:Nat):Int):=rfl
  obtain ⟨m,hK⟩:=zv8
  have hf:∀ (B0 B1:(vv→Option (Bool × Unit))→vv→Option (Bool × Unit)) (x:vv),zzy B0 B1 K0 x = B0 (zg B1 (m + 7)) x:=fun B0 B1 x=>by rw [hK]; rfl
  have rest:=zJg (B:=qY) (i0:=1) (n:=s.2.1.length) (by unfold Go.maxLen; omega) (by omega) (p:=fun i=>zfO r (i:Int) (s.2.1.getD i za)) (fun i=>(s.2.1,(s.2.1.length:Int),i,(r,s,()))) (fun k i _ h=>step k i h) hend (m + 7) (by unfold K0 Go.maxLen at hK; omega)
  rw [hf] at first
  rw [first,step _ 0 (by omega),hw]
  refine (congrArg (fun z=>bif zfO r ((0:Nat):Int) (s.2.1.getD 0 za) then z else some (false,())) rest).trans ?_
  obtain ⟨n,hn⟩:∃ n,s.2.1.length = n + 1:=⟨s.2.1.length - 1,by omega⟩
  rw [hn]
  simp only [zU,Nat.add_sub_cancel]
  cases zfO r ((0:Nat):Int) (s.2.1.getD 0 za) <;> rfl
theorem zHq {l:List zt} {g:zt × Unit→Option (Bool × Unit)} {p:zt→Bool} (hg:∀ x,g (x,()) = some (p x,())) (z:Int):vV (some (l,some g,()),z,()) = some (decide (0 ≤ z ∧ z < (l.length:Int)) && p (l.getD z.toNat zQ),()):=by
  by_cases h:0 ≤ z ∧ z < (l.length:Int)
  · obtain ⟨n,rfl⟩:=Int.eq_ofNat_of_zero_le h.1
    rw [zxq hg (by omega),decide_eq_true h,Bool.true_and,Int.toNat_natCast]
  · rw [decide_eq_false h,Bool.false_and]
    simp only [vV,zvL,Option.bind_some,cond_true]
    grind
theorem zA8 {α:Type} {p:α→Bool} (d:α) (L:List α) (q:Int→Bool):∀ (l:List α) (i:Nat),(∀ j,j < l.length→L.getD (i + j) d = l.getD j d)→(qM p i l).all q = zU (fun j=>!p (L.getD j d) || q (j:Int)) i l.length
  | [],_,_=>rfl
  | x :: l,i,h=>by
    have ih:=zA8 (p:=p) d L q l (i + 1) fun j hj=>by
      have:=h (j + 1) (by simp; omega)
      rw [show i + 1 + j = i + (j + 1) by omega,this]; rfl
    have h0:L.getD i d = x:=h 0 (by simp)
    simp only [qM,List.length_cons,zU,h0]
    rw [← ih]
    cases p x <;> simp
def ziV (x:zl) (j:Nat) (t:qa):Bool:=(t.2.2.1:Int) != 3 || (decide (0 ≤ t.2.2.2.1 ∧ t.2.2.2.1 < (x.2.2.2.2.1.length:Int)) && ((x.2.2.2.2.1.getD (Int.toNat t.2.2.2.1) zQ).1 && ((x.2.2.2.2.1.getD (Int.toNat t.2.2.2.1) zQ).2.2.2.1.2.2.1:Int) == (j:Int)))
def zeP (x:zl) (j:Int) (t:zt):Bool:=(decide (t.2.2.2.1.2.2.1 < (x.2.2.1.length:Int)) && decide (t.2.2.2.2.1.2.2.1 < (x.2.2.1.length:Int))) && (decide (t.2.2.2.1.2.2.1 < 0) || (((x.2.2.1.getD (Int.toNat t.2.2.2.1.2.2.1) zz).2.2.1:Int) == 3 && ((x.2.2.1.getD (Int.toNat t.2.2.2.1.2.2.1) zz).2.2.2.1:Int) == j))
def zor (x:zl):Bool:=zU (fun j=>ziV x j (x.2.2.1.getD j zz)) 0 (x.2.2.1.length - 0) && zU (fun j=>!(x.2.2.2.2.1.getD j zQ).1 || zeP x (j:Int) (x.2.2.2.2.1.getD j zQ)) 0 x.2.2.2.2.1.length
theorem zpO (x:zt):vT (x,()) = some (x.1,()):=by
  rw [zA]; rfl
theorem zEX {r:zf} {s:zb} (ok:zhj r) (sz:zeI r s):zfw ((r,s,()),()) = some (zU (fun i=>zor (s.2.1.getD i za)) 0 (s.2.1.length - 0),()):=by
  rw [zA]
  have h1:=ok.labels
  have h2:=sz.shelves
  have hm:12 ≤ Go.maxLen:=by unfold Go.maxLen; omega
  have hlm:12 ≤ lim:=by unfold lim; omega
  have l2:∀ k0 (i:Nat) (x:zl),x.2.2.2.2.1.length ≤ 12→zcD K0 k0 (s.2.1,(s.2.1.length:Int),(i:Int),qM (fun t:zt=>t.1) 0 x.2.2.2.2.1,((qM (fun t:zt=>t.1) 0 x.2.2.2.2.1).length:Int),0,x) = bif zU (fun j=>!(x.2.2.2.2.1.getD j zQ).1 || zeP x (j:Int) (x.2.2.2.2.1.getD j zQ)) 0 x.2.2.2.2.1.length then k0 (s.2.1,(s.2.1.length:Int),wI ((i:Int) + 1)) else some (false,()):=fun k0 i x hx=>by
    have hsl:=zm5 (p:=fun t:zt=>t.1) x.2.2.2.2.1 0
    have hsm:=zm6 (p:=fun t:zt=>t.1) x.2.2.2.2.1 0
    have:=jA (B:=fun k2=>zcC k0 k2) (l:=qM (fun t:zt=>t.1) 0 x.2.2.2.2.1) (0:Int) (p:=fun z=>zeP x z (x.2.2.2.2.1.getD z.toNat zQ)) (fin:=k0 (s.2.1,(s.2.1.length:Int),wI ((i:Int) + 1))) (bad:=some (false,())) (fun j=>(s.2.1,(s.2.1.length:Int),(i:Int),qM (fun t:zt=>t.1) 0 x.2.2.2.2.1,((qM (fun t:zt=>t.1) 0 x.2.2.2.2.1).length:Int),j,x)) (by omega) (fun k j z hj hz hmem=>by
      obtain ⟨n,rfl,-,hn⟩:=hsm z hmem
      simp only [zcC]
      rw [ltT hj,zi hj,zE,hz,zi (by omega),zi (by omega),Int.toNat_natCast]
      simp only [cond_true,zeP,neI]
      by_cases ha:(x.2.2.2.2.1.getD n zQ).2.2.2.1.2.2.1 < (x.2.2.1.length:Int)
      · by_cases hb:0 ≤ (x.2.2.2.2.1.getD n zQ).2.2.2.1.2.2.1
        · rw [ixR ⟨hb,ha⟩,ixR ⟨hb,ha⟩]
          grind
        · grind
      · grind) (fun k=>by simp only [zcC]; rw [ltF]; rfl)
    refine this.trans ?_
    rw [zA8 (p:=fun t:zt=>t.1) zQ x.2.2.2.2.1 (fun z=>zeP x z (x.2.2.2.2.1.getD z.toNat zQ)) x.2.2.2.2.1 0 fun j _=>by rw [Nat.zero_add]]
    simp only [Int.toNat_natCast]
  have l1:∀ k0 (i:Nat) (x:zl),x.2.2.1.length ≤ 12→x.2.2.2.2.1.length ≤ 12→zcE K0 k0 (some (x.2.2.2.2.1,some vT,()),s.2.1,(s.2.1.length:Int),(i:Int),x.2.2.1,(x.2.2.1.length:Int),0,x) = bif zor x then k0 (s.2.1,(s.2.1.length:Int),wI ((i:Int) + 1)) else some (false,()):=fun k0 i x hx hx2=>by
    have:=z6 (B:=fun k1=>zaf (zcD K0 k0) k0 k1) (i0:=0) (n:=x.2.2.1.length) (p:=fun j=>ziV x j (x.2.2.1.getD j zz)) (fin:=bif zU (fun j=>!(x.2.2.2.2.1.getD j zQ).1 || zeP x (j:Int) (x.2.2.2.2.1.getD j zQ)) 0 x.2.2.2.2.1.length then k0 (s.2.1,(s.2.1.length:Int),wI ((i:Int) + 1)) else some (false,())) (bad:=some (false,())) (by omega) (Nat.zero_le _) (fun j=>(some (x.2.2.2.2.1,some vT,()),s.2.1,(s.2.1.length:Int),(i:Int),x.2.2.1,(x.2.2.1.length:Int),j,x)) (fun k j _ hj=>by
      simp only [zaf]
      rw [ltT hj,zi hj,zE,zHq zpO]
      simp only [cond_true,Option.bind_some,ziV,neI]
      by_cases ha:0 ≤ (x.2.2.1.getD j zz).2.2.2.1 ∧ (x.2.2.1.getD j zz).2.2.2.1 < (x.2.2.2.2.1.length:Int)
      · rw [ixR ha]
        grind
      · grind) (fun k=>by
      simp only [zaf]
      rw [ltF,ztI (by omega) zpO,Option.bind_some]
      exact l2 k0 i x hx2)
    refine this.trans ?_
    unfold zor
    cases zU (fun j=>ziV x j (x.2.2.1.getD j zz)) 0 (x.2.2.1.length - 0) <;> rfl
  exact z6 (B:=fun k0=>zag (zcE K0 k0) k0) (i0:=0) (n:=s.2.1.length) (by omega) (Nat.zero_le _) (fun i=>(s.2.1,(s.2.1.length:Int),i)) (fun k i _ h=>by
    have hz:=sz.shelf _ (zV (d:=za) h)
    simp only [zag]
    have hq:yK ((s.2.1.getD i za).2.2.2.2.1,some vT,()) = some (some ((s.2.1.getD i za).2.2.2.2.1,some vT,()),()):=by
      simp only [yK,ztE (show (s.2.1.getD i za).2.2.2.2.1.length ≤ lim by omega),Option.bind_some]
      rfl
    rw [ltT h,zi h,zE,hq,Option.bind_some]
    exact l1 k i _ (by omega) (by omega)) (fun k=>by simp only [zag]; rw [ltF]; rfl)
end Go.Proofs.YtlklokhlgcfcdaaGreatDoor
end
section
namespace Go.Proofs.YtlklokhlgcfcdaaGreatDoor
open Go.Ev
def znf (r:zf) (s:zb) (i:Int) (x:zl) (j:Nat) (t:qa):Bool:=!t.1 || bif (t.2.2.1:Int) == 1 then qv r t.2.2.2.1 else bif (t.2.2.1:Int) == 2 then zdi r s i t.2.2.2.2.1 else decide (t.2.2.2.1 < (x.2.2.2.2.1.length:Int)) && ((x.2.2.2.2.1.getD (Int.toNat t.2.2.2.1) zQ).1 && ((x.2.2.2.2.1.getD (Int.toNat t.2.2.2.1) zQ).2.2.2.1.2.2.1:Int) == (j:Int))
theorem zHr {r:zf} (hr:qg r) {s:zb} {i j:Nat} (hi:i < s.2.1.length) (hj:j < (s.2.1.getD i za).2.2.1.length) (hok:yb ((s.2.1.getD i za).2.2.1.getD j zz) = true) :
    zka (r,s,(i:Int),(j:Int),()) = some (znf r s i (s.2.1.getD i za) j ((s.2.1.getD i za).2.2.1.getD j zz),()):=by
  rw [zA]
  simp only [zka]
  rw [zi hi,zE,zi hj,Int.toNat_natCast]
  simp only [zdE,zmB hr,Option.bind_some,znf]
  generalize s.2.1.getD i za = x at *
  have ht:(x.2.2.1.getD j zz).1 = true→((x.2.2.1.getD j zz).2.2.1 == (1:Int)) = false→((x.2.2.1.getD j zz).2.2.1 == (2:Int)) = false→0 ≤ (x.2.2.1.getD j zz).2.2.2.1:=fun h1 h2 h3=>by
    unfold yb zla qW at hok; grind
  generalize x.2.2.1.getD j zz = t at *
  cases h1:t.1 with
  | false=>rfl
  | true =>
    cases h2:(t.2.2.1:Int) == 1 with
    | true=>cases hw:qv r t.2.2.2.1 <;> rfl
    | false =>
      cases h3:(t.2.2.1:Int) == 2 with
      | true=>cases hw:zdi r s i t.2.2.2.2.1 <;> rfl
      | false =>
        have h0:=ht h1 h2 h3
        by_cases h4:t.2.2.2.1 < (x.2.2.2.2.1.length:Int)
        · rw [ixR ⟨h0,h4⟩,ixR ⟨h0,h4⟩]
          grind
        · grind
def zng (r:zf) (x:zl) (j:Nat) (t:zt):Bool:=!t.1 || ((qv r t.2.1 && qv r t.2.2.1) && ((decide (t.2.2.2.1.2.2.1 < (x.2.2.1.length:Int)) && decide (t.2.2.2.2.1.2.2.1 < (x.2.2.1.length:Int))) && (decide (t.2.2.2.1.2.2.1 < 0) || ((x.2.2.1.getD (Int.toNat t.2.2.2.1.2.2.1) zz).1 && (((x.2.2.1.getD (Int.toNat t.2.2.2.1.2.2.1) zz).2.2.1:Int) == 3 && ((x.2.2.1.getD (Int.toNat t.2.2.2.1.2.2.1) zz).2.2.2.1:Int) == (j:Int))))))
theorem zHs (r:zf) (x:zl) {j:Nat} (hj:j < x.2.2.2.2.1.length):zjQ (r,x,(j:Int),()) = some (zng r x j (x.2.2.2.2.1.getD j zQ),()):=by
  rw [zA]
  simp only [zjQ]
  rw [zi hj,zE]
  simp only [zdE,Option.bind_some,zng]
  generalize x.2.2.2.2.1.getD j zQ = t
  cases h1:t.1 with
  | false=>rfl
  | true =>
    by_cases ha:t.2.2.2.1.2.2.1 < (x.2.2.1.length:Int)
    · by_cases hb:0 ≤ t.2.2.2.1.2.2.1
      · rw [ixR ⟨hb,ha⟩]
        grind
      · grind
    · grind
def zsv (r:zf) (s:zb) (i:Int) (x:zl):Bool:=x.2.1.all (zgF r s i) && (zU (fun j=>znf r s i x j (x.2.2.1.getD j zz)) 0 (x.2.2.1.length - 0) && (zU (fun j=>zng r x j (x.2.2.2.2.1.getD j zQ)) 0 (x.2.2.2.2.1.length - 0) && (x.2.2.2.1.all (zlh r i) && x.2.2.2.2.2.2.1.all (zdi r s i))))
theorem zCG {r:zf} {s:zb} (hr:qg r) (ok:zhj r) (hs:qm s) (sz:zeI r s) {i:Nat} (hi:i < s.2.1.length):zfA (r,s,(i:Int),()) = some (jF (s.2.1.getD i za) && zsv r s i (s.2.1.getD i za),()):=by
  rw [zA]
  have hm:12 ≤ Go.maxLen:=by unfold Go.maxLen; omega
  have hz:=sz.shelf _ (zV (d:=za) hi)
  have hin:=hs.shelves _ (zV (d:=za) hi)
  have h3:=ok.accounts
  simp only [zfA,ziu]
  have hitem:=fun (j:Nat) (hj:j < (s.2.1.getD i za).2.2.1.length) (hok:yb ((s.2.1.getD i za).2.2.1.getD j zz) = true)=>zHr hr hi hj hok
  rw [zi hi,zE]
  generalize s.2.1.getD i za = x at *
  rw [zED (by omega),zEE (by omega),zEH (by omega),zEI (by omega),zEL (by omega) hin.trades]
  simp only [Option.bind_some]
  unfold jF
  cases x.1.all zkp with
  | false=>rfl
  | true =>
    cases zA1 x.2.1 with
    | false=>rfl
    | true =>
      cases hit:x.2.2.1.all yb with
      | false=>rfl
      | true =>
        cases x.2.2.2.1.all zkq with
        | false=>rfl
        | true =>
          cases x.2.2.2.2.1.all zhi with
          | false=>rfl
          | true =>
            have l4:zcV K0 ((i:Int),0,r,s,x) = bif x.2.2.2.2.2.2.1.all (zdi r s i) then some (true,()) else some (false,()) :=
              jA (l:=x.2.2.2.2.2.2.1) zF4 (fun j=>((i:Int),j,r,s,x)) (by omega) (fun k j y hj hy _=>by
                simp only [zf8]
                rw [ltT hj,zi hj,zE,hy,zmB hr]
                simp only [Option.bind_some,cond_true]) (fun k=>by simp only [zf8]; rw [ltF]; rfl)
            have l3:zcX K0 ((i:Int),0,r,s,x) = bif x.2.2.2.1.all (zlh r i) then zcV K0 ((i:Int),0,r,s,x) else some (false,()) :=
              jA (l:=x.2.2.2.1) zaC (fun j=>((i:Int),j,r,s,x)) (by omega) (fun k j y hj hy _=>by
                simp only [zcW]
                rw [ltT hj,zi hj,zE,hy,zqt hr]
                simp only [zdE,Option.bind_some,cond_true,zlh]
                grind) (fun k=>by simp only [zcW]; rw [ltF]; rfl)
            have l2:zcZ K0 ((i:Int),0,r,s,x) = bif zU (fun j=>zng r x j (x.2.2.2.2.1.getD j zQ)) 0 (x.2.2.2.2.1.length - 0) then zcX K0 ((i:Int),0,r,s,x) else some (false,()) :=
              z6 (i0:=0) (n:=x.2.2.2.2.1.length) (by omega) (Nat.zero_le _) (fun j=>((i:Int),j,r,s,x)) (fun k j _ hj=>by
                simp only [zcY]
                rw [ltT hj,zHs r x hj]
                simp only [Option.bind_some,cond_true]) (fun k=>by simp only [zcY]; rw [ltF]; rfl)
            have l1:zc1 K0 ((i:Int),0,r,s,x) = bif zU (fun j=>znf r s i x j (x.2.2.1.getD j zz)) 0 (x.2.2.1.length - 0) then zcZ K0 ((i:Int),0,r,s,x) else some (false,()) :=
              z6 (i0:=0) (n:=x.2.2.1.length) (by omega) (Nat.zero_le _) (fun j=>((i:Int),j,r,s,x)) (fun k j _ hj=>by
                simp only [zc0]
                rw [ltT hj,hitem j hj (List.all_eq_true.1 hit _ (zV hj))]
                simp only [Option.bind_some,cond_true]) (fun k=>by simp only [zc0]; rw [ltF]; rfl)
            have l0:zkf K0 ((i:Int),0,r,s,x) = bif x.2.1.all (zgF r s i) then zc1 K0 ((i:Int),0,r,s,x) else some (false,()) :=
              jA (l:=x.2.1) qh (fun j=>((i:Int),j,r,s,x)) (by omega) (fun k j y hj hy _=>by
                simp only [zc2]
                rw [ltT hj,zi hj,zE,hy]
                simp only [zmB hr,Option.bind_some,cond_true,zgF]
                grind) (fun k=>by simp only [zc2]; rw [ltF]; rfl)
            simp only [cond_true]
            rw [l0,l1,l2,l3,l4]
            unfold zsv
            grind
def zos (r:zf) (s:zb) (i:Int) (x:zl):Bool:=zrF r s i x && (zfO r i x && zor x)
theorem zyJ {α:Type} {d:α} {l:List α} {p:α→Bool}:l.all p = true ↔ ∀ j,j < l.length→p (l.getD j d) = true:=by
  rw [List.all_eq_true]
  constructor
  · exact fun h j hj=>h _ (zV hj)
  · intro h x hx
    obtain ⟨i,hi,rfl⟩:=List.mem_iff_getElem.1 hx
    have:=h i hi
    simpa [List.getD,hi] using this
theorem zDf {t:qa} (h:yb t = true) (h1:t.1 = false):t.2.2.1 = 0:=by
  unfold yb at h
  rw [h1,cond_false] at h
  have e:eqI zG t (ze zG) = cond (t.1 == false) (cond (ByteArray.toList t.2.1 == ByteArray.toList (ze zG).2.1) (cond ((t.2.2.1:Int) == 0) (cond ((t.2.2.2.1:Int) == 0) (cond (eqI zM t.2.2.2.2.1 (ze zM)) true false) false) false) false) false:=rfl
  rw [e] at h
  cases hk:(t.2.2.1:Int) == 0 with
  | true=>exact eq_of_beq hk
  | false =>
    rw [hk] at h
    revert h
    cases (t.1 == false) <;> cases (ByteArray.toList t.2.1 == ByteArray.toList (ze zG).2.1) <;> intro h <;> cases h
theorem zA9 {r:zf} {s:zb} {i:Int} {x:zl} {j:Nat} {t:qa} (h:yb t = true):znf r s i x j t = (zgG r s i t && (zlg r t && ziV x j t)):=by
  unfold znf zgG zlg ziV
  cases h1:t.1 with
  | false =>
    have:=zDf h h1
    rw [this]; rfl
  | true =>
    unfold yb zla qW at h
    rw [h1] at h
    generalize qv r t.2.2.2.1 = a at *
    generalize zdi r s i t.2.2.2.2.1 = b at *
    grind
theorem zKY {r:zf} {x:zl} (hit:x.2.2.1.all yb = true) {j:Nat} {t:zt}:zng r x j t = (zli r t && (!t.1 || zeP x (j:Int) t)):=by
  unfold zng zli zeP
  have hi:0 ≤ t.2.2.2.1.2.2.1→t.2.2.2.1.2.2.1 < (x.2.2.1.length:Int)→((x.2.2.1.getD (Int.toNat t.2.2.2.1.2.2.1) zz).2.2.1 == (3:Int)) = true→(x.2.2.1.getD (Int.toNat t.2.2.2.1.2.2.1) zz).1 = true:=fun h1 h2 h3=>by
    have h4:=List.all_eq_true.1 hit _ (zV (d:=zz) (show (Int.toNat t.2.2.2.1.2.2.1) < x.2.2.1.length by omega))
    cases h5:(x.2.2.1.getD (Int.toNat t.2.2.2.1.2.2.1) zz).1 with
    | true=>rfl
    | false =>
      have:=zDf h4 h5
      rw [this] at h3
      exact absurd h3 (by decide)
  generalize x.2.2.1.getD (Int.toNat t.2.2.2.1.2.2.1) zz = y at *
  cases t.1 with
  | false=>rfl
  | true=>grind
theorem zJh {r:zf} {s:zb} {i:Int} {x:zl} (hit:x.2.2.1.all yb = true):zsv r s i x = zos r s i x:=by
  have hi:=List.all_eq_true.1 hit
  rw [Bool.eq_iff_iff]
  unfold zsv zos zrF zfO zor
  simp only [Bool.and_eq_true,qP,@zyJ qa zz,@zyJ zt zQ,zKY hit]
  constructor
  · rintro ⟨h1,h2,h3,h4,h5⟩
    have h2':∀ j,j < x.2.2.1.length→zgG r s i (x.2.2.1.getD j zz) = true ∧ zlg r (x.2.2.1.getD j zz) = true ∧ ziV x j (x.2.2.1.getD j zz) = true:=fun j hj=>by
      have:=h2 j (Nat.zero_le _) (by omega)
      rw [zA9 (hi _ (zV hj))] at this
      simpa [Bool.and_eq_true] using this
    exact ⟨⟨h1,fun j hj=>(h2' j hj).1,h5⟩,⟨fun j hj=>(h2' j hj).2.1,h4,fun j hj=>(h3 j (Nat.zero_le _) (by omega)).1⟩,fun j _ hj=>(h2' j (by omega)).2.2,fun j _ hj=>(h3 j (Nat.zero_le _) (by omega)).2⟩
  · rintro ⟨⟨h1,h2,h3⟩,⟨h4,h5,h6⟩,h7,h8⟩
    refine ⟨h1,fun j _ hj=>?_,fun j _ hj=>⟨h6 j (by omega),h8 j (by omega) (by omega)⟩,h5,h3⟩
    rw [zA9 (hi _ (zV (by omega))),h2 j (by omega),h4 j (by omega),h7 j (by omega) (by omega)]
    rfl
theorem zEY {r:zf} {s:zb} (hr:qg r) (ok:zhj r) (hs:qm s) (sz:zeI r s) {i:Nat} (hi:i < s.2.1.length):zfA (r,s,(i:Int),()) = some (jF (s.2.1.getD i za) && zos r s i (s.2.1.getD i za),()):=by
  rw [zCG hr ok hs sz hi]
  cases h:jF (s.2.1.getD i za) with
  | false=>rfl
  | true =>
    have hit:(s.2.1.getD i za).2.2.1.all yb = true:=by
      simp only [jF,Bool.and_eq_true] at h
      exact h.2.2.1
    rw [zJh hit]
end Go.Proofs.YtlklokhlgcfcdaaGreatDoor
end
section
namespace Go.Proofs.YtlklokhlgcfcdaaGreatDoor
open Go.Ev
def zD:List Int→Int
  | []=>0
  | x :: l=>x + zD l
theorem zyK:∀ (l m:List Int),zD (l ++ m) = zD l + zD m
  | [],m=>by simp [zD]
  | x :: l,m=>by simp only [List.cons_append,zD,zyK l m]; omega
theorem zot:∀ {l:List Int},(∀ x ∈ l,0 ≤ x)→0 ≤ zD l
  | [],_=>Int.le_refl 0
  | x :: l,h=>by
    have h1:=h x (by simp)
    have h2:=zot (l:=l) fun y hy=>h y (by simp [hy])
    simp only [zD]; omega
theorem qX {α:Type} {g:α→Int} {l:List α} (h:∀ x ∈ l,0 ≤ g x):0 ≤ zD (l.map g):=zot fun x hx=>by
  obtain ⟨y,hy,rfl⟩:=List.mem_map.1 hx
  exact h y hy
def zkt (n:Int):Int × Int × Unit:=bif decide (n > M62) then (0,7,()) else (n,0,())
theorem jw {n:Int} (h:n > M62):zkt n = (0,7,()):=by unfold zkt; rw [decide_eq_true h]; rfl
theorem ye {n:Int} (h:n ≤ M62):zkt n = (n,0,()):=by unfold zkt; rw [decide_eq_false (by omega)]; rfl
theorem zou:∀ (l:List Int) (a:Int),a ≤ M62→(∀ x ∈ l,0 ≤ x)→zlb a l = zkt (a + zD l)
  | [],a,h,_=>by simp only [zlb,zD,Int.add_zero]; exact (ye h).symm
  | x :: l,a,h,hp=>by
    have h2:=zot (l:=l) fun y hy=>hp y (by simp [hy])
    simp only [zlb,zD]
    by_cases hb:a + x > M62
    · rw [decide_eq_true hb,jw (by omega)]; rfl
    · rw [decide_eq_false hb,cond_false,zou l (a + x) (by omega) fun y hy=>hp y (by simp [hy])]
      congr 1; omega
theorem zqu {α:Type} (p:α→Bool) (g:α→Int):∀ l:List α,zD ((l.filter p).map g) = zD (l.map fun x=>bif p x then g x else 0)
  | []=>rfl
  | x :: l=>by
    have ih:=zqu p g l
    rw [zlc]
    simp only [List.map_cons,zD]
    cases hp:p x with
    | true=>simp only [cond_true,List.map_cons,zD,ih]
    | false=>simp only [cond_false,ih]; omega
def zlZ (x:zo):Int:=bif (x.2.2.2.1:Int) == 2 then x.2.2.2.2.1 else x.2.2.2.2.2.1
theorem zMO (x:zo):zic (x,()) = some (zlZ x,()):=by
  simp only [zic,zlZ]; grind
def qy (c:Int) (x:zo):Int:=bif x.1 && zlZ x == c then x.2.2.2.2.2.2.2.2.1 else 0
def zlj (l:List zo) (c:Int):Int × Int × Unit:=bif zY c then zkt (zD (l.map (qy c))) else (0,1,())
theorem zKZ (l:List zo) (hl:l.length ≤ lim):zm0 (l,()) = some (some (l,some zjG,()),()):=by
  simp only [zm0,ziK,zEw hl,Option.bind_some]
  rfl
theorem zHt (x:zo):zjG (x,()) = some (x.1,()):=by
  rw [zA]; rfl
theorem zJi {l:List zo} (hl:l.length ≤ lim) (h:∀ x ∈ l,zhk x) (c:Int):zlA (l,c,()) = some (zlj l c):=by
  have hl':l.length ≤ Go.maxLen:=by unfold lim at hl; unfold Go.maxLen; omega
  simp only [zlA,zlz,yc,Option.bind_some]
  unfold zlj
  cases hc:zY c with
  | false=>rfl
  | true =>
    have hslots:zj4 (l,()) = some (qM (fun x:zo=>x.1) 0 l,()):=by
      simp only [zj4]
      rw [zKZ l hl,Option.bind_some,zEM hl zHt,Option.bind_some]
    simp only [cond_true]
    rw [hslots,Option.bind_some]
    have hsl:=zm5 (p:=fun x:zo=>x.1) l 0
    have hsm:=zm6 (p:=fun x:zo=>x.1) l 0
    have hloop:=jY (B:=zfz) (l:=qM (fun x:zo=>x.1) 0 l) (α:=List Int) (0:Int) (fun i o=>o.length ≤ i ∧ ∀ x ∈ o,0 ≤ x ∧ x < U64) (fun i o=>(l,c,qM (fun x:zo=>x.1) 0 l,((qM (fun x:zo=>x.1) 0 l).length:Int),i,o))
      (fun rest o=>some (zlb 0 (o ++ (rest.filter fun z=>zlZ (l.getD z.toNat zH) == c).map fun z=>(l.getD z.toNat zH).2.2.2.2.2.2.2.2.1))) (by omega) (fun k i x rest o hi hI hx hm hr hk=>by
        simp only [zfz]
        obtain ⟨j,rfl,-,hj⟩:=hsm x hm
        rw [ltT hi,zi hi,zE,hx,zi (by omega),zi (by omega),Int.toNat_natCast,zjj,zMO]
        have hxx:=(h (l.getD j zH) (zV (by omega))).held
        simp only [cond_true,zlc,Int.toNat_natCast,Option.bind_some]
        rw [decide_eq_true (by simp; omega)]
        simp only [cond_true]
        cases hq:zlZ (l.getD j zH) == c with
        | false =>
          exact hk o ⟨by omega,hI.2⟩
        | true =>
          simp only [cond_true,List.map_cons,Int.toNat_natCast]
          refine (hk _ ⟨by simp; omega,fun x hx=>?_⟩).trans ?_
          · rcases List.mem_append.1 hx with hx | hx
            · exact hI.2 x hx
            · rcases List.mem_singleton.1 hx with rfl
              exact hxx
          · rw [List.append_assoc]; rfl) (fun k o hI=>by
        simp only [zfz]
        rw [ltF]
        simp only [cond_false]
        rw [zm4 (by omega) hI.2,List.filter_nil,List.map_nil,List.append_nil]
        rfl) [] ⟨Nat.le_refl _,fun x hx=>by cases hx⟩
    refine hloop.trans ?_
    rw [List.nil_append,zmz (q:=fun x:zo=>zlZ x == c) (g:=fun x:zo=>x.2.2.2.2.2.2.2.2.1) zH l l 0 fun j _=>by rw [Nat.zero_add]]
    rw [zou _ 0 (by unfold M62; omega) fun x hx=>?_,zqu,Int.zero_add]
    · rfl
    · obtain ⟨y,hy,rfl⟩:=List.mem_map.1 hx
      exact (h y (List.mem_filter.1 hy).1).held.1
theorem zfE {x:zo} (h:zhk x) (c:Int):qu (qy c x):=by
  unfold qy
  cases x.1 && zlZ x == c with
  | true=>exact h.held
  | false=>exact (⟨Int.le_refl 0,by unfold U64; decide⟩:qu 0)
theorem zEZ (x:zo) (c:Int):zik (x,c,()) = some (qy c x,()):=by
  simp only [zik,qy,zlZ]; grind
theorem zov {a b:Int}:zm3 a b = zkt (a + b):=rfl
theorem zHu {l:List zo} (hl:l.length ≤ Go.maxLen) (h:∀ x ∈ l,zhk x) (c:Int):zjS (l,c,()) = some (zlj l c):=by
  simp only [zjS,zjR]
  unfold zlj
  cases hc:zY c with
  | false=>unfold zY at hc; grind
  | true =>
    have hloop:=jY (B:=zel) (l:=l) (α:=Int) zH (fun _ s=>0 ≤ s ∧ s ≤ M62) (fun i s=>(l,c,s,i)) (fun rest s=>some (zkt (s + zD (rest.map (qy c))))) hl (fun k i x rest s hi hI hx hm hr hk=>by
      simp only [zel]
      have hxx:=zfE (h x hm) c
      have hrest:0 ≤ zD (rest.map (qy c)):=qX fun y hy=>(zfE (h y (by rw [← hr] at hy; exact List.mem_of_mem_drop hy)) c).1
      rw [ltT hi,zi hi,zE,hx,zEZ]
      simp only [cond_true,Option.bind_some,List.map_cons,zD]
      rw [zbx (by unfold M62 at hI; unfold U64; omega) hxx,zov,Option.bind_some]
      by_cases hb:s + qy c x > M62
      · rw [jw hb,jw (by omega)]; rfl
      · rw [ye (by omega)]
        have:=hk (s + qy c x) ⟨by have:=hxx.1; omega,by omega⟩
        refine this.trans ?_
        rw [Int.add_assoc]) (fun k s hI=>by
      simp only [zel]; rw [ltF]
      simp only [cond_false,List.map_nil,zD,Int.add_zero]
      rw [ye hI.2]) 0 (by unfold M62; omega)
    refine Eq.trans ?_ (hloop.trans ?_)
    · unfold zY at hc
      grind
    · rw [Int.zero_add]; rfl
def zaJ (c:Int) (x:zt):Int:=bif x.1 && (x.2.2.2.1.1:Int) == c then x.2.2.2.1.2.1 else 0
theorem zvP {l:List zt} (h:∀ x ∈ l,zhh x) {c:Int} (hc:zY c = true):zjb l c = zkt (zD (l.map (zaJ c))):=by
  unfold zjb
  rw [hc,cond_true,zou _ 0 (by unfold M62; omega) fun x hx=>?_,zqu,Int.zero_add]
  · rfl
  · obtain ⟨y,hy,rfl⟩:=List.mem_map.1 hx
    exact (h y (List.mem_filter.1 hy).1).1.1
theorem zE0 {x:zt} (h:zhh x) (c:Int):qu (zaJ c x):=by
  unfold zaJ
  cases x.1 && (x.2.2.2.1.1:Int) == c with
  | true=>exact h.1
  | false=>exact (⟨Int.le_refl 0,by unfold U64; decide⟩:qu 0)
def jG (c:Int) (a:List Int):Int:=a.getD c.toNat 0
def qf (c:Int) (x:zl):Int:=zD (x.2.2.2.2.1.map (zaJ c)) + zD (x.2.2.2.2.2.1.map (jG c))
theorem zku {x:zl} (h:znd x) (c:Int):0 ≤ zD (x.2.2.2.2.1.map (zaJ c)):=qX fun y hy=>(zE0 (h.trades y hy) c).1
theorem zsw {x:zl} (h:znd x) (c:Int):0 ≤ zD (x.2.2.2.2.2.1.map (jG c)):=qX fun y hy=>(vw (h.purses y hy) _).1
theorem zbT {x:zl} (h:znd x) (c:Int):0 ≤ qf c x:=by
  have:=zku h c
  have:=zsw h c
  unfold qf; omega
def zgf (s:zb) (c:Int):Int × Int × Unit:=bif zY c then zkt (zD (s.2.2.2.1.map (qy c)) + zD (s.2.1.map (qf c))) else (0,1,())
def wts:List zl→Nat
  | []=>0
  | x :: l=>1 + x.2.2.2.2.2.1.length + wts l
structure zwc (s:zb):Prop where
  shelves:s.2.1.length ≤ 2000000
  orders:s.2.2.2.1.length ≤ 2000000
  shelf:∀ x ∈ s.2.1,x.2.2.2.2.1.length ≤ 2000000 ∧ x.2.2.2.2.2.1.length ≤ 2000000
  all:wts s.2.1 ≤ 2000000
theorem zMP {l:List zl} {i:Nat} {x:zl} {rest:List zl} (hi:i < l.length) (hx:l.getD i za = x) (hr:l.drop (i + 1) = rest):wts (l.drop i) = 1 + x.2.2.2.2.2.1.length + wts rest:=by
  rw [zb2 za hi,hx,hr]; rfl
theorem zL8 {n:Nat}:∀ {l:List zl},(∀ x ∈ l,x.2.2.2.2.2.1.length ≤ n)→wts l ≤ l.length * (n + 1)
  | [],_=>Nat.zero_le _
  | x :: l,h=>by
    have h1:=h x (by simp)
    have h2:=zL8 (l:=l) fun y hy=>h y (by simp [hy])
    simp only [wts,List.length_cons,Nat.add_mul]
    omega
theorem vI {c:Int} (hc:zY c = true):0 ≤ c ∧ c < ((4:Nat):Int):=by
  simp only [zY,decide_eq_true_eq] at hc; omega
theorem zHv {s:zb} (hs:qm s) (sh:zwc s) (c:Int):zke (s,c,()) = some (zgf s c):=by
  have hlm:10000000 ≤ lim:=by unfold lim; omega
  have hmm:10000000 ≤ Go.maxLen:=by unfold Go.maxLen; omega
  have hsh:=sh.shelves
  have hso:=sh.orders
  simp only [zke,zkd,yc,Option.bind_some]
  rw [zJi (by omega) hs.orders]
  unfold zgf zlj
  cases hc:zY c with
  | false=>rfl
  | true =>
    have hcin:=vI hc
    simp only [cond_true,Option.bind_some]
    have hbook:0 ≤ zD (s.2.2.2.1.map (qy c)):=qX fun y hy=>(zfE (hs.orders y hy) c).1
    have hall:0 ≤ zD (s.2.1.map (qf c)):=qX fun y hy=>zbT (hs.shelves y hy) c
    have inner:∀ k0 (i:Nat) (x:zl) (o:List Int),x.2.2.2.2.2.1.length ≤ 2000000→o.length ≤ 2000001→zeF K0 k0 (c,s.2.1,(s.2.1.length:Int),(i:Int),x.2.2.2.2.2.1,(x.2.2.2.2.2.1.length:Int),0,o) = k0 (c,s.2.1,(s.2.1.length:Int),wI ((i:Int) + 1),o ++ x.2.2.2.2.2.1.map (jG c)):=fun k0 i x o hx ho =>
      jY (B:=fun k1=>zeE k0 k1) (l:=x.2.2.2.2.2.1) (α:=List Int) (ze (Ty.arr 4 tU)) (fun j o'=>o'.length ≤ 2000001 + j) (fun j o'=>(c,s.2.1,(s.2.1.length:Int),(i:Int),x.2.2.2.2.2.1,(x.2.2.2.2.2.1.length:Int),j,o')) (fun rest o'=>k0 (c,s.2.1,(s.2.1.length:Int),wI ((i:Int) + 1),o' ++ rest.map (jG c))) (by omega) (fun k j a rest o' hj hI ha hm hr hk=>by
        simp only [zeE]
        have h4:((4:Int)) = ((4:Nat):Int):=rfl
        rw [ltT hj,zi hj,Int.toNat_natCast,ha,zjj,decide_eq_true (by simp; omega)]
        simp only [cond_true]
        refine Eq.trans (ixR hcin) ?_
        refine (hk _ (by simp; omega)).trans ?_
        rw [List.append_assoc]; rfl) (fun k o' _=>by
        simp only [zeE]; rw [ltF]
        simp only [cond_false,List.map_nil,List.append_nil]) o ho
    by_cases hb:zD (s.2.2.2.1.map (qy c)) > M62
    · rw [jw hb,jw (by omega)]; rfl
    · rw [ye (by omega)]
      have hloop:=jY (B:=fun k0=>zaX (zeF K0 k0) k0) (l:=s.2.1) (α:=List Int) za (fun i o=>o.length + wts (s.2.1.drop i) ≤ 2000001 ∧ ∀ x ∈ o,0 ≤ x ∧ x < U64) (fun i o=>(c,s.2.1,(s.2.1.length:Int),i,o)) (fun rest o=>some (zkt (zD o + zD (rest.map (qf c))))) (by omega) (fun k i x rest o hi hI hx hm hr hk=>by
        simp only [zaX]
        have hin:=hs.shelves x hm
        have hlen:=sh.shelf x hm
        have hw:=zMP hi hx hr
        have hw2:=hI.1
        rw [hw] at hw2
        have h1:=zku hin c
        have h2:=zsw hin c
        have ho:0 ≤ zD o:=zot fun y hy=>(hI.2 y hy).1
        have hrest:0 ≤ zD (rest.map (qf c)):=qX fun y hy=>zbT (hs.shelves y (by rw [← hr] at hy; exact List.mem_of_mem_drop hy)) c
        rw [ltT hi,zi hi,zE,hx,zHl (by omega) hin.trades,zvP hin.trades hc]
        simp only [cond_true,Option.bind_some,List.map_cons,zD,qf]
        by_cases hb:zD (x.2.2.2.2.1.map (zaJ c)) > M62
        · rw [jw hb,jw (by omega)]; rfl
        · rw [ye (by omega),zjj,inner k i x _ (by omega) (by simp; omega)]
          rw [decide_eq_true (by simp; omega)]
          simp only [bne_self_eq_false,cond_true,cond_false]
          refine (hk _ ⟨by rw [hr]; simp; omega,fun y hy=>?_⟩).trans ?_
          · rcases List.mem_append.1 hy with hy | hy
            · rcases List.mem_append.1 hy with hy | hy
              · exact hI.2 y hy
              · rcases List.mem_singleton.1 hy with rfl
                unfold M62 at hb; unfold U64; omega
            · obtain ⟨a,ha,rfl⟩:=List.mem_map.1 hy
              exact vw (hin.purses a ha) _
          · rw [zyK,zyK]
            simp only [zD]
            congr 2; omega) (fun k o hI=>by
        simp only [zaX]
        rw [ltF]
        simp only [cond_false]
        rw [zm4 (by omega) hI.2,zou o 0 (by unfold M62; omega) fun y hy=>(hI.2 y hy).1]
        simp only [List.map_nil,zD,Int.add_zero,Int.zero_add]
        rfl) [zD (s.2.2.2.1.map (qy c))] ⟨by have:=sh.all; simp; omega,fun y hy=>by
          rcases List.mem_singleton.1 hy with rfl
          unfold M62 at hb; unfold U64; omega⟩
      refine hloop.trans ?_
      simp only [zD,Int.add_zero]
theorem zHw {s:zb} (hs:qm s) (sh:zwc s) (c:Int):zj2 (s,c,()) = some (zgf s c):=by
  have hmm:10000000 ≤ Go.maxLen:=by unfold Go.maxLen; omega
  have hsh:=sh.shelves
  have hso:=sh.orders
  simp only [zj2,zj1]
  rw [zHu (by omega) hs.orders]
  unfold zgf zlj
  cases hc:zY c with
  | false=>rfl
  | true =>
    have hcin:=vI hc
    simp only [cond_true,Option.bind_some]
    have hbook:0 ≤ zD (s.2.2.2.1.map (qy c)):=qX fun y hy=>(zfE (hs.orders y hy) c).1
    have hall:0 ≤ zD (s.2.1.map (qf c)):=qX fun y hy=>zbT (hs.shelves y hy) c
    have inner:∀ k0 (i:Nat) (a:Int),i < s.2.1.length→0 ≤ a ∧ a ≤ M62→zev K0 k0 (c,a,(i:Int),0,s) = bif decide (a + zD ((s.2.1.getD i za).2.2.2.2.2.1.map (jG c)) > M62) then some (0,7,()) else k0 (c,a + zD ((s.2.1.getD i za).2.2.2.2.2.1.map (jG c)),wI ((i:Int) + 1),s):=fun k0 i a hi ha=>by
      have hlen:=sh.shelf _ (zV (d:=za) hi)
      have hin:=hs.shelves _ (zV (d:=za) hi)
      exact jY (B:=fun k1=>zeu k0 k1) (l:=(s.2.1.getD i za).2.2.2.2.2.1) (α:=Int) (ze (Ty.arr 4 tU)) (fun j a=>0 ≤ a ∧ a ≤ M62) (fun j a=>(c,a,(i:Int),j,s)) (fun rest a=>bif decide (a + zD (rest.map (jG c)) > M62) then some (0,7,()) else k0 (c,a + zD (rest.map (jG c)),wI ((i:Int) + 1),s)) (by omega) (fun k j y rest a hj hI hy hm hr hk=>by
        have hyy:=vw (hin.purses y hm) c.toNat
        have hrest:0 ≤ zD (rest.map (jG c)):=qX fun z hz=>(vw (hin.purses z (by rw [← hr] at hz; exact List.mem_of_mem_drop hz)) _).1
        simp only [zeu]
        simp only [zi hi,zE]
        rw [ltT hj,zi hj,hy]
        simp only [cond_true,List.map_cons,zD]
        refine Eq.trans (ixR hcin) ?_
        rw [zbx (by unfold M62 at hI; unfold U64; omega) hyy,zov,Option.bind_some]
        have hp:jG c y = List.getD y c.toNat 0:=rfl
        rw [hp]
        by_cases hb:a + List.getD y c.toNat 0 > M62
        · rw [jw hb,decide_eq_true (by omega)]; rfl
        · rw [ye (by omega)]
          have:=hk (a + List.getD y c.toNat 0) ⟨by have:=hyy.1; omega,by omega⟩
          refine this.trans ?_
          rw [Int.add_assoc]) (fun k a hI=>by
        simp only [zeu]
        simp only [zi hi,zE]
        rw [ltF]
        simp only [cond_false,List.map_nil,zD,Int.add_zero]
        rw [decide_eq_false (by omega)]; rfl) a ha
    by_cases hb:zD (s.2.2.2.1.map (qy c)) > M62
    · rw [jw hb,jw (by omega)]; rfl
    · rw [ye (by omega)]
      have hloop:=jY (B:=fun k0=>zaU (zev K0 k0) k0) (l:=s.2.1) (α:=Int) za (fun i a=>0 ≤ a ∧ a ≤ M62) (fun i a=>(c,a,i,s)) (fun rest a=>some (zkt (a + zD (rest.map (qf c))))) (by omega) (fun k i x rest a hi hI hx hm hr hk=>by
        simp only [zaU]
        have hin:=hs.shelves x hm
        have hlen:=sh.shelf x hm
        have h1:=zku hin c
        have h2:=zsw hin c
        have hrest:0 ≤ zD (rest.map (qf c)):=qX fun y hy=>zbT (hs.shelves y (by rw [← hr] at hy; exact List.mem_of_mem_drop hy)) c
        have hinn:=fun a ha=>inner k i a hi ha
        rw [hx] at hinn
        rw [ltT hi,zi hi,zE,hx,zHm (by omega) hin.trades,zvP hin.trades hc]
        simp only [cond_true,Option.bind_some,List.map_cons,zD,qf]
        by_cases hb:zD (x.2.2.2.2.1.map (zaJ c)) > M62
        · rw [jw hb,jw (by omega)]; rfl
        · rw [ye (by omega),zbx (by unfold M62 at hI; unfold U64; omega) (by unfold M62 at hb; unfold U64; omega),zov,Option.bind_some]
          by_cases hb2:a + zD (x.2.2.2.2.1.map (zaJ c)) > M62
          · rw [jw hb2,jw (by omega)]; rfl
          · rw [ye (by omega),hinn _ (by omega)]
            simp only [bne_self_eq_false,cond_false]
            by_cases hb3:a + zD (x.2.2.2.2.1.map (zaJ c)) + zD (x.2.2.2.2.2.1.map (jG c)) > M62
            · rw [decide_eq_true hb3,jw (by omega)]; rfl
            · rw [decide_eq_false hb3,cond_false]
              refine (hk _ (by omega)).trans ?_
              congr 2; omega) (fun k a hI=>by
        simp only [zaU]
        rw [ltF]
        simp only [cond_false,List.map_nil,zD,Int.add_zero]
        rw [ye hI.2]) (zD (s.2.2.2.1.map (qy c))) (by omega)
      exact hloop
end Go.Proofs.YtlklokhlgcfcdaaGreatDoor
end
section
namespace Go.Proofs.YtlklokhlgcfcdaaGreatDoor
open Go.Ev
def zgH (a b:Int):Int × Int × Unit:=bif decide (a < b) then (0,6,()) else (a - b,0,())
theorem zHx {a b:Int} (ha:0 ≤ a ∧ a ≤ M62) (hb:0 ≤ b ∧ b ≤ M62):za7 (a,b,()) = some (zgH a b):=by
  simp only [za7,extA,extB,zgH,cond_false]
  unfold M62 at *
  have h2:b ≤ a→(a - b) % 18446744073709551616 = a - b:=fun h=>by omega
  grind
theorem zE1 {a b:Int} (ha:0 ≤ a ∧ a ≤ M62) (hb:0 ≤ b ∧ b ≤ M62):zfr (a,b,()) = some (zgH a b):=by
  simp only [zfr,zgH]
  unfold M62 at *
  by_cases h:b > a
  · grind
  · have hw:wU (a - b) = a - b:=zdR (by omega)
    rw [hw]; grind
def zgI (f:zl→List Int) (s:zb) (c:Int):Int:=zD (s.2.1.map fun x=>jG c (f x))
theorem zow {f:zl→List Int} {s:zb} (h:∀ x ∈ s.2.1,zsu (f x)) (c:Int):0 ≤ zgI f s c:=qX fun y hy=>(vw (h y hy) _).1
theorem zHy {s:zb} (sh:zwc s) {f:zl→List Int} {g:zl × Unit→Option (List Int × Unit)} (hg:∀ x,g (x,()) = some (f x,())) (h:∀ x ∈ s.2.1,zsu (f x)) {c:Int} (hc:zY c = true):zg7 (s,c,some g,()) = some (zkt (zgI f s c)):=by
  have hlm:10000000 ≤ lim:=by unfold lim; omega
  have hmm:10000000 ≤ Go.maxLen:=by unfold Go.maxLen; omega
  have hsh:=sh.shelves
  have hcin:=vI hc
  have hloop:=jY (B:=zbl) (l:=s.2.1) (α:=List Int) za (fun i o=>o.length ≤ i ∧ ∀ x ∈ o,0 ≤ x ∧ x < U64) (fun i o=>(c,some g,s.2.1,(s.2.1.length:Int),i,o)) (fun rest o=>some (zlb 0 (o ++ rest.map fun x=>jG c (f x)))) (by omega) (fun k i x rest o hi hI hx hm hr hk=>by
    simp only [zbl]
    rw [ltT hi,zi hi,zE,hx]
    simp only [cond_true,Option.bind_some]
    rw [hg]
    simp only [Option.bind_some]
    refine Eq.trans (ixR hcin) ?_
    rw [zjj,decide_eq_true (by simp; omega)]
    simp only [cond_true]
    refine (hk _ ⟨by simp; omega,fun y hy=>?_⟩).trans ?_
    · rcases List.mem_append.1 hy with hy | hy
      · exact hI.2 y hy
      · rcases List.mem_singleton.1 hy with rfl
        exact vw (h x hm) _
    · rw [List.append_assoc]; rfl) (fun k o hI=>by
    simp only [zbl]
    rw [ltF]
    simp only [cond_false]
    rw [zm4 (by omega) hI.2,List.map_nil,List.append_nil]
    rfl) [] ⟨Nat.le_refl _,fun x hx=>by cases hx⟩
  refine Eq.trans ?_ (hloop.trans ?_)
  · rfl
  · rw [List.nil_append,zou _ 0 (by unfold M62; omega) fun y hy=>?_,Int.zero_add]
    · rfl
    · obtain ⟨z,hz,rfl⟩:=List.mem_map.1 hy
      exact (vw (h z hz) _).1
def zkv (s:zb) (c:Int):Int × Int × Unit:=bif zY c then bif decide (zgI (fun x=>x.2.2.2.2.2.2.2.1) s c > M62) then (0,7,()) else bif decide (zgI (fun x=>x.2.2.2.2.2.2.2.2.1) s c > M62) then (0,7,()) else zgH (zgI (fun x=>x.2.2.2.2.2.2.2.1) s c) (zgI (fun x=>x.2.2.2.2.2.2.2.2.1) s c) else (0,1,())
theorem zHz {s:zb} (hs:qm s) (sh:zwc s) (c:Int):zj7 (s,c,()) = some (zkv s c):=by
  simp only [zj7,yc,Option.bind_some]
  unfold zkv
  cases hc:zY c with
  | false=>rfl
  | true =>
    have p1:=zow (f:=fun x=>x.2.2.2.2.2.2.2.1) (fun x hx=>(hs.shelves x hx).made) c
    have p2:=zow (f:=fun x=>x.2.2.2.2.2.2.2.2.1) (fun x hx=>(hs.shelves x hx).spent) c
    rw [zHy sh (f:=fun x=>x.2.2.2.2.2.2.2.1) (g:=zkZ) (fun x=>rfl) (fun x hx=>(hs.shelves x hx).made) hc,zHy sh (f:=fun x=>x.2.2.2.2.2.2.2.2.1) (g:=zk0) (fun x=>rfl) (fun x hx=>(hs.shelves x hx).spent) hc]
    simp only [cond_true,Option.bind_some]
    generalize zgI (fun x=>x.2.2.2.2.2.2.2.1) s c = a at *
    generalize zgI (fun x=>x.2.2.2.2.2.2.2.2.1) s c = b at *
    by_cases h1:a > M62
    · rw [jw h1,decide_eq_true h1]; rfl
    · rw [ye (by omega),decide_eq_false h1]
      by_cases h2:b > M62
      · rw [jw h2,decide_eq_true h2]; rfl
      · rw [ye (by omega),decide_eq_false h2]
        simp only [bne_self_eq_false,cond_false]
        rw [zHx (by omega) (by omega)]; rfl
theorem zHA {s:zb} (hs:qm s) (sh:zwc s) (c:Int):zjW (s,c,()) = some (zkv s c):=by
  have hmm:10000000 ≤ Go.maxLen:=by unfold Go.maxLen; omega
  have hsh:=sh.shelves
  simp only [zjW,zjV]
  unfold zkv
  cases hc:zY c with
  | false=>unfold zY at hc; grind
  | true =>
    have hcin:=vI hc
    have p1:=zow (f:=fun x=>x.2.2.2.2.2.2.2.1) (fun x hx=>(hs.shelves x hx).made) c
    have p2:=zow (f:=fun x=>x.2.2.2.2.2.2.2.2.1) (fun x hx=>(hs.shelves x hx).spent) c
    have l1:∀ (a b e:Int),0 ≤ a ∧ a ≤ M62→((e = 0 ∧ 0 ≤ b ∧ b ≤ M62) ∨ e = 7)→zaS K0 (c,a,b,e,0,s) = bif e == 0 then (bif decide (b + zgI (fun x=>x.2.2.2.2.2.2.2.2.1) s c > M62) then some (0,7,()) else some (zgH a (b + zgI (fun x=>x.2.2.2.2.2.2.2.2.1) s c))) else some (0,7,()):=fun a b e ha he =>
      jY (B:=zeq) (l:=s.2.1) (α:=Int × Int) za (fun _ st=>(st.2 = 0 ∧ 0 ≤ st.1 ∧ st.1 ≤ M62) ∨ st.2 = 7) (fun i st=>(c,a,st.1,st.2,i,s)) (fun rest st=>bif st.2 == 0 then (bif decide (st.1 + zD (rest.map fun x=>jG c x.2.2.2.2.2.2.2.2.1) > M62) then some (0,7,()) else some (zgH a (st.1 + zD (rest.map fun x=>jG c x.2.2.2.2.2.2.2.2.1)))) else some (0,7,())) (by omega) (fun k i x rest st hi hI hx hm hr hk=>by
        obtain ⟨b,e⟩:=st
        have hrest:0 ≤ zD (rest.map fun x:zl=>jG c x.2.2.2.2.2.2.2.2.1):=qX fun y hy=>(vw (hs.shelves y (by rw [← hr] at hy; exact List.mem_of_mem_drop hy)).spent _).1
        simp only [zeq]
        rw [ltT hi,zi hi,zE,hx]
        rcases hI with ⟨h0,hb⟩ | h7
        · simp only at h0 hb
          subst h0
          have hxx:=vw (hs.shelves x hm).spent c.toNat
          simp only [beq_self_eq_true,cond_true,List.map_cons,zD,jG]
          refine Eq.trans (ixR hcin) ?_
          rw [zbx (by unfold M62 at hb; unfold U64; omega) hxx,zov,Option.bind_some]
          by_cases hh:b + List.getD x.2.2.2.2.2.2.2.2.1 c.toNat 0 > M62
          · rw [jw hh]
            unfold jG at hrest
            rw [decide_eq_true (by omega)]
            exact hk (0,7) (.inr rfl)
          · rw [ye (by omega)]
            have:=hk (b + List.getD x.2.2.2.2.2.2.2.2.1 c.toNat 0,0) (.inl ⟨rfl,by have:=hxx.1; show 0 ≤ b + _ ∧ b + _ ≤ M62; omega⟩)
            refine this.trans ?_
            simp only [beq_self_eq_true,cond_true]
            rw [Int.add_assoc]; rfl
        · simp only at h7
          subst h7
          rfl) (fun k st hI=>by
        obtain ⟨b,e⟩:=st
        simp only [zeq]
        rw [ltF]
        rcases hI with ⟨h0,hb⟩ | h7
        · simp only at h0 hb
          subst h0
          simp only [bne_self_eq_false,cond_false,beq_self_eq_true,cond_true,List.map_nil,zD,Int.add_zero]
          rw [zE1 ha hb,decide_eq_false (by omega)]
          rfl
        · simp only at h7
          subst h7
          rfl) (b,e) he
    have l0:=jY (B:=fun k0=>zaT (zaS K0) k0) (l:=s.2.1) (α:=Int × Int) za (fun _ st=>(st.2 = 0 ∧ 0 ≤ st.1 ∧ st.1 ≤ M62) ∨ (st.2 = 7 ∧ st.1 = 0)) (fun i st=>(c,st.1,0,st.2,i,s)) (fun rest st=>bif st.2 == 0 then (bif decide (st.1 + zD (rest.map fun x=>jG c x.2.2.2.2.2.2.2.1) > M62) then some (0,7,()) else zaS K0 (c,st.1 + zD (rest.map fun x=>jG c x.2.2.2.2.2.2.2.1),0,0,0,s)) else some (0,7,())) (by omega) (fun k i x rest st hi hI hx hm hr hk=>by
        obtain ⟨a,e⟩:=st
        have hrest:0 ≤ zD (rest.map fun x:zl=>jG c x.2.2.2.2.2.2.2.1):=qX fun y hy=>(vw (hs.shelves y (by rw [← hr] at hy; exact List.mem_of_mem_drop hy)).made _).1
        simp only [zaT]
        rw [ltT hi,zi hi,zE,hx]
        rcases hI with ⟨h0,hb⟩ | ⟨h7,ha⟩
        · simp only at h0 hb
          subst h0
          have hxx:=vw (hs.shelves x hm).made c.toNat
          simp only [beq_self_eq_true,cond_true,List.map_cons,zD,jG]
          refine Eq.trans (ixR hcin) ?_
          rw [zbx (by unfold M62 at hb; unfold U64; omega) hxx,zov,Option.bind_some]
          by_cases hh:a + List.getD x.2.2.2.2.2.2.2.1 c.toNat 0 > M62
          · rw [jw hh]
            unfold jG at hrest
            rw [decide_eq_true (by omega)]
            exact hk (0,7) (.inr ⟨rfl,rfl⟩)
          · rw [ye (by omega)]
            have:=hk (a + List.getD x.2.2.2.2.2.2.2.1 c.toNat 0,0) (.inl ⟨rfl,by have:=hxx.1; show 0 ≤ a + _ ∧ a + _ ≤ M62; omega⟩)
            refine this.trans ?_
            simp only [beq_self_eq_true,cond_true]
            rw [Int.add_assoc]; rfl
        · simp only at h7 ha
          subst h7
          subst ha
          simp only [cond_true]
          refine (l1 0 0 7 (by unfold M62; omega) (.inr rfl)).trans ?_
          rfl) (fun k st hI=>by
        obtain ⟨a,e⟩:=st
        simp only [zaT]
        rw [ltF]
        rcases hI with ⟨h0,hb⟩ | ⟨h7,ha⟩
        · simp only at h0 hb
          subst h0
          simp only [cond_false,beq_self_eq_true,cond_true,List.map_nil,zD,Int.add_zero]
          rw [decide_eq_false (by omega)]; rfl
        · simp only at h7 ha
          subst h7
          subst ha
          refine (l1 0 0 7 (by unfold M62; omega) (.inr rfl)).trans ?_
          rfl) (0,0) (.inl ⟨rfl,by show (0:Int) ≤ 0 ∧ (0:Int) ≤ M62; unfold M62; omega⟩)
    refine Eq.trans ?_ (l0.trans ?_)
    · unfold zY at hc; grind
    · simp only [beq_self_eq_true,cond_true]
      have e1:(0:Int) + zD (s.2.1.map fun x:zl=>jG c x.2.2.2.2.2.2.2.1) = zgI (fun x=>x.2.2.2.2.2.2.2.1) s c:=by rw [Int.zero_add]; rfl
      rw [e1]
      by_cases h1:zgI (fun x=>x.2.2.2.2.2.2.2.1) s c > M62
      · rw [decide_eq_true h1]; rfl
      · rw [decide_eq_false h1,cond_false,cond_false,l1 _ 0 0 (by omega) (.inl ⟨rfl,by unfold M62; omega⟩),Int.zero_add]
        simp only [beq_self_eq_true,cond_true]
        cases decide (zgI (fun x=>x.2.2.2.2.2.2.2.2.1) s c > M62) <;> rfl
end Go.Proofs.YtlklokhlgcfcdaaGreatDoor
end
section
namespace Go.Proofs.YtlklokhlgcfcdaaGreatDoor
open Go.Ev
def zkw (r:zf) (s:zb) (c i:Nat):Bool:=!decide (((s.2.1.getD i za).2.2.2.2.2.2.2.1.getD c 0:Int) > (r.2.2.2.2.1.getD i qe).2.2.2.2.2.1)
def zkx (s:zb) (c:Int):Bool:=(zgf s c).2.1 == 0 && ((zkv s c).2.1 == 0 && (zgf s c).1 == (zkv s c).1)
def qN (r:zf) (s:zb):Bool:=qZ r && (zgE r s && (zhm r s && (zU (fun i=>(jF (s.2.1.getD i za) && zos r s i (s.2.1.getD i za)) && zU (fun c=>zkw r s c i) 0 (4 - 0)) 0 (s.2.1.length - 0) && zU (fun c=>zkx s (c:Int)) 0 (4 - 0))))
theorem zL9 {r:zf} {s:zb} (ok:zhj r) (sz:zeI r s):zwc s:=by
  have h1:=sz.shelves
  have h2:=ok.labels
  have h3:=ok.accounts
  have h4:=sz.orders
  have h5:=zL8 (n:=8) (l:=s.2.1) fun x hx=>by
    have:=sz.shelf x hx
    omega
  refine ⟨by omega,by omega,fun x hx=>?_,by omega⟩
  have:=sz.shelf x hx
  omega
theorem zE2 {r:zf} {s:zb} (ok:zhj r) (hs:qm s) (sz:zeI r s):zfB ((r,s,()),()) = some (zU (fun c=>zU (fun i=>zkw r s c i) 0 (s.2.1.length - 0) && zkx s (c:Int)) 0 (4 - 0),()):=by
  rw [zA]
  have hmm:1000000 ≤ Go.maxLen:=by unfold Go.maxLen; omega
  have sh:=zL9 ok sz
  have hsh:s.2.1.length ≤ 8:=by rw [sz.shelves]; exact ok.labels.2
  have h2:=sz.shelves
  have h3:=ok.quotas
  have inner:∀ k0 (c:Nat),c < 4→zc6 K0 k0 ((c:Int),(c:Int),s.2.1,(s.2.1.length:Int),0,(r,s,())) = bif zU (fun i=>zkw r s c i) 0 (s.2.1.length - 0) then bif zkx s (c:Int) then k0 (wI ((c:Int) + 1),(r,s,())) else some (false,()) else some (false,()):=fun k0 c hc =>
    z6 (B:=fun k1=>zc5 k0 k1) (i0:=0) (n:=s.2.1.length) (by omega) (Nat.zero_le _) (fun i=>((c:Int),(c:Int),s.2.1,(s.2.1.length:Int),i,(r,s,()))) (fun k i _ hi=>by
      simp only [zc5]
      rw [ltT hi,zi hi,zE,Int.toNat_natCast]
      simp only [cond_true]
      refine Eq.trans (zi (n:=4) hc) ?_
      rw [zi (by omega),zE]
      unfold zkw
      grind) (fun k=>by
      simp only [zc5]
      rw [ltF,zHv hs sh,zHz hs sh]
      simp only [Option.bind_some,cond_false,zkx]
      generalize zgf s (c:Int) = h
      generalize zkv s (c:Int) = m
      grind)
  exact z6 (B:=fun k0=>zc7 (zc6 K0 k0) k0) (i0:=0) (n:=4) (by omega) (Nat.zero_le _) (fun c=>(c,(r,s,()))) (fun k c _ hc=>by
    simp only [zc7]
    rw [decide_eq_true (by omega),cond_true]
    refine (inner k c hc).trans ?_
    cases zU (fun i=>zkw r s c i) 0 (s.2.1.length - 0) <;> rfl) (fun k=>rfl)
theorem zE3 {r:zf} {s:zb} (hr:qg r) (hs:qm s):ziw (r,s,()) = some (qN r s,()):=by
  rw [zA]
  have hmm:1000000 ≤ Go.maxLen:=by unfold Go.maxLen; omega
  simp only [ziw,ziv,ztG r hr,Option.bind_some]
  unfold qN
  cases hb:qZ r with
  | false=>rfl
  | true =>
    rw [zEU hb s,Option.bind_some]
    cases hz:zgE r s with
    | false=>rfl
    | true =>
      have ok:=jS hb
      have sz:=zeO hb hz
      have sh:=zL9 ok sz
      have hsh:s.2.1.length ≤ 8:=by rw [sz.shelves]; exact ok.labels.2
      have h2:=sz.shelves
      have h3:=ok.quotas
      rw [zCE hr hb hs sz,Option.bind_some]
      cases hp:zhm r s with
      | false=>rfl
      | true =>
        have l2:zda K0 (0,s) = bif zU (fun c=>zkx s (c:Int)) 0 (4 - 0) then some (true,()) else some (false,()) :=
          z6 (i0:=0) (n:=4) (by omega) (Nat.zero_le _) (fun c=>(c,s)) (fun k c _ hc=>by
            simp only [zkg]
            rw [decide_eq_true (by omega),zHw hs sh,zHA hs sh]
            simp only [Option.bind_some,cond_true,zkx]
            generalize zgf s (c:Int) = h
            generalize zkv s (c:Int) = m
            grind) (fun k=>rfl)
        have l1:∀ k0 (i:Nat),i < s.2.1.length→zgc K0 k0 ((i:Int),0,r,s) = bif zU (fun c=>zkw r s c i) 0 (4 - 0) then k0 (wI ((i:Int) + 1),r,s) else some (false,()):=fun k0 i hi =>
          z6 (B:=fun k1=>zgb k0 k1) (i0:=0) (n:=4) (by omega) (Nat.zero_le _) (fun c=>((i:Int),c,r,s)) (fun k c _ hc=>by
            simp only [zgb]
            rw [decide_eq_true (by omega),zi hi,zi (by omega),zE,zE,Int.toNat_natCast]
            simp only [cond_true]
            refine Eq.trans (zi (n:=4) hc) ?_
            unfold zkw
            grind) (fun k=>rfl)
        have l0:zkh K0 (0,r,s) = bif zU (fun i=>(jF (s.2.1.getD i za) && zos r s i (s.2.1.getD i za)) && zU (fun c=>zkw r s c i) 0 (4 - 0)) 0 (s.2.1.length - 0) then zda K0 (0,s) else some (false,()) :=
          z6 (i0:=0) (n:=s.2.1.length) (by omega) (Nat.zero_le _) (fun i=>(i,r,s)) (fun k i _ hi=>by
            simp only [zdb]
            rw [ltT hi,zEY hr ok hs sz hi]
            have:=l1 k i hi
            rw [this]
            simp only [Option.bind_some,cond_true]
            generalize (jF (s.2.1.getD i za) && zos r s i (s.2.1.getD i za)) = u
            cases u <;> rfl) (fun k=>by simp only [zdb]; rw [ltF]; rfl)
        simp only [cond_true,Bool.true_and]
        rw [l0,l2]
        grind
def zHB (r:zf) (s:zb):Bool:=qZ r && (zgE r s && (s.2.1.all jF && (zhm r s && (zU (fun i=>zrF r s (i:Int) (s.2.1.getD i za)) 0 (s.2.1.length - 0) && (zU (fun i=>zfO r (i:Int) (s.2.1.getD i za)) 0 s.2.1.length && (zU (fun i=>zor (s.2.1.getD i za)) 0 (s.2.1.length - 0) && zU (fun c=>zU (fun i=>zkw r s c i) 0 (s.2.1.length - 0) && zkx s (c:Int)) 0 (4 - 0)))))))
theorem zMa (r:zf) (s:zb):zHB r s = qN r s:=by
  rw [Bool.eq_iff_iff]
  unfold zHB qN zos
  simp only [Bool.and_eq_true,qP,@zyJ zl za]
  constructor
  · rintro ⟨h1,h2,h3,h4,h5,h6,h7,h8⟩
    exact ⟨h1,h2,h4,fun i hi1 hi=>⟨⟨h3 i (by omega),h5 i hi1 hi,h6 i hi1 (by omega),h7 i hi1 hi⟩,fun c hc1 hc=>(h8 c hc1 hc).1 i hi1 hi⟩,fun c hc1 hc=>(h8 c hc1 hc).2⟩
  · rintro ⟨h1,h2,h4,h5,h6⟩
    exact ⟨h1,h2,fun i hi=>(h5 i (by omega) (by omega)).1.1,h4,fun i h7 h8=>(h5 i h7 h8).1.2.1,fun i h7 h8=>(h5 i h7 (by omega)).1.2.2.1,fun i h7 h8=>(h5 i h7 h8).1.2.2.2,fun c h7 h8=>⟨fun i h9 h10=>(h5 i h9 h10).2 c h7 h8,h6 c h7 h8⟩⟩
theorem zE4 {r:zf} {s:zb} (hr:qg r) (hs:qm s):ziB (r,s,()) = some (qN r s,()):=by
  rw [← zMa,zA]
  obtain ⟨m,hm⟩:=zv8
  have first:ziB (r,s,()) = zg zge K0 (true,7,0,[some fun z=>zbQ ((r,s,()),()),some fun z=>zbR ((r,s,()),()),some fun z=>zaY ((r,s,()),()),some fun z=>zfx ((r,s,()),()),some fun z=>zaW ((r,s,()),()),some fun z=>zfw ((r,s,()),()),some fun z=>zfB ((r,s,()),())]):=rfl
  have hu:∀ (f1 f2 f3 f4 f5 f6 f7:Option (Bool × Unit)),zg zge (m + 8) (true,7,0,[some fun z=>f1,some fun z=>f2,some fun z=>f3,some fun z=>f4,some fun z=>f5,some fun z=>f6,some fun z=>f7]) =
    Option.bind f1 fun q=>bif q.1 then Option.bind f2 fun q=>bif q.1 then Option.bind f3 fun q=>bif q.1 then Option.bind f4 fun q=>bif q.1 then Option.bind f5 fun q=>bif q.1 then Option.bind f6 fun q=>bif q.1 then Option.bind f7 fun q=>bif q.1 then some (true,()) else some (false,()) else some (false,()) else some (false,()) else some (false,()) else some (false,()) else some (false,()) else some (false,()):=fun f1 f2 f3 f4 f5 f6 f7=>by kernel_rfl
  rw [first,hm,hu,zET hr s,Option.bind_some]
  unfold zHB
  cases hb:qZ r with
  | false=>rfl
  | true =>
    cases hz:zgE r s with
    | false=>rfl
    | true =>
      have ok:=jS hb
      have sz:=zeO hb hz
      rw [zEV ok sz,zCD hr hb hs sz,zEW hr ok sz,zCF hr ok sz,zEX ok sz,zE2 ok hs sz]
      simp only [Option.bind_some,Bool.true_and,cond_true]
      generalize s.2.1.all jF = c1
      generalize zhm r s = c2
      generalize zU (fun i=>zrF r s (i:Int) (s.2.1.getD i za)) 0 (s.2.1.length - 0) = c3
      generalize zU (fun i=>zfO r (i:Int) (s.2.1.getD i za)) 0 s.2.1.length = c4
      generalize zU (fun i=>zor (s.2.1.getD i za)) 0 (s.2.1.length - 0) = c5
      generalize zU (fun c=>zU (fun i=>zkw r s c i) 0 (s.2.1.length - 0) && zkx s (c:Int)) 0 (4 - 0) = c6
      cases c1 <;> cases c2 <;> cases c3 <;> cases c4 <;> cases c5 <;> cases c6 <;> rfl
def yV (r:zf) (x:pMe):Bool:=decide (0 ≤ x.1 ∧ x.1 < (r.2.1.length:Int)) && ((x.2.1:Int) == r.2.1.getD x.1.toNat 0 && qv r x.2.2.1)
theorem zox {r:zf} {s:zb} (hr:qg r) (hs:qm s) (x:pMe):zeH (r,s,x,()) = some (qN r s && yV r x,()):=by
  rw [zA]
  simp only [zeH,zE4 hr hs,Option.bind_some,yV,ix,qv]
  cases qN r s with
  | false=>rfl
  | true =>
    by_cases h:0 ≤ x.1 ∧ x.1 < (r.2.1.length:Int)
    · rw [ixR h]; grind
    · grind
theorem zHC (r:zf) (x:pMe):zjX (r,x,()) = some (yV r x,()):=by
  rw [zA]
  simp only [zjX,yV,ix,zdE,Option.bind_some]
  by_cases h:0 ≤ x.1 ∧ x.1 < (r.2.1.length:Int)
  · rw [ixR h]; grind
  · grind
end Go.Proofs.YtlklokhlgcfcdaaGreatDoor
end
section
namespace Go.Proofs.YtlklokhlgcfcdaaGreatDoor
open Go.Ev
theorem zBa {r:zf} (hr:qg r) (i:Int):zdd (r,i,()) = some (qZ r && jc r i,()):=by
  rw [zA]
  simp only [zdd,zmy r hr,Option.bind_some]
  cases hb:qZ r with
  | false=>rfl
  | true =>
    have hl:=(jS hb).labels
    have hw:wI ((r.1.length:Int) - 1) = (r.1.length:Int) - 1:=by
      have:=zi2 (i:=r.1.length) (by omega) (by unfold Go.maxLen; omega)
      rw [this]; omega
    rw [hw,zfk]
    simp only [Option.bind_some,cond_true,Bool.true_and,zS,jc]
    grind
theorem zJj {r:zf} (hr:qg r) (hb:qZ r = true) (a b:Int):zlB (r,a,b,()) = some (zmA r a b,()):=by
  rw [zA]
  simp only [zlB,zBa hr,hb,Bool.true_and,Option.bind_some,zmA,ix]
  cases ha:jc r a with
  | false=>rfl
  | true =>
    cases hbb:jc r b with
    | false=>rfl
    | true =>
      have h1:=zrE hr a ha
      have h2:=zrE hr b hbb
      simp only [jc,decide_eq_true_eq] at ha hbb
      rw [ixR ha,ixR hbb,zxp h1 h2]
      simp only [Option.bind_some]
      generalize zCA (r.1.getD a.toNat je) (r.1.getD b.toNat je) = u
      cases u <;> rfl
def eqW {α:Type} (p:α→α→Bool) (a b:List α):Bool:=decide (a.length = b.length) && (List.zip a b).all fun q=>p q.1 q.2
theorem zar {α σ:Type} {B:(σ→Option (Bool × Unit))→σ→Option (Bool × Unit)} {a b:List α} (d:α) (p:α→α→Bool) (st:Int→σ) (hl:a.length ≤ Go.maxLen) (hab:a.length = b.length)
    (hin:∀ k (i:Nat),i < a.length→B k (st i) = bif p (a.getD i d) (b.getD i d) then k (st (wI (i + 1))) else some (false,())) {fin:Bool} (hout:∀ k,B k (st a.length) = some (fin,())) :
    zg B K0 (st 0) = some (eqW p a b && fin,()):=by
  have hz:(List.zip a b).length = a.length:=by rw [List.length_zip]; omega
  have hx:∀ i,i < a.length→(List.zip a b).getD i (d,d) = (a.getD i d,b.getD i d):=fun i hi=>zxO a b i hi (by omega)
  have:=jA (B:=B) (l:=List.zip a b) (d,d) (p:=fun q=>p q.1 q.2) (fin:=some (fin,())) (bad:=some (false,())) st (by rw [hz]; exact hl) (fun k i x hi hx' _=>?_) (fun k=>?_)
  · rw [this]
    unfold eqW
    rw [decide_eq_true hab]
    cases (List.zip a b).all fun q=>p q.1 q.2 <;> rfl
  · rw [hz] at hi
    rw [hx i hi] at hx'
    subst hx'
    exact hin k i hi
  · rw [hz]; exact hout k
theorem zrG {α ρ:Type} (a b:List α) (p:α→α→Bool) (x:Option ρ) (y:Option ρ):(bif ((List.length a:Int) != (List.length b:Int)) then y else x) = bif decide (a.length = b.length) then x else y:=by
  rw [zia]; cases decide (a.length = b.length) <;> rfl
theorem zrH {α:Type} {p:α→α→Bool} {a b:List α} (h:¬ a.length = b.length):eqW p a b = false:=by unfold eqW; rw [decide_eq_false h]; rfl
theorem zeQ {α:Type} {p:α→α→Bool} {a b:List α} {x:Option (Bool × Unit)} (h:a.length = b.length→x = some (eqW p a b,())):(bif ((List.length a:Int) != (List.length b:Int)) then some (false,()) else x) = some (eqW p a b,()):=by
  rw [zrG a b p]
  by_cases hl:a.length = b.length
  · rw [decide_eq_true hl,h hl]; rfl
  · rw [decide_eq_false hl,zrH hl]; rfl
theorem zqv {p:Bool} {ρ:Type} (x y:ρ):(bif !p then y else x) = bif p then x else y:=by cases p <;> rfl
theorem zNX {ρ:Type} (u v:Int) (x y:ρ):(bif u != v then y else x) = bif u == v then x else y:=by
  show (bif !(u == v) then y else x) = _
  exact zqv _ _
theorem zHD {a b:List zo} (hl:a.length ≤ Go.maxLen):znI (a,b,()) = some (eqL zr a b,()):=zeQ (p:=eqI zr) fun h=>by
  have:=zar (B:=zea) zH (eqI zr) (fun i=>(a,b,i)) hl h (fun k i hi=>by
    simp only [zea]
    rw [ltT hi,zi hi,zi (by omega),zE,zE,zqv]; rfl) (fin:=true) (fun k=>by simp only [zea]; rw [ltF]; rfl)
  rw [Bool.and_true] at this; exact this
theorem zHE {a b:List zF} (hl:a.length ≤ Go.maxLen):znK (a,b,()) = some (eqL zv a b,()):=zeQ (p:=eqI zv) fun h=>by
  have:=zar (B:=zec) vP (eqI zv) (fun i=>(a,b,i)) hl h (fun k i hi=>by
    simp only [zec]
    rw [ltT hi,zi hi,zi (by omega),zE,zE,zqv]; rfl) (fin:=true) (fun k=>by simp only [zec]; rw [ltF]; rfl)
  rw [Bool.and_true] at this; exact this
theorem zJk {a b:List qS} (hl:a.length ≤ Go.maxLen):zhw (a,b,()) = some (eqL qk a b,()):=zeQ (p:=eqI qk) fun h=>by
  have:=zar (B:=yu) zgS (eqI qk) (fun i=>(a,b,i)) hl h (fun k i hi=>by
    simp only [yu]
    rw [ltT hi,zi hi,zi (by omega),zE,zE,zqv]; rfl) (fin:=true) (fun k=>by simp only [yu]; rw [ltF]; rfl)
  rw [Bool.and_true] at this; exact this
theorem zJl {a b:List z9} (hl:a.length ≤ Go.maxLen):zhy (a,b,()) = some (eqL zT a b,()):=zeQ (p:=eqI zT) fun h=>by
  have:=zar (B:=yx) qh (eqI zT) (fun i=>(a,b,i)) hl h (fun k i hi=>by
    simp only [yx]
    rw [ltT hi,zi hi,zi (by omega),zE,zE,zqv]; rfl) (fin:=true) (fun k=>by simp only [yx]; rw [ltF]; rfl)
  rw [Bool.and_true] at this; exact this
theorem zHF {a b:List qa} (hl:a.length ≤ Go.maxLen):znM (a,b,()) = some (eqL zG a b,()):=zeQ (p:=eqI zG) fun h=>by
  have:=zar (B:=zee) zz (eqI zG) (fun i=>(a,b,i)) hl h (fun k i hi=>by
    simp only [zee]
    rw [ltT hi,zi hi,zi (by omega),zE,zE,zqv]; rfl) (fin:=true) (fun k=>by simp only [zee]; rw [ltF]; rfl)
  rw [Bool.and_true] at this; exact this
theorem zHG {a b:List qq} (hl:a.length ≤ Go.maxLen):znO (a,b,()) = some (eqL zX a b,()):=zeQ (p:=eqI zX) fun h=>by
  have:=zar (B:=zeg) zaC (eqI zX) (fun i=>(a,b,i)) hl h (fun k i hi=>by
    simp only [zeg]
    rw [ltT hi,zi hi,zi (by omega),zE,zE,zqv]; rfl) (fin:=true) (fun k=>by simp only [zeg]; rw [ltF]; rfl)
  rw [Bool.and_true] at this; exact this
theorem zHH {a b:List zt} (hl:a.length ≤ Go.maxLen):znQ (a,b,()) = some (eqL zw a b,()):=zeQ (p:=eqI zw) fun h=>by
  have:=zar (B:=zei) zQ (eqI zw) (fun i=>(a,b,i)) hl h (fun k i hi=>by
    simp only [zei]
    rw [ltT hi,zi hi,zi (by omega),zE,zE,zqv]; rfl) (fin:=true) (fun k=>by simp only [zei]; rw [ltF]; rfl)
  rw [Bool.and_true] at this; exact this
structure zHI (x:zl):Prop where
  rooms:x.1.length ≤ Go.maxLen
  exits:x.2.1.length ≤ Go.maxLen
  items:x.2.2.1.length ≤ Go.maxLen
  mails:x.2.2.2.1.length ≤ Go.maxLen
  trades:x.2.2.2.2.1.length ≤ Go.maxLen
  purses:x.2.2.2.2.2.1.length ≤ Go.maxLen
  places:x.2.2.2.2.2.2.1.length ≤ Go.maxLen
structure zNY (s:zb):Prop where
  shelves:s.2.1.length ≤ Go.maxLen
  ranks:s.2.2.1.length ≤ Go.maxLen
  orders:s.2.2.2.1.length ≤ Go.maxLen
  entries:s.2.2.2.2.1.length ≤ Go.maxLen
  seats:s.2.2.2.2.2.1.length ≤ Go.maxLen
  shelf:∀ x ∈ s.2.1,zHI x
  rank:∀ l ∈ s.2.2.1,l.length ≤ Go.maxLen
def zfP (a b:zl):Bool:=eqL qk a.1 b.1 && (eqL zT a.2.1 b.2.1 && (eqL zG a.2.2.1 b.2.2.1 && (eqL zX a.2.2.2.1 b.2.2.2.1 && (eqL zw a.2.2.2.2.1 b.2.2.2.2.1 && (eqL (.arr 4 tU) a.2.2.2.2.2.1 b.2.2.2.2.2.1 && (eqL zM a.2.2.2.2.2.2.1 b.2.2.2.2.2.2.1 && (eqI (.arr 4 tU) a.2.2.2.2.2.2.2.1 b.2.2.2.2.2.2.2.1 && eqI (.arr 4 tU) a.2.2.2.2.2.2.2.2.1 b.2.2.2.2.2.2.2.2.1)))))))
theorem zwA {a b:zl} (h:zHI a):zdO (a,b,()) = some (zfP a b,()):=by
  rw [zA]
  simp only [zdO,zdN]
  rw [zJk h.rooms,zJl h.exits,zHF h.items,zHG h.mails,zHH h.trades]
  simp only [Option.bind_some]
  rw [zrG a.2.2.2.2.2.1 b.2.2.2.2.2.1 (eqI (.arr 4 tU)),zrG a.2.2.2.2.2.2.1 b.2.2.2.2.2.2.1 (eqI zM)]
  have key:a.2.2.2.2.2.1.length = b.2.2.2.2.2.1.length→a.2.2.2.2.2.2.1.length = b.2.2.2.2.2.2.1.length→zfW K0 (0,a,b) = some (eqL (.arr 4 tU) a.2.2.2.2.2.1 b.2.2.2.2.2.1 && eqL zM a.2.2.2.2.2.2.1 b.2.2.2.2.2.2.1,()):=fun h1 h2=>by
    have l1:=zar (B:=yB) zF4 (eqI zM) (fun i=>(i,a,b)) h.places h2 (fun k i hi=>by
      simp only [yB]
      rw [ltT hi,zi hi,zi (by omega),zE,zE,zqv]; rfl) (fin:=true) (fun k=>by simp only [yB]; rw [ltF]; rfl)
    rw [Bool.and_true] at l1
    exact zar (B:=fun k0=>vb (zbK K0) k0) (ze (.arr 4 tU)) (eqI (.arr 4 tU)) (fun i=>(i,a,b)) h.purses h1 (fun k i hi=>by
      simp only [vb]
      rw [ltT hi,zi hi,zi (by omega),Int.toNat_natCast,zqv]; rfl) (fun k=>by simp only [vb]; rw [ltF]; exact l1)
  unfold zfP
  by_cases h1:a.2.2.2.2.2.1.length = b.2.2.2.2.2.1.length
  · by_cases h2:a.2.2.2.2.2.2.1.length = b.2.2.2.2.2.2.1.length
    · rw [key h1 h2,decide_eq_true h1,decide_eq_true h2]
      generalize eqL qk a.1 b.1 = c1
      generalize eqL zT a.2.1 b.2.1 = c2
      generalize eqL zG a.2.2.1 b.2.2.1 = c3
      generalize eqL zX a.2.2.2.1 b.2.2.2.1 = c4
      generalize eqL zw a.2.2.2.2.1 b.2.2.2.2.1 = c5
      generalize eqL (.arr 4 tU) a.2.2.2.2.2.1 b.2.2.2.2.2.1 = c6
      generalize eqL zM a.2.2.2.2.2.2.1 b.2.2.2.2.2.2.1 = c7
      generalize eqI (.arr 4 tU) a.2.2.2.2.2.2.2.1 b.2.2.2.2.2.2.2.1 = c8
      generalize eqI (.arr 4 tU) a.2.2.2.2.2.2.2.2.1 b.2.2.2.2.2.2.2.2.1 = c9
      grind
    · have e:eqL zM a.2.2.2.2.2.2.1 b.2.2.2.2.2.2.1 = false:=zrH h2
      rw [decide_eq_false h2,e]
      grind
  · have e:eqL (.arr 4 tU) a.2.2.2.2.2.1 b.2.2.2.2.2.1 = false:=zrH h1
    rw [decide_eq_false h1,e]
    grind
def zFf (a b:zb):Bool:=(a.1:Int) == b.1 && (eqW zfP a.2.1 b.2.1 && (eqW (eqL tI) a.2.2.1 b.2.2.1 && (eqL zr a.2.2.2.1 b.2.2.2.1 && (eqL zv a.2.2.2.2.1 b.2.2.2.2.1 && eqL tI a.2.2.2.2.2.1 b.2.2.2.2.2.1))))
theorem zHJ {a b:List (List Int)} (hl:a.length ≤ Go.maxLen) (hr:∀ l ∈ a,l.length ≤ Go.maxLen):znG (a,b,()) = some (eqW (eqL tI) a b,()):=zeQ (p:=eqL tI) fun h=>by
  have:=zar (B:=fun k0=>zaR (zgX K0 k0) k0) ([]:List Int) (eqL tI) (fun i=>(a,b,i)) hl h (fun k i hi=>by
    simp only [zaR]
    rw [ltT hi,zi hi,zi (by omega),Int.toNat_natCast]
    simp only [cond_true]
    rw [zrG (a.getD i []) (b.getD i []) (eqI tI)]
    by_cases hm:(a.getD i []).length = (b.getD i []).length
    · rw [decide_eq_true hm,cond_true]
      have hz:(List.zip (a.getD i []) (b.getD i [])).length = (a.getD i []).length:=by rw [List.length_zip]; omega
      have:=jA (B:=fun k1=>zd8 k k1) (l:=List.zip (a.getD i []) (b.getD i [])) ((0:Int),(0:Int)) (p:=fun q=>q.1 == q.2) (fin:=k (a,b,wI (i + 1))) (bad:=some (false,())) (fun j=>(a,b,(i:Int),j)) (by rw [hz]; exact hr _ (zV hi)) (fun k1 j x hj hx _=>by
        rw [hz] at hj
        rw [zxO _ _ j hj (by omega)] at hx
        subst hx
        simp only [zd8]
        rw [zi hi,zi hi,Int.toNat_natCast,ltT hj,zi hj,zi (by omega),zi (by omega),Int.toNat_natCast]
        simp only [cond_true]
        exact zNX _ _ _ _) (fun k1=>by
        simp only [zd8]
        rw [hz,zi hi,Int.toNat_natCast,ltF]; rfl)
      refine Eq.trans this ?_
      unfold eqL
      rw [decide_eq_true hm,Bool.true_and]
      rfl
    · have e:eqL tI (a.getD i []) (b.getD i []) = false:=zrH hm
      rw [decide_eq_false hm,e]; rfl) (fin:=true) (fun k=>by simp only [zaR]; rw [ltF]; rfl)
  rw [Bool.and_true] at this; exact this
theorem zHK {a b:zb} (h:zNY a):ql (a,b,()) = some (zFf a b,()):=by
  rw [zA]
  simp only [ql,zj3]
  rw [zHJ h.ranks h.rank,zHD h.orders,zHE h.entries]
  simp only [Option.bind_some]
  rw [zrG a.2.1 b.2.1 zfP,zrG a.2.2.2.2.2.1 b.2.2.2.2.2.1 (eqI tI)]
  have key:a.2.1.length = b.2.1.length→a.2.2.2.2.2.1.length = b.2.2.2.2.2.1.length→zk7 K0 (0,a,b) = some (eqW zfP a.2.1 b.2.1 && eqL tI a.2.2.2.2.2.1 b.2.2.2.2.2.1,()):=fun h1 h2=>by
    have l1:=zar (B:=zey) (0:Int) (eqI tI) (fun i=>(i,a,b)) h.seats h2 (fun k i hi=>by
      simp only [zey]
      rw [ltT hi,zi hi,zi (by omega),zE,zE]
      simp only [cond_true]
      exact zNX _ _ _ _) (fin:=true) (fun k=>by simp only [zey]; rw [ltF]; rfl)
    rw [Bool.and_true] at l1
    exact zar (B:=fun k0=>zaV (zg8 K0) k0) za zfP (fun i=>(i,a,b)) h.shelves h1 (fun k i hi=>by
      simp only [zaV]
      rw [ltT hi,zi hi,zi (by omega),zE,zE,zwA (h.shelf _ (zV hi))]; rfl) (fun k=>by simp only [zaV]; rw [ltF]; exact l1)
  unfold zFf
  have e0:(a.1 != b.1) = !(a.1 == b.1):=rfl
  rw [e0]
  by_cases h1:a.2.1.length = b.2.1.length
  · by_cases h2:a.2.2.2.2.2.1.length = b.2.2.2.2.2.1.length
    · rw [key h1 h2,decide_eq_true h1,decide_eq_true h2]
      generalize eqW zfP a.2.1 b.2.1 = c1
      generalize eqW (eqL tI) a.2.2.1 b.2.2.1 = c2
      generalize eqL zr a.2.2.2.1 b.2.2.2.1 = c3
      generalize eqL zv a.2.2.2.2.1 b.2.2.2.2.1 = c4
      generalize eqL tI a.2.2.2.2.2.1 b.2.2.2.2.2.1 = c5
      generalize (a.1 == b.1) = c6
      grind
    · have e:eqL tI a.2.2.2.2.2.1 b.2.2.2.2.2.1 = false:=zrH h2
      rw [decide_eq_false h2,e]
      grind
  · have e:eqW zfP a.2.1 b.2.1 = false:=zrH h1
    rw [decide_eq_false h1,e]
    grind
theorem vK {r:zf} {s:zb} (h:qN r s = true):qZ r = true ∧ zgE r s = true ∧ zhm r s = true:=by
  simp only [qN,Bool.and_eq_true] at h
  exact ⟨h.1,h.2.1,h.2.2.1⟩
theorem znn:∀ {τ:Ty},τ.eqIn = true→∀ x:τ.I,eqI τ x x = true:=by
  intro τ
  induction τ with
  | unit=>intro _ _; rfl
  | bool=>intro _ x; exact beq_self_eq_true x
  | int k=>intro _ x; exact beq_self_eq_true (α:=Int) x
  | str=>intro _ x; exact beq_self_eq_true _
  | pair a b iha ihb =>
    intro h x
    simp only [Ty.eqIn,Bool.and_eq_true] at h
    simp only [eqI,iha h.1,ihb h.2,cond_true]
  | st a ih=>intro h x; exact ih h x
  | arr n a ih =>
    intro h x
    simp only [eqI,List.all_eq_true]
    intro p hp
    have:p.1 = p.2:=by
      obtain ⟨i,hi,rfl⟩:=List.mem_iff_getElem.1 hp
      rw [List.getElem_zip]
    rw [this]
    exact ih h _
  | _=>intro h; cases h
theorem zyL {α:Type} {p:α→α→Bool} (h:∀ x,p x x = true) (l:List α):eqW p l l = true:=by
  simp only [eqW,decide_true,Bool.true_and,List.all_eq_true]
  intro q hq
  have:q.1 = q.2:=by
    obtain ⟨i,hi,rfl⟩:=List.mem_iff_getElem.1 hq
    rw [List.getElem_zip]
  rw [this]; exact h _
theorem zby {τ:Ty} (h:τ.eqIn = true) (l:List τ.I):eqL τ l l = true:=zyL (znn h) l
theorem zHL (x:zl):zfP x x = true:=by
  simp only [zfP,Bool.and_eq_true]
  exact ⟨zby (τ:=qk) rfl _,zby (τ:=zT) rfl _,zby (τ:=zG) rfl _,zby (τ:=zX) rfl _,zby (τ:=zw) rfl _,zby (τ:=.arr 4 tU) rfl _,zby (τ:=zM) rfl _,znn (τ:=.arr 4 tU) rfl _,znn (τ:=.arr 4 tU) rfl _⟩
theorem zK0 (s:zb):zFf s s = true:=by
  simp only [zFf,Bool.and_eq_true]
  exact ⟨beq_self_eq_true (α:=Int) _,zyL zHL _,zyL (zby (τ:=tI) rfl) _,zby (τ:=zr) rfl _,zby (τ:=zv) rfl _,zby (τ:=tI) rfl _⟩
theorem zJm {r:zf} {s:zb} (h:qN r s = true) {c:Nat} (hc:c < 4):∃ n,zgf s c = (n,0,()) ∧ zkv s c = (n,0,()) ∧ n ≤ M62:=by
  simp only [qN,Bool.and_eq_true,qP] at h
  have h1:=h.2.2.2.2 c (Nat.zero_le _) (by omega)
  simp only [zkx,Bool.and_eq_true,beq_iff_eq] at h1
  obtain ⟨h2,h3,h4⟩:=h1
  have hck:zY (c:Int) = true:=by simp only [zY,decide_eq_true_eq]; omega
  have hle:(zgf s c).2.1 = 0→(zgf s c).1 ≤ M62:=by
    unfold zgf
    rw [hck,cond_true]
    intro h
    by_cases hb:zD (s.2.2.2.1.map (qy c)) + zD (s.2.1.map (qf c)) > M62
    · rw [jw hb] at h; cases h
    · rw [ye (by omega)]; show _ ≤ M62; omega
  have h5:=hle h2
  rcases e1:zgf s c with ⟨a,b,⟨⟩⟩
  rcases e2:zkv s c with ⟨a',b',⟨⟩⟩
  rw [e1] at h2 h4 h5
  rw [e2] at h3 h4
  simp only at h2 h3 h4 h5
  subst h2; subst h3; subst h4
  exact ⟨a,rfl,rfl,h5⟩
end Go.Proofs.YtlklokhlgcfcdaaGreatDoor
end
section
namespace Go.Proofs.YtlklokhlgcfcdaaGreatDoor
open Go.Ev
structure zvQ (x:zl):Prop where
  rooms:x.1.length * 24 ≤ 140737488355328
  exits:x.2.1.length * 48 ≤ 140737488355328
  items:x.2.2.1.length * 56 ≤ 140737488355328
  mails:x.2.2.2.1.length * 48 ≤ 140737488355328
  trades:x.2.2.2.2.1.length * 72 ≤ 140737488355328
  purses:x.2.2.2.2.2.1.length * 32 ≤ 140737488355328
  places:x.2.2.2.2.2.2.1.length * 16 ≤ 140737488355328
structure zas (s:zb):Prop where
  shelves:s.2.1.length * 232 ≤ 140737488355328
  ranks:s.2.2.1.length * 24 ≤ 140737488355328
  orders:s.2.2.2.1.length * 80 ≤ 140737488355328
  entries:s.2.2.2.2.1.length * 80 ≤ 140737488355328
  seats:s.2.2.2.2.2.1.length * 8 ≤ 140737488355328
  shelf:∀ x ∈ s.2.1,zvQ x
  rank:∀ l ∈ s.2.2.1,l.length * 8 ≤ 140737488355328
theorem zHM {α:Type} {l:List α} {i:Nat} {d:α} (h:i < l.length):List.set l i (l.getD i d) = l:=by
  rw [List.getD_eq_getElem?_getD,List.getElem?_eq_getElem h]
  exact List.set_getElem_self h
theorem jV {s:zb} (h:zas s):qA (s,()) = some (s,()):=by
  have hmm:140737488355328 ≤ Go.maxLen:=by unfold Go.maxLen; omega
  have h1:=h.shelves
  have h2:=h.ranks
  have h3:=h.orders
  have h4:=h.entries
  have h5:=h.seats
  have l1:zci K0 ((s.2.1.length:Int),0,s.1,0,s.2.1,0,s.2.2.1,s.2.2.1.length,s.2.2.2.1,s.2.2.2.2.1,s.2.2.2.2.2.1,[],0,[],0,[],[],[]) = some (s,()) :=
    zfH (α:=Unit) (B:=zch) (len:=s.2.1.length) (by omega) (fun i _=>((s.2.1.length:Int),i,s.1,0,s.2.1,i.toNat,s.2.2.1,s.2.2.1.length,s.2.2.2.1,s.2.2.2.2.1,s.2.2.2.2.2.1,[],0,[],0,[],[],[])) (fun _ _=>some (s,())) (fun _ _=>True) (fun k i _ hi _ hk=>by
      have hx:=h.shelf _ (zV (d:=za) hi)
      have e1:=hx.rooms
      have e2:=hx.exits
      have e3:=hx.items
      have e4:=hx.mails
      have e5:=hx.trades
      have e6:=hx.purses
      have e7:=hx.places
      have hk':=hk () trivial
      have hw:wI ((i:Int) + 1) = (i:Int) + 1:=zzx hi (by omega)
      simp only [zch]
      rw [ltT hi,zi hi,zE]
      simp only [Int.toNat_natCast,Nat.le_refl,decide_true,cond_true]
      rw [zG1 (by omega),zG2 (by omega),zG3 (by omega),zG4 (by omega),ztD (by omega),zKF (by omega),zIS (by omega)]
      simp only [Option.bind_some]
      rw [zi hi]
      refine Eq.trans ?_ hk'
      have hs:List.set s.2.1 i (s.2.1.getD i za) = s.2.1:=zHM hi
      have ht:(wI ((i:Int) + 1)).toNat = i + 1:=by rw [hw]; omega
      rw [ht]
      exact congrArg (fun l=>k ((s.2.1.length:Int),wI ((i:Int) + 1),s.1,0,l,i + 1,s.2.2.1,s.2.2.1.length,s.2.2.2.1,s.2.2.2.2.1,s.2.2.2.2.2.1,[],0,[],0,[],[],[])) hs) (fun k _ _=>by
      simp only [zch]
      rw [ltF]
      simp only [Int.toNat_natCast,decide_true,cond_true,cond_false]) () trivial
  have l0:zjJ K0 ((s.2.2.1.length:Int),0,s.1,s.2.1,0,s.2.2.1,0,s.2.2.2.1,s.2.2.2.2.1,s.2.2.2.2.2.1,[],0,[],0,[],[],[]) = some (s,()) :=
    zfH (α:=Unit) (B:=fun k0=>zab (zci K0) k0) (len:=s.2.2.1.length) (by omega) (fun i _=>((s.2.2.1.length:Int),i,s.1,s.2.1,0,s.2.2.1,i.toNat,s.2.2.2.1,s.2.2.2.2.1,s.2.2.2.2.2.1,[],0,[],0,[],[],[])) (fun _ _=>some (s,())) (fun _ _=>True) (fun k i _ hi _ hk=>by
      have hx:=h.rank _ (zV (d:=([]:List Int)) hi)
      have hk':=hk () trivial
      have hw:wI ((i:Int) + 1) = (i:Int) + 1:=zzx hi (by omega)
      simp only [zab]
      rw [ltT hi,zi hi]
      simp only [Int.toNat_natCast,Nat.le_refl,decide_true,cond_true]
      rw [zxm (by omega)]
      simp only [Option.bind_some]
      rw [zi hi]
      refine Eq.trans ?_ hk'
      have hs:List.set s.2.2.1 i (s.2.2.1.getD i []) = s.2.2.1:=zHM hi
      have ht:(wI ((i:Int) + 1)).toNat = i + 1:=by rw [hw]; omega
      rw [ht,hs]) (fun k _ _=>by
      simp only [zab]
      rw [ltF,zEy (by omega)]
      simp only [Int.toNat_natCast,Option.bind_some,cond_false]
      exact l1) () trivial
  simp only [qA,zil]
  rw [ztC (by omega),zEx (by omega),zxm (by omega),zG0 (by omega)]
  simp only [Option.bind_some]
  exact l0
theorem znh:∀ {l:List Int} {i:Nat},(∀ x ∈ l,0 ≤ x)→i < l.length→l.getD i 0 ≤ zD l
  | [],i,_,hi=>by cases hi
  | x :: l,0,h,_=>by
    have:=zot (l:=l) fun y hy=>h y (by simp [hy])
    show x ≤ x + zD l; omega
  | x :: l,i + 1,h,hi=>by
    have h1:=h x (by simp)
    have h2:=znh (l:=l) (i:=i) (fun y hy=>h y (by simp [hy])) (by simpa using hi)
    show l.getD i 0 ≤ x + zD l; omega
theorem zyM:∀ {l:List Int} {i j:Nat},(∀ x ∈ l,0 ≤ x)→i < l.length→j < l.length→i ≠ j→l.getD i 0 + l.getD j 0 ≤ zD l
  | [],i,_,_,hi,_,_=>by cases hi
  | x :: l,0,0,_,_,_,hij=>absurd rfl hij
  | x :: l,0,j + 1,h,_,hj,_=>by
    have:=znh (l:=l) (i:=j) (fun y hy=>h y (by simp [hy])) (by simpa using hj)
    show x + l.getD j 0 ≤ x + zD l; omega
  | x :: l,i + 1,0,h,hi,_,_=>by
    have:=znh (l:=l) (i:=i) (fun y hy=>h y (by simp [hy])) (by simpa using hi)
    show l.getD i 0 + x ≤ x + zD l; omega
  | x :: l,i + 1,j + 1,h,hi,hj,hij=>by
    have h1:=h x (by simp)
    have:=zyM (l:=l) (i:=i) (j:=j) (fun y hy=>h y (by simp [hy])) (by simpa using hi) (by simpa using hj) (by omega)
    show l.getD i 0 + l.getD j 0 ≤ x + zD l; omega
theorem zbz {α:Type} {f:α→Int} {l:List α} {i:Nat} (d:α) (h:i < l.length):(l.map f).getD i 0 = f (l.getD i d):=by
  rw [List.getD_eq_getElem?_getD,List.getD_eq_getElem?_getD,List.getElem?_map,List.getElem?_eq_getElem h]; rfl
theorem zxt:∀ {a b:List Int} {i:Nat} {n:Int},a.length = b.length→i < a.length→(∀ j,j < a.length→a.getD j 0 ≤ b.getD j 0)→a.getD i 0 + n ≤ b.getD i 0→zD a + n ≤ zD b
  | [],_,i,_,_,hi,_,_=>by cases hi
  | x :: a,[],_,_,hl,_,_,_=>by cases hl
  | x :: a,y :: b,i,n,hl,hi,h,hn=>by
    have hl':a.length = b.length:=by simpa using hl
    have hall:∀ j,j < a.length→a.getD j 0 ≤ b.getD j 0:=fun j hj=>h (j + 1) (by simpa using hj)
    have key:zD a ≤ zD b:=isum_le hl' hall
    cases i with
    | zero =>
      have hn':x + n ≤ y:=hn
      show x + zD a + n ≤ y + zD b; omega
    | succ i =>
      have h0:x ≤ y:=h 0 (by simp)
      have:=zxt (a:=a) (b:=b) (i:=i) (n:=n) hl' (by simpa using hi) hall hn
      show x + zD a + n ≤ y + zD b; omega
where isum_le:∀ {a b:List Int},a.length = b.length→(∀ j,j < a.length→a.getD j 0 ≤ b.getD j 0)→zD a ≤ zD b
  | [],[],_,_=>Int.le_refl _
  | x :: a,y :: b,hl,h=>by
    have:=isum_le (a:=a) (b:=b) (by simpa using hl) fun j hj=>h (j + 1) (by simpa using hj)
    have h0:x ≤ y:=h 0 (by simp)
    show x + zD a ≤ y + zD b; omega
  | [],_ :: _,hl,_=>by cases hl
  | _ :: _,[],hl,_=>by cases hl
def zrI (r:zf):Prop:=∀ q ∈ r.2.2.2.2.1,qu q.2.2.2.2.2.1
theorem zDg:∀ {l:List zaw} {n:Int},n < U64→(∀ q ∈ l,qu q.2.2.2.2.2.1)→zhe n l = true→zD (l.map fun q=>q.2.2.2.2.2.1) ≤ n ∨ l = []
  | [],_,_,_,_=>.inr rfl
  | q :: l,n,hn,hp,h=>by
    left
    simp only [zhe,Bool.and_eq_true,decide_eq_true_eq] at h
    obtain ⟨-,h1,h2⟩:=h
    have hq:=hp q (by simp)
    unfold qu U64 at hq
    unfold U64 at hn
    have hw:wU (n - q.2.2.2.2.2.1) = n - q.2.2.2.2.2.1:=zdR (by omega)
    rw [hw] at h2
    show q.2.2.2.2.2.1 + zD _ ≤ n
    rcases zDg (l:=l) (n:=n - q.2.2.2.2.2.1) (by unfold U64; omega) (fun y hy=>hp y (by simp [hy])) h2 with h3 | h3
    · omega
    · subst h3; simp only [List.map_nil,zD]; omega
end Go.Proofs.YtlklokhlgcfcdaaGreatDoor
end
section
namespace Go.Proofs.YtlklokhlgcfcdaaGreatDoor
open Go.Ev
abbrev zdj (s:zb) (i w:Int):List Int:=List.getD (ix za s.2.1 i).2.2.2.2.2.1 (Int.toNat w) (ze (.arr 4 tU))
abbrev zO (s:zb) (i w c:Int):Int:=List.getD (zdj s i w) (Int.toNat c) (0:Int)
abbrev jH (s:zb) (i c:Int):Int:=List.getD (ix za s.2.1 i).2.2.2.2.2.2.2.1 (Int.toNat c) (0:Int)
abbrev yW (r:zf) (i:Int):Int:=(ix qe r.2.2.2.2.1 i).2.2.2.2.2.1
structure At (s:zb) (i w:Int):Prop where
  hi:0 ≤ i ∧ i < (s.2.1.length:Int)
  hw:0 ≤ w ∧ w < (((ix za s.2.1 i).2.2.2.2.2.1.length:Nat):Int)
theorem zNr {n a:Int} (h:zkt n = (a,0,())):n = a ∧ n ≤ M62:=by
  by_cases hb:n > M62
  · rw [jw hb] at h; cases h
  · rw [ye (by omega)] at h
    injection h with h1 h2
    exact ⟨h1,by omega⟩
theorem zMQ {c:Int} (hc:zY c = true):∃ k:Nat,c = (k:Int) ∧ k < 4:=by
  have:=vI hc
  exact ⟨c.toNat,by omega,by omega⟩
theorem zyN {r:zf} {s:zb} (h:qN r s = true) (hs:qm s) {c:Int} (hc:zY c = true):zD (s.2.2.2.1.map (qy c)) + zD (s.2.1.map (qf c)) ≤ M62 ∧ zD (s.2.2.2.1.map (qy c)) + zD (s.2.1.map (qf c)) ≤ zgI (fun x=>x.2.2.2.2.2.2.2.1) s c:=by
  obtain ⟨k,rfl,hk⟩:=zMQ hc
  obtain ⟨n,h1,h2,h3⟩:=zJm h hk
  unfold zgf at h1
  rw [hc,cond_true] at h1
  obtain ⟨h4,h5⟩:=zNr h1
  refine ⟨h5,?_⟩
  unfold zkv at h2
  rw [hc,cond_true] at h2
  have p2:=zow (f:=fun x=>x.2.2.2.2.2.2.2.2.1) (fun x hx=>(hs.shelves x hx).spent) (k:Int)
  generalize zgI (fun x=>x.2.2.2.2.2.2.2.1) s (k:Int) = a at *
  generalize zgI (fun x=>x.2.2.2.2.2.2.2.2.1) s (k:Int) = b at *
  by_cases c1:a > M62
  · rw [decide_eq_true c1] at h2; cases h2
  · rw [decide_eq_false c1] at h2
    by_cases c2:b > M62
    · rw [decide_eq_true c2] at h2; cases h2
    · rw [decide_eq_false c2] at h2
      simp only [cond_false] at h2
      unfold zgH at h2
      by_cases c3:a < b
      · rw [decide_eq_true c3] at h2; cases h2
      · rw [decide_eq_false c3] at h2
        injection h2 with h6 h7
        omega
theorem zsx {s:zb} (hs:qm s) (c:Int):0 ≤ zD (s.2.2.2.1.map (qy c)):=qX fun y hy=>(zfE (hs.orders y hy) c).1
theorem zdk {s:zb} {i:Int} (hi:0 ≤ i ∧ i < (s.2.1.length:Int)):ix za s.2.1 i ∈ s.2.1:=zV (by omega)
theorem zyO {s:zb} (hs:qm s) {i c:Int} (hi:0 ≤ i ∧ i < (s.2.1.length:Int)):qf c (ix za s.2.1 i) ≤ zD (s.2.1.map (qf c)):=by
  have h1:=znh (l:=s.2.1.map (qf c)) (i:=i.toNat) (fun x hx=>by
    obtain ⟨y,hy,rfl⟩:=List.mem_map.1 hx
    exact zbT (hs.shelves y hy) c) (by rw [List.length_map]; omega)
  rw [zbz za (by omega)] at h1
  exact h1
theorem zsy {x:zl} (hx:znd x) {w c:Int} (hw:0 ≤ w ∧ w < ((x.2.2.2.2.2.1.length:Nat):Int)):(x.2.2.2.2.2.1.getD w.toNat (ze (.arr 4 tU))).getD c.toNat 0 ≤ qf c x:=by
  have h1:=znh (l:=x.2.2.2.2.2.1.map (jG c)) (i:=w.toNat) (fun y hy=>by
    obtain ⟨a,ha,rfl⟩:=List.mem_map.1 hy
    exact (vw (hx.purses a ha) _).1) (by rw [List.length_map]; omega)
  rw [zbz (ze (.arr 4 tU)) (by omega)] at h1
  have:=zku hx c
  unfold qf
  unfold jG at h1 ⊢
  omega
theorem zBb {s:zb} (hs:qm s) {i w:Int} (a:At s i w) (c:Int):qu (zO s i w c):=vw ((hs.shelves _ (zdk a.hi)).purses _ (zV (by have:=a.hw; omega))) _
theorem zwd {r:zf} {s:zb} (h:qN r s = true) (hs:qm s) {i w c:Int} (hc:zY c = true) (a:At s i w):0 ≤ zO s i w c ∧ zO s i w c ≤ M62:=by
  have h0:=(zBb hs a c).1
  have h1:=(zyN h hs hc).1
  have h2:=zsx hs c
  have h3:=zyO hs (c:=c) a.hi
  have h4:=zsy (hs.shelves _ (zdk a.hi)) (c:=c) a.hw
  refine ⟨h0,?_⟩
  show _ ≤ M62
  have h5:zO s i w c ≤ qf c (ix za s.2.1 i):=h4
  omega
theorem zMR {r:zf} {s:zb} (h:qN r s = true) (hs:qm s) {i w j v c:Int} (hc:zY c = true) (a:At s i w) (b:At s j v) (hne:¬ (i = j ∧ w = v)):zO s i w c + zO s j v c ≤ M62:=by
  have h1:=(zyN h hs hc).1
  have h2:=zsx hs c
  have h4:zO s i w c ≤ qf c (ix za s.2.1 i):=zsy (hs.shelves _ (zdk a.hi)) (c:=c) a.hw
  have h5:zO s j v c ≤ qf c (ix za s.2.1 j):=zsy (hs.shelves _ (zdk b.hi)) (c:=c) b.hw
  have ahi:=a.hi
  have bhi:=b.hi
  by_cases hij:i = j
  · subst hij
    have hwv:w ≠ v:=fun e=>hne ⟨rfl,e⟩
    have h3:=zyO hs (c:=c) a.hi
    have hx:=hs.shelves _ (zdk a.hi)
    have ahw:=a.hw
    have bhw:=b.hw
    have h6:=zyM (l:=(ix za s.2.1 i).2.2.2.2.2.1.map (jG c)) (i:=w.toNat) (j:=v.toNat) (fun y hy=>by
      obtain ⟨q,hq,rfl⟩:=List.mem_map.1 hy
      exact (vw (hx.purses q hq) _).1) (by rw [List.length_map]; omega) (by rw [List.length_map]; omega) (by omega)
    rw [zbz (ze (.arr 4 tU)) (by omega),zbz (ze (.arr 4 tU)) (by omega)] at h6
    have h7:=zku hx c
    have h8:zO s i w c + zO s i v c ≤ qf c (ix za s.2.1 i):=by
      unfold qf
      have h9:zO s i w c + zO s i v c ≤ zD ((ix za s.2.1 i).2.2.2.2.2.1.map (jG c)):=h6
      omega
    omega
  · have h6:=zyM (l:=s.2.1.map (qf c)) (i:=i.toNat) (j:=j.toNat) (fun x hx=>by
      obtain ⟨y,hy,rfl⟩:=List.mem_map.1 hx
      exact zbT (hs.shelves y hy) c) (by rw [List.length_map]; omega) (by rw [List.length_map]; omega) (by omega)
    rw [zbz za (by omega),zbz za (by omega)] at h6
    have h7:qf c (ix za s.2.1 i) + qf c (ix za s.2.1 j) ≤ zD (s.2.1.map (qf c)):=h6
    omega
theorem zJN {s:zb} (hs:qm s) {i:Int} (hi:0 ≤ i ∧ i < (s.2.1.length:Int)) (c:Int):qu (jH s i c):=vw (hs.shelves _ (zdk hi)).made _
theorem zHN {r:zf} {s:zb} (h:qN r s = true) {i c:Int} (hc:zY c = true) (hi:0 ≤ i ∧ i < (s.2.1.length:Int)):jH s i c ≤ yW r i:=by
  simp only [qN,Bool.and_eq_true,qP] at h
  have:=(h.2.2.2.1 i.toNat (Nat.zero_le _) (by omega)).2 c.toNat (Nat.zero_le _) (by have:=vI hc; omega)
  simp only [zkw,Bool.not_eq_true',decide_eq_false_iff_not] at this
  exact Int.not_lt.1 this
theorem zpP {r:zf} {s:zb} (h:qN r s = true) (hs:qm s) (hq:zrI r) {i w c n:Int} (hc:zY c = true) (a:At s i w) (hn:jH s i c + n ≤ yW r i):zO s i w c + n ≤ M62 ∧ 0 ≤ yW r i ∧ yW r i ≤ M62:=by
  obtain ⟨hb,hz,-⟩:=vK h
  have ok:=jS hb
  have sz:=zeO hb hz
  have hl:=ok.quotas
  have hsl:=sz.shelves
  have h1:=(zyN h hs hc).2
  have h2:=zsx hs c
  have h3:=zyO hs (c:=c) a.hi
  have h4:zO s i w c ≤ qf c (ix za s.2.1 i):=zsy (hs.shelves _ (zdk a.hi)) (c:=c) a.hw
  have ahi:=a.hi
  have hcaps:zD (r.2.2.2.2.1.map fun q=>q.2.2.2.2.2.1) ≤ M62:=by
    have hb':=hb
    simp only [qZ,zfM,Bool.and_eq_true,decide_eq_true_eq] at hb'
    obtain ⟨-,-,-,-,⟨-,h6,-,h7⟩,-⟩:=hb'
    rcases zDg (by unfold U64; omega) hq h7 with h8 | h8
    · exact h8
    · rw [h8] at h6; cases h6
  have hcap:0 ≤ yW r i ∧ yW r i ≤ M62:=by
    have h6:=znh (l:=r.2.2.2.2.1.map fun q=>q.2.2.2.2.2.1) (i:=i.toNat) (fun x hx=>by
      obtain ⟨y,hy,rfl⟩:=List.mem_map.1 hx
      exact (hq y hy).1) (by rw [List.length_map]; omega)
    rw [zbz qe (by omega)] at h6
    have h7:yW r i ≤ zD (r.2.2.2.2.1.map fun q=>q.2.2.2.2.2.1):=h6
    exact ⟨(hq _ (zV (by omega))).1,by omega⟩
  refine ⟨?_,hcap⟩
  have h6:=zxt (a:=s.2.1.map fun x=>jG c x.2.2.2.2.2.2.2.1) (b:=r.2.2.2.2.1.map fun q=>q.2.2.2.2.2.1) (i:=i.toNat) (n:=n) (by rw [List.length_map,List.length_map]; omega) (by rw [List.length_map]; omega) (fun j hj=>by
    rw [List.length_map] at hj
    rw [zbz za hj,zbz qe (by omega)]
    have:=zHN h hc (i:=(j:Int)) (by omega)
    exact this) (by
    rw [zbz za (by omega),zbz qe (by omega)]
    exact hn)
  have h7:zgI (fun x=>x.2.2.2.2.2.2.2.1) s c + n ≤ zD (r.2.2.2.2.1.map fun q=>q.2.2.2.2.2.1):=h6
  omega
theorem zBc {r:zf} {s:zb} (h:qN r s = true) {i w:Int} (hi:jc r i = true) (hw:qv r w = true):At s i w:=by
  obtain ⟨hb,hz,-⟩:=vK h
  have sz:=zeO hb hz
  have hsl:=sz.shelves
  simp only [jc,qv,decide_eq_true_eq] at hi hw
  have h1:0 ≤ i ∧ i < (s.2.1.length:Int):=by omega
  have h2:=(sz.shelf _ (zdk h1)).2.2.2.2.2.1
  exact ⟨h1,by omega⟩
theorem zHO {r:zf} (hb:qZ r = true) {x:pMe} (hm:yV r x = true):jc r x.2.1 = true:=by
  simp only [qZ,zlX,Bool.and_eq_true,decide_eq_true_eq,List.all_eq_true] at hb
  simp only [yV,Bool.and_eq_true,decide_eq_true_eq,beq_iff_eq] at hm
  have:=hb.2.1.2 _ (zV (d:=(0:Int)) (i:=x.1.toNat) (by omega))
  rw [← hm.2.1] at this
  simp only [jc,decide_eq_true_eq]
  exact this
theorem zlC {r:zf} {s:zb} (h:qN r s = true) {x:pMe} (hm:yV r x = true):At s x.2.1 x.2.2.1:=by
  have hw:qv r x.2.2.1 = true:=by
    simp only [yV,Bool.and_eq_true] at hm; exact hm.2.2
  exact zBc h (zHO (vK h).1 hm) hw
end Go.Proofs.YtlklokhlgcfcdaaGreatDoor
end
section
namespace Go.Proofs.YtlklokhlgcfcdaaGreatDoor
open Go.Ev
theorem bnd {α β:Type} {x:Option α} {a:α} {f:α→Option β} (h:x = some a):Option.bind x f = f a:=by rw [h]; rfl
theorem cT {α:Type} {b:Bool} {x y:α} (h:b = true):cond b x y = x:=by rw [h]; rfl
theorem cF {α:Type} {b:Bool} {x y:α} (h:b = false):cond b x y = y:=by rw [h]; rfl
theorem geF {n:Nat} {i:Int} {ρ:Type} {x y:ρ} (h:0 ≤ i ∧ i < (n:Int)):cond (decide (n ≤ Int.toNat i)) x y = y:=cF (decide_eq_false (by omega))
abbrev upd (s:zb) (i:Int) (h:zl):zb:=u1 s (List.set s.2.1 (Int.toNat i) h)
abbrev zmC (s:zb) (i w c v:Int):zb:=upd s i (u5 (ix za s.2.1 i) (List.set (ix za s.2.1 i).2.2.2.2.2.1 (Int.toNat w) (List.set (zdj s i w) (Int.toNat c) v)))
theorem zJn {α:Type} {l:List α} {i:Nat} {x d:α} (h:i < l.length):(List.set l i x).getD i d = x:=by
  rw [List.getD_eq_getElem?_getD,List.getElem?_set_self h]; rfl
theorem getD_set_ne {α:Type} {l:List α} {i j:Nat} {x d:α} (h:i ≠ j):(List.set l i x).getD j d = l.getD j d:=by
  rw [List.getD_eq_getElem?_getD,List.getElem?_set_ne h,List.getD_eq_getElem?_getD]
theorem zrJ {s:zb} {i:Int} {h:zl} (hi:0 ≤ i ∧ i < (s.2.1.length:Int)):ix za (upd s i h).2.1 i = h:=zJn (by omega)
theorem zvR {s:zb} {i j:Int} {h:zl} (hi:0 ≤ i) (hj:0 ≤ j) (hne:i ≠ j):ix za (upd s i h).2.1 j = ix za s.2.1 j:=getD_set_ne (by omega)
theorem zHP {s:zb} {i j v:Int} {h:zl} (hi:0 ≤ i ∧ i < (s.2.1.length:Int)) (hp:h.2.2.2.2.2.1.length = (ix za s.2.1 i).2.2.2.2.2.1.length) (a:At s j v):At (upd s i h) j v:=by
  refine ⟨by have:=a.hi; show 0 ≤ j ∧ j < (((List.set s.2.1 i.toNat h).length:Nat):Int); rw [List.length_set]; exact this,?_⟩
  by_cases hij:i = j
  · subst hij
    rw [zrJ hi,hp]; exact a.hw
  · rw [zvR hi.1 a.hi.1 hij]; exact a.hw
theorem zrK {s:zb} {i w c v j u:Int} (hi:0 ≤ i ∧ i < (s.2.1.length:Int)) (a:At s j u):At (zmC s i w c v) j u:=zHP hi (by show (List.set _ _ _).length = _; rw [List.length_set]) a
theorem zMb {s:zb} {i w c v j u c':Int} (a:At s i w) (b:At s j u) (hne:¬ (i = j ∧ w = u)):zO (zmC s i w c v) j u c' = zO s j u c':=by
  by_cases hij:i = j
  · subst hij
    have hwu:w ≠ u:=fun e=>hne ⟨rfl,e⟩
    have e:zdj (zmC s i w c v) i u = zdj s i u:=by
      show List.getD (ix za (upd s i _).2.1 i).2.2.2.2.2.1 _ _ = _
      rw [zrJ a.hi]
      exact getD_set_ne (by have:=a.hw; have:=b.hw; omega)
    show List.getD (zdj (zmC s i w c v) i u) _ _ = _
    rw [e]
  · have e:zdj (zmC s i w c v) j u = zdj s j u:=by
      show List.getD (ix za (upd s i _).2.1 j).2.2.2.2.2.1 _ _ = _
      rw [zvR a.hi.1 b.hi.1 hij]
    show List.getD (zdj (zmC s i w c v) j u) _ _ = _
    rw [e]
theorem zBd {s:zb} {i:Int} {h:zl} (hl:s.2.1.length ≤ lim) (hi:0 ≤ i ∧ i < (s.2.1.length:Int)):za8 (s,i,h,()) = some (upd s i h,()):=by
  simp only [za8]
  refine (cT (decide_eq_true (by simpa using hl))).trans ?_
  exact ixR hi
theorem zM1 {s:zb} {i w c n:Int} (hl:s.2.1.length ≤ lim) (hp:(ix za s.2.1 i).2.2.2.2.2.1.length ≤ lim) (a:At s i w) (hc:zY c = true) (hv:qu (zO s i w c + n)):zdy (s,i,w,c,n,()) = some (zmC s i w c (zO s i w c + n),()):=by
  have hw:wU (zO s i w c + n) = zO s i w c + n:=zdR hv
  have hc4:=vI hc
  simp only [zdy]
  refine (ixR a.hi).trans ?_
  refine (cT (decide_eq_true (by simpa using hp))).trans ?_
  refine (ixR (n:=List.length (ix za s.2.1 i).2.2.2.2.2.1) a.hw).trans ?_
  refine (ixR hc4).trans ?_
  refine (ixR (n:=List.length (ix za s.2.1 i).2.2.2.2.2.1) a.hw).trans ?_
  refine (ixR hc4).trans ?_
  refine (bnd (zBd hl a.hi)).trans ?_
  show some (upd s i (u5 (ix za s.2.1 i) (List.set (ix za s.2.1 i).2.2.2.2.2.1 (Int.toNat w) (List.set (zdj s i w) (Int.toNat c) (wU (zO s i w c + n))))),()) = _
  rw [hw]
theorem zNZ {s:zb} {i w c n:Int} (hl:s.2.1.length ≤ lim) (hp:(ix za s.2.1 i).2.2.2.2.2.1.length ≤ lim) (a:At s i w) (hc:zY c = true) (hv:qu (zO s i w c - n)):zjY (s,i,w,c,n,()) = some (zmC s i w c (zO s i w c - n),()):=by
  have hw:wU (zO s i w c - n) = zO s i w c - n:=zdR hv
  have hc4:=vI hc
  simp only [zjY]
  refine (ixR a.hi).trans ?_
  refine (cT (decide_eq_true (by simpa using hp))).trans ?_
  refine (ixR (n:=List.length (ix za s.2.1 i).2.2.2.2.2.1) a.hw).trans ?_
  refine (ixR hc4).trans ?_
  refine (ixR (n:=List.length (ix za s.2.1 i).2.2.2.2.2.1) a.hw).trans ?_
  refine (ixR hc4).trans ?_
  refine (bnd (zBd hl a.hi)).trans ?_
  show some (upd s i (u5 (ix za s.2.1 i) (List.set (ix za s.2.1 i).2.2.2.2.2.1 (Int.toNat w) (List.set (zdj s i w) (Int.toNat c) (wU (zO s i w c - n))))),()) = _
  rw [hw]
theorem zMS {a b:Int} (ha:qu a) (hb:qu b):za7 (a,b,()) = some (zgH a b):=by
  simp only [za7,extA,extB,zgH,cond_false]
  unfold qu U64 at *
  have h2:b ≤ a→(a - b) % 18446744073709551616 = a - b:=fun h=>by omega
  grind
theorem zHQ {row:List Int} {c n:Int} {by':Int × Int × Unit→Option (Int × Int × Unit)} {v:Int × Int × Unit} (hc:zY c = true) (h:by' (List.getD row c.toNat 0,n,()) = some v):zfs (row,c,n,some by',()) = bif v.2.1 != 0 then some ([0,0,0,0],v.2.1,()) else some (List.set row c.toNat v.1,0,()):=by
  have hc4:=vI hc
  simp only [zfs]
  refine (bnd (yc c)).trans ?_
  refine (cT hc).trans ?_
  refine (ixR hc4).trans ?_
  refine (bnd (a:=by') rfl).trans ?_
  refine (bnd h).trans ?_
  cases v.2.1 != 0 with
  | true=>rfl
  | false=>exact ixR hc4
theorem zN0 {row:List Int} {c n:Int} (hc:zY c = true) (ha:0 ≤ List.getD row c.toNat 0) (hn:qu n) (h:List.getD row c.toNat 0 + n ≤ M62):zdz (row,c,n,()) = some (List.set row c.toNat (List.getD row c.toNat 0 + n),0,()):=by
  have e:zfI (List.getD row c.toNat 0,n,()) = some (List.getD row c.toNat 0 + n,0,()):=by
    rw [zxo ha hn]; unfold zm3; rw [decide_eq_false (by omega)]; rfl
  simp only [zdz]
  rw [zHQ hc e]; rfl
theorem zN1 {row:List Int} {c n:Int} (hc:zY c = true) (ha:qu (List.getD row c.toNat 0)) (hn:qu n):zdA (row,c,n,()) = bif decide (List.getD row c.toNat 0 < n) then some ([0,0,0,0],6,()) else some (List.set row c.toNat (List.getD row c.toNat 0 - n),0,()):=by
  simp only [zdA]
  rw [zHQ hc (zMS ha hn)]
  unfold zgH
  cases decide (List.getD row c.toNat 0 < n) <;> rfl
def zeJ (e:Int):zb × Int × Unit:=((0,[],[],[],[],[],()),e,())
def zgJ (r:zf) (s:zb) (me:pMe) (c n:Int):Bool:=(qN r s && yV r me) && (zY c && decide (n > 0))
abbrev zgg (s:zb) (me:pMe) (c n:Int):zb:=zmC s me.2.1 me.2.2.1 c (zO s me.2.1 me.2.2.1 c - n)
abbrev ziC (s:zb) (me:pMe) (c n:Int):zb:=upd s me.2.1 (u7 (ix za s.2.1 me.2.1) (List.set (ix za s.2.1 me.2.1).2.2.2.2.2.2.2.1 (Int.toNat c) (jH s me.2.1 c + n)))
def zK1 (t:zb) (i w c n:Int):zb × Int × Unit:=(zmC t i w c (zO t i w c + n),0,())
def zpQ (r:zf) (s:zb) (me:pMe) (c n:Int):zb × Int × Unit:=bif (ix qn r.2.2.1 me.2.2.1).2.2.2.1 then bif decide (jH s me.2.1 c + n ≤ yW r me.2.1) then zK1 (ziC s me c n) me.2.1 me.2.2.1 c n else zeJ 8 else zeJ 5
def zpR (s:zb) (me:pMe) (c n:Int):zb × Int × Unit:=bif decide (zO s me.2.1 me.2.2.1 c < n) then zeJ 6 else (upd (zgg s me c n) me.2.1 (u8 (ix za (zgg s me c n).2.1 me.2.1) (List.set (ix za (zgg s me c n).2.1 me.2.1).2.2.2.2.2.2.2.2.1 (Int.toNat c) (wU (List.getD (ix za (zgg s me c n).2.1 me.2.1).2.2.2.2.2.2.2.2.1 (Int.toNat c) (0:Int) + n)))),0,())
def zlk (s:zb) (me:pMe) (i w c n:Int):zb × Int × Unit:=bif decide (zO s me.2.1 me.2.2.1 c < n) then zeJ 6 else zK1 (zgg s me c n) i w c n
def zpS (r:zf) (s:zb) (me:pMe) (i w c n:Int):zb × Int × Unit:=bif (i != me.2.1) && zmA r me.2.1 i then zlk s me i w c n else zeJ 5
def zyP (r:zf) (s:zb) (me:pMe) (k i w c n:Int):zb × Int × Unit :=
  bif zgJ r s me c n then bif k == 1 then zpQ r s me c n else bif k == 2 then zpR s me c n else bif k == 3 then (bif qv r w && w != me.2.2.1 then zlk s me me.2.1 w c n else zeJ 1) else (bif qv r w && jc r i then zpS r s me i w c n else zeJ 1) else zeJ 1
structure Ctx (r:zf) (s:zb) (me:pMe) (c n:Int):Prop where
  rs:qN r s = true
  im:yV r me = true
  hc:zY c = true
  pos:0 < n
theorem zrL {r:zf} {s:zb} {me:pMe} {c n:Int} (h:zgJ r s me c n = true):Ctx r s me c n:=by
  simp only [zgJ,Bool.and_eq_true,decide_eq_true_eq] at h
  exact ⟨h.1.1,h.1.2,h.2.1,h.2.2⟩
end Go.Proofs.YtlklokhlgcfcdaaGreatDoor
end
section
namespace Go.Proofs.YtlklokhlgcfcdaaGreatDoor
open Go.Ev
theorem zlD {r:zf} {s:zb} (hr:qg r) (hs:qm s) (me:pMe) (c n:Int):zdC (r,s,me,c,n,()) = some (zgJ r s me c n,()):=by
  rw [zA]
  simp only [zdC,zox hr hs,yc,Option.bind_some,zgJ]
  cases qN r s <;> cases yV r me <;> cases zY c <;> rfl
theorem zNs {r:zf} {s:zb} (hr:qg r) (hs:qm s) (me:pMe):yj (r,s,me,()) = bif qN r s && yV r me then some (zdj s me.2.1 me.2.2.1,0,()) else some ([0,0,0,0],1,()):=by
  simp only [yj,zox hr hs,Option.bind_some]
  cases h:qN r s && yV r me with
  | false=>rfl
  | true =>
    simp only [Bool.and_eq_true] at h
    have a:=zlC h.1 h.2
    exact (ixR a.hi).trans (ixR a.hw)
theorem zK2 {t:zb} {i w c n:Int} {k:List Int × Int × Unit→Option (zb × Int × Unit)} (a:At t i w) (hc:zY c = true) (h0:qu (zO t i w c)) (hn:qu n) :
    inR i ((List.length t.2.1):Int) (bif decide (List.length t.2.1 ≤ Int.toNat i) then none else inR w ((List.length (ix za t.2.1 i).2.2.2.2.2.1):Int) (Option.bind (zdA (zdj t i w,c,n,())) fun q=>inR i ((List.length t.2.1):Int) (bif decide (List.length t.2.1 ≤ Int.toNat i) then none else inR w ((List.length (ix za t.2.1 i).2.2.2.2.2.1):Int) (bif q.2.1 != 0 then some ((0,[],[],[],[],[],()),q.2.1,()) else k q)))) = bif decide (zO t i w c < n) then some (zeJ 6) else k (List.set (zdj t i w) c.toNat (zO t i w c - n),0,()):=by
  refine (ixR a.hi).trans ?_
  refine (geF a.hi).trans ?_
  refine (ixR a.hw).trans ?_
  rw [zN1 hc h0 hn]
  cases h:decide (zO t i w c < n) with
  | true =>
    refine (ixR a.hi).trans ?_
    refine (geF a.hi).trans ?_
    exact ixR a.hw
  | false =>
    refine (ixR a.hi).trans ?_
    refine (geF a.hi).trans ?_
    exact ixR a.hw
theorem zK3 {t:zb} {i w c n:Int} {m:Nat} {k:List Int × Int × Unit→Option (zb × Int × Unit)} (a:At t i w) (hm:i < (m:Int)) (hc:zY c = true) (h0:0 ≤ zO t i w c) (hn:qu n) (hle:zO t i w c + n ≤ M62) :
    inR i ((List.length t.2.1):Int) (bif decide (m ≤ Int.toNat i) then none else inR w ((List.length (ix za t.2.1 i).2.2.2.2.2.1):Int) (Option.bind (zdz (zdj t i w,c,n,())) fun q=>inR i ((List.length t.2.1):Int) (bif decide (m ≤ Int.toNat i) then none else inR w ((List.length (ix za t.2.1 i).2.2.2.2.2.1):Int) (bif q.2.1 != 0 then some ((0,[],[],[],[],[],()),q.2.1,()) else k q)))) = k (List.set (zdj t i w) c.toNat (zO t i w c + n),0,()):=by
  have hi:0 ≤ i ∧ i < (m:Int):=⟨a.hi.1,hm⟩
  refine (ixR a.hi).trans ?_
  refine (geF hi).trans ?_
  refine (ixR a.hw).trans ?_
  rw [zN0 hc h0 hn hle]
  refine (ixR a.hi).trans ?_
  refine (geF hi).trans ?_
  exact ixR a.hw
theorem zN2 {r:zf} {s:zb} (hr:qg r) (hs:qm s) (hf:zas s) {me:pMe} {c n:Int} (hn:qu n):zbv (r,s,me,c,n,()) = some (bif zgJ r s me c n then zpR s me c n else zeJ 1):=by
  simp only [zbv]
  refine (bnd (zlD hr hs me c n)).trans ?_
  cases h:zgJ r s me c n with
  | false=>rfl
  | true =>
    obtain ⟨rs,im,hc,pos⟩:=zrL h
    have a:=zlC rs im
    have hc4:=vI hc
    refine (bnd (jV hf)).trans ?_
    refine (zK2 (t:=s) (k:=fun q=>_) a hc (zBb hs a c) hn).trans ?_
    show _ = some (zpR s me c n)
    unfold zpR
    cases decide (zO s me.2.1 me.2.2.1 c < n) with
    | true=>rfl
    | false =>
      have b:At (zgg s me c n) me.2.1 me.2.2.1:=zrK a.hi a
      refine (ixR b.hi).trans ?_
      refine (ixR hc4).trans ?_
      refine (ixR b.hi).trans ?_
      refine (ixR hc4).trans ?_
      refine (cT (decide_eq_true (by rw [List.length_set,List.length_set]))).trans ?_
      exact cT (decide_eq_true trivial)
theorem zMT {r:zf} {s:zb} (hs:qm s) {me:pMe} {i w c n:Int} (x:Ctx r s me c n) (hn:qu n) (b:At s i w) (hne:¬ (me.2.1 = i ∧ me.2.2.1 = w)) (h:¬ zO s me.2.1 me.2.2.1 c < n):zO (zgg s me c n) i w c = zO s i w c ∧ 0 ≤ zO s i w c ∧ zO s i w c + n ≤ M62:=by
  have a:=zlC x.rs x.im
  have h1:=zMR x.rs hs x.hc a b hne
  have h2:=zwd x.rs hs x.hc b
  exact ⟨zMb a b hne,h2.1,by omega⟩
theorem zOc {r:zf} {s:zb} (hr:qg r) (hs:qm s) (hf:zas s) {me:pMe} {w c n:Int} (hn:qu n):zdD (r,s,me,w,c,n,()) = some (bif zgJ r s me c n then (bif qv r w && w != me.2.2.1 then zlk s me me.2.1 w c n else zeJ 1) else zeJ 1):=by
  simp only [zdD]
  refine (bnd (zlD hr hs me c n)).trans ?_
  cases h:zgJ r s me c n with
  | false=>rfl
  | true =>
    have x:=zrL h
    obtain ⟨rs,im,hc,pos⟩:=x
    have a:=zlC rs im
    by_cases hw:w = me.2.2.1
    · subst hw
      refine (cT (beq_self_eq_true (α:=Int) me.2.2.1)).trans ?_
      have:(me.2.2.1 != me.2.2.1) = false:=by simp
      show _ = some (bif qv r me.2.2.1 && (me.2.2.1 != me.2.2.1) then _ else _)
      rw [this,Bool.and_false]; rfl
    · have hne:(w != me.2.2.1) = true:=bne_iff_ne.2 hw
      refine (cF (beq_eq_false_iff_ne.2 hw)).trans ?_
      refine (bnd (zox hr hs _)).trans ?_
      rw [rs,hne,Bool.and_true,Bool.true_and]
      have him:yV r (me.1,me.2.1,w,(ze tMe).2.2.2) = qv r w:=by
        have:=im
        simp only [yV,Bool.and_eq_true] at this ⊢
        rw [this.1,this.2.1,Bool.true_and,Bool.true_and]
      rw [him]
      cases hww:qv r w with
      | false=>rfl
      | true =>
        have b0:At s me.2.1 w:=zBc rs (zHO (vK rs).1 im) hww
        refine (bnd (jV hf)).trans ?_
        refine (zK2 (t:=s) (k:=fun q=>_) a hc (zBb hs a c) hn).trans ?_
        show _ = some (zlk s me me.2.1 w c n)
        unfold zlk
        cases hlt:decide (zO s me.2.1 me.2.2.1 c < n) with
        | true=>rfl
        | false =>
          have hge:=of_decide_eq_false hlt
          obtain ⟨e,h0,hle⟩:=zMT hs ⟨rs,im,hc,pos⟩ hn b0 (fun e=>hw e.2.symm) hge
          have b:At (zgg s me c n) me.2.1 w:=zrK a.hi b0
          refine (zK3 (t:=zgg s me c n) (m:=List.length s.2.1) (k:=fun q=>_) b a.hi.2 hc (by rw [e]; exact h0) hn (by rw [e]; exact hle)).trans ?_
          refine (cT (decide_eq_true (by rw [List.length_set,List.length_set]))).trans ?_
          exact cT (decide_eq_true trivial)
theorem zN3 {r:zf} {s:zb} (hr:qg r) (hs:qm s) (hf:zas s) {me:pMe} {i w c n:Int} (hn:qu n):zbw (r,s,me,i,w,c,n,()) = some (bif zgJ r s me c n then (bif qv r w && jc r i then zpS r s me i w c n else zeJ 1) else zeJ 1):=by
  simp only [zbw]
  refine (bnd (zlD hr hs me c n)).trans ?_
  cases h:zgJ r s me c n with
  | false=>rfl
  | true =>
    obtain ⟨rs,im,hc,pos⟩:=zrL h
    have a:=zlC rs im
    simp only [cond_true]
    by_cases hb:qv r w = true ∧ jc r i = true
    · obtain ⟨hww,hii⟩:=hb
      have b0:At s i w:=zBc rs hii hww
      rw [hww,hii]
      simp only [qv,jc,decide_eq_true_eq] at hww hii
      refine (cF (decide_eq_false (by omega))).trans ?_
      refine (cF (decide_eq_false (by omega))).trans ?_
      refine (cF (decide_eq_false (by omega))).trans ?_
      refine (cF (decide_eq_false (by omega))).trans ?_
      show _ = some (zpS r s me i w c n)
      unfold zpS
      cases hne:i != me.2.1 with
      | false =>
        simp only [cond_false,Bool.false_and]
        rw [jV hf]; rfl
      | true =>
        simp only [cond_true,Bool.true_and]
        refine (bnd (zJj hr (vK rs).1 _ _)).trans ?_
        cases zmA r me.2.1 i with
        | false=>rw [jV hf]; rfl
        | true =>
          refine (bnd (jV hf)).trans ?_
          refine (zK2 (t:=s) (k:=fun q=>_) a hc (zBb hs a c) hn).trans ?_
          show _ = some (zlk s me i w c n)
          unfold zlk
          cases hlt:decide (zO s me.2.1 me.2.2.1 c < n) with
          | true=>rfl
          | false =>
            have hge:=of_decide_eq_false hlt
            have hni:¬ i = me.2.1:=bne_iff_ne.1 hne
            obtain ⟨e,h0,hle⟩:=zMT hs ⟨rs,im,hc,pos⟩ hn b0 (fun e=>hni e.1.symm) hge
            have b:At (zgg s me c n) i w:=zrK a.hi b0
            refine (zK3 (t:=zgg s me c n) (m:=List.length s.2.1) (k:=fun q=>_) b b0.hi.2 hc (by rw [e]; exact h0) hn (by rw [e]; exact hle)).trans ?_
            refine (cT (decide_eq_true (by rw [List.length_set,List.length_set]))).trans ?_
            exact cT (decide_eq_true trivial)
    · have hbf:(qv r w && jc r i) = false:=by
        cases h1:qv r w <;> cases h2:jc r i <;> first | rfl | exact absurd ⟨h1,h2⟩ hb
      rw [hbf]
      simp only [qv,jc,decide_eq_true_eq] at hb
      simp only [cond_false]
      by_cases c1:i < 0
      · exact cT (decide_eq_true c1)
      · refine (cF (decide_eq_false c1)).trans ?_
        by_cases c2:i ≥ (r.1.length:Int)
        · exact cT (decide_eq_true c2)
        · refine (cF (decide_eq_false c2)).trans ?_
          by_cases c3:w < 0
          · exact cT (decide_eq_true c3)
          · refine (cF (decide_eq_false c3)).trans ?_
            by_cases c4:w ≥ (r.2.2.1.length:Int)
            · exact cT (decide_eq_true c4)
            · omega
theorem zN4 {r:zf} {s:zb} (hr:qg r) (hs:qm s) (hf:zas s) (hq:zrI r) {me:pMe} {c n:Int} (hn:qu n):y7 (r,s,me,c,n,()) = some (bif zgJ r s me c n then zpQ r s me c n else zeJ 1):=by
  simp only [y7]
  refine (bnd (zlD hr hs me c n)).trans ?_
  cases h:zgJ r s me c n with
  | false=>rfl
  | true =>
    obtain ⟨rs,im,hc,pos⟩:=zrL h
    have a:=zlC rs im
    have hc4:=vI hc
    obtain ⟨hb,hz,-⟩:=vK rs
    have ok:=jS hb
    have sz:=zeO hb hz
    have hl:=ok.quotas
    have hsl:=sz.shelves
    have ahi:=a.hi
    have hww:qv r me.2.2.1 = true:=by
      have:=im; simp only [yV,Bool.and_eq_true] at this; exact this.2.2
    simp only [qv,decide_eq_true_eq] at hww
    have hqi:0 ≤ me.2.1 ∧ me.2.1 < (r.2.2.2.2.1.length:Int):=by omega
    simp only [cond_true]
    refine (ixR hqi).trans ?_
    refine (ixR a.hi).trans ?_
    refine (ixR hc4).trans ?_
    refine (ixR hww).trans ?_
    have hm0:=zJN hs a.hi c
    have hcap:=zHN rs hc a.hi
    have hcm:=zpP (n:=0) rs hs hq hc a (by omega)
    have hw1:wU (yW r me.2.1 - jH s me.2.1 c) = yW r me.2.1 - jH s me.2.1 c:=zdR (by have:=hm0.1; have:=hcm.2.2; unfold M62 at this; omega)
    have hiff:decide (n ≤ wU (yW r me.2.1 - jH s me.2.1 c)) = decide (jH s me.2.1 c + n ≤ yW r me.2.1):=by
      rw [hw1]; exact decide_eq_decide.2 (by omega)
    show (bif (ix qn r.2.2.1 me.2.2.1).2.2.2.1 then (bif decide (n ≤ wU (yW r me.2.1 - jH s me.2.1 c)) then _ else _) else (bif decide (n ≤ wU (yW r me.2.1 - jH s me.2.1 c)) then _ else _)) = some (zpQ r s me c n)
    rw [hiff]
    unfold zpQ
    cases (ix qn r.2.2.1 me.2.2.1).2.2.2.1 with
    | false =>
      rw [jV hf]
      cases decide (jH s me.2.1 c + n ≤ yW r me.2.1) <;> rfl
    | true =>
      cases hle:decide (jH s me.2.1 c + n ≤ yW r me.2.1) with
      | false=>rw [jV hf]; rfl
      | true =>
        have hle:=of_decide_eq_true hle
        have hgo:=zpP rs hs hq hc a hle
        have hw2:wU (jH s me.2.1 c + n) = jH s me.2.1 c + n:=zdR (by have:=hm0.1; have:=hgo.2.2; have:=hn.1; unfold M62 at *; omega)
        refine (bnd (jV hf)).trans ?_
        refine (ixR a.hi).trans ?_
        refine (ixR hc4).trans ?_
        refine (ixR a.hi).trans ?_
        refine (ixR hc4).trans ?_
        have b:At (ziC s me c n) me.2.1 me.2.2.1:=zHP a.hi rfl a
        have e:zO (ziC s me c n) me.2.1 me.2.2.1 c = zO s me.2.1 me.2.2.1 c:=by
          show List.getD (List.getD (ix za (upd s me.2.1 _).2.1 me.2.1).2.2.2.2.2.1 _ _) _ _ = _
          rw [zrJ a.hi]
        have hco:=zwd rs hs hc a
        have key:=zK3 (t:=upd s me.2.1 (u7 (ix za s.2.1 me.2.1) (List.set (ix za s.2.1 me.2.1).2.2.2.2.2.2.2.1 (Int.toNat c) (wU (jH s me.2.1 c + n))))) (i:=me.2.1) (w:=me.2.2.1) (c:=c) (n:=n) (m:=List.length s.2.1) (k:=fun q=>some (u1 s (List.set (ziC s me c n).2.1 me.2.1.toNat (u5 (ix za (ziC s me c n).2.1 me.2.1) (List.set (ix za (ziC s me c n).2.1 me.2.1).2.2.2.2.2.1 me.2.2.1.toNat q.1))),0,())) (by rw [hw2]; exact b) a.hi.2 hc (by rw [hw2]; show 0 ≤ zO (ziC s me c n) me.2.1 me.2.2.1 c; rw [e]; exact hco.1) hn (by rw [hw2]; show zO (ziC s me c n) me.2.1 me.2.2.1 c + n ≤ M62; rw [e]; exact hgo.1)
        rw [hw2] at key
        show inR me.2.1 _ _ = _
        simp only [hw2]
        refine Eq.trans ?_ key
        have el:∀ (X:zl),List.length s.2.1 = List.length (List.set (List.set s.2.1 (Int.toNat me.2.1) (u7 (ix za s.2.1 me.2.1) (List.set (ix za s.2.1 me.2.1).2.2.2.2.2.2.2.1 (Int.toNat c) (jH s me.2.1 c + n)))) (Int.toNat me.2.1) X):=fun X=>by rw [List.length_set,List.length_set]
        simp only [decide_eq_true (el _),decide_true,cond_true]
end Go.Proofs.YtlklokhlgcfcdaaGreatDoor
end
section
namespace Go.Proofs.YtlklokhlgcfcdaaGreatDoor
open Go.Ev
theorem zxu {r:zf} {s:zb} (hr:qg r) (hs:qm s) (me:pMe):zaO (r,s,me,()) = some (qN r s && yV r me,()):=by
  rw [zA]
  simp only [zaO,zE3 hr hs,zHC,Option.bind_some]
  cases qN r s <;> cases yV r me <;> rfl
theorem zNt {r:zf} {s:zb} (hr:qg r) (hs:qm s) (me:pMe) (k i w c:Int) {n:Int} (hn:qu n):zdB (r,s,me,k,i,w,c,n,()) = bif zgJ r s me c n then vo (zaq yi) (k,i,w,c,n,false,r,s,me,0,[],[],[],[],[],()) else some (zeJ 1):=by
  show zh2 (vo (zaq yi)) (r,s,me,k,i,w,c,n,()) = _
  simp only [zh2]
  rw [zxu hr hs]
  simp only [Option.bind_some]
  have e1:vo (zaq yi) (k,i,w,c,n,true,r,s,me,0,[],[],[],[],[],()) = some (zeJ 1):=rfl
  rw [e1]
  generalize vo (zaq yi) (k,i,w,c,n,false,r,s,me,0,[],[],[],[],[],()) = y
  have h0:=hn.1
  unfold zgJ zY
  cases qN r s && yV r me with
  | false=>rfl
  | true =>
    simp only [cond_true,Bool.true_and]
    by_cases c1:c < 0
    · rw [decide_eq_true c1,decide_eq_false (p:=0 ≤ c ∧ c ≤ 3) (by omega)]; rfl
    · rw [decide_eq_false c1]
      by_cases c2:c > 3
      · rw [decide_eq_true c2,decide_eq_false (p:=0 ≤ c ∧ c ≤ 3) (by omega)]; rfl
      · rw [decide_eq_false c2,decide_eq_true (p:=0 ≤ c ∧ c ≤ 3) (by omega)]
        by_cases c3:n = 0
        · subst c3; rfl
        · rw [beq_eq_false_iff_ne.2 c3,decide_eq_true (p:=n > 0) (by omega)]; rfl
theorem zJo {s:zb} {i w c v j:Int} (hi:0 ≤ i ∧ i < (s.2.1.length:Int)) (hj:0 ≤ j):(ix za (zmC s i w c v).2.1 j).2.2.2.2.2.1.length = (ix za s.2.1 j).2.2.2.2.2.1.length:=by
  by_cases hij:i = j
  · subst hij
    rw [zrJ hi]; exact List.length_set ..
  · rw [zvR hi.1 hj hij]
theorem zsz {r:zf} {s:zb} (h:qN r s = true) {i:Int} (hi:0 ≤ i ∧ i < (s.2.1.length:Int)):(ix za s.2.1 i).2.2.2.2.2.1.length ≤ lim:=by
  obtain ⟨hb,hz,-⟩:=vK h
  have h1:=((zeO hb hz).shelf _ (zdk hi)).2.2.2.2.2.1
  have h2:=(jS hb).accounts
  have h3:(ix za s.2.1 i).2.2.2.2.2.1.length = r.2.2.1.length:=h1
  unfold lim; omega
theorem zh4 {r:zf} {s:zb} (h:qN r s = true):s.2.1.length ≤ lim:=by
  obtain ⟨hb,hz,-⟩:=vK h
  have h1:=(zeO hb hz).shelves
  have h2:=(jS hb).labels
  unfold lim; omega
theorem zCH {x:Int} (h0:0 ≤ x) (h1:x ≤ M62):qu x:=⟨h0,by unfold M62 at h1; unfold U64; omega⟩
theorem zN5 {r:zf} {s:zb} (hs:qm s) (hf:zas s) {me:pMe} {i w c n:Int} (x:Ctx r s me c n) (hn:qu n) (b:At s i w) (hne:¬ (me.2.1 = i ∧ me.2.2.1 = w)) (h:¬ zO s me.2.1 me.2.2.1 c < n) :
    (Option.bind (zdy (zgg s me c n,i,w,c,n,())) fun q=>some (q.1,(0:Int),())) = some (zK1 (zgg s me c n) i w c n):=by
  have a:=zlC x.rs x.im
  obtain ⟨e,h0,hle⟩:=zMT hs x hn b hne h
  have hn0:=x.pos
  rw [zM1 (by show (List.set _ _ _).length ≤ lim; rw [List.length_set]; exact zh4 x.rs) (by rw [zJo a.hi b.hi.1]; exact zsz x.rs b.hi) (zrK a.hi b) x.hc (by rw [e]; exact zCH (by omega) hle)]
  rfl
theorem zMU {r:zf} {s:zb} (hs:qm s) (hf:zas s) {me:pMe} {k i w c n:Int} (z:zb) (x:Ctx r s me c n) (hn:qu n) (h3:k = 3→qv r w = true ∧ w ≠ me.2.2.1) (h4:k = 4→qv r w = true ∧ jc r i = true ∧ i ≠ me.2.1) :
    yi (k,i,w,c,n,false,s,me,z,ix za s.2.1 me.2.1) = some (bif k == 3 then zlk s me me.2.1 w c n else bif k == 4 then zlk s me i w c n else zpR s me c n):=by
  have a:=zlC x.rs x.im
  have hc4:=vI x.hc
  have hco:=zwd x.rs hs x.hc a
  simp only [yi,cond_false]
  refine (ixR a.hw).trans ?_
  refine (ixR hc4).trans ?_
  show (bif decide (zO s me.2.1 me.2.2.1 c < n) then some (zeJ 6) else _) = _
  unfold zlk zpR
  cases hlt:decide (zO s me.2.1 me.2.2.1 c < n) with
  | true=>cases k == 3 <;> cases k == 4 <;> rfl
  | false =>
    have hge:=of_decide_eq_false hlt
    simp only [cond_false]
    refine (bnd (zNZ (zh4 x.rs) (zsz x.rs a.hi) a x.hc (by have:=x.pos; exact zCH (by omega) (by omega)))).trans ?_
    by_cases k3:k = 3
    · obtain ⟨hw,hne⟩:=h3 k3
      subst k3
      exact zN5 hs hf x hn (zBc x.rs (zHO (vK x.rs).1 x.im) hw) (fun e=>hne e.2.symm) hge
    · rw [beq_eq_false_iff_ne.2 k3]
      by_cases k4:k = 4
      · obtain ⟨hw,hi,hne⟩:=h4 k4
        subst k4
        exact zN5 hs hf x hn (zBc x.rs hi hw) (fun e=>hne e.1.symm) hge
      · rw [beq_eq_false_iff_ne.2 k4]
        simp only [cond_false]
        have b:At (zgg s me c n) me.2.1 me.2.2.1:=zrK a.hi a
        refine (ixR b.hi).trans ?_
        refine (ixR hc4).trans ?_
        refine (ixR hc4).trans ?_
        refine (bnd (zBd (by show (List.set _ _ _).length ≤ lim; rw [List.length_set]; exact zh4 x.rs) b.hi)).trans ?_
        rfl
theorem zOd {r:zf} {s:zb} (hr:qg r) (hs:qm s) (hf:zas s) (hq:zrI r) {me:pMe} {k i w c n:Int} (hk:k = 1 ∨ k = 2 ∨ k = 3 ∨ k = 4) (hn:qu n):zdB (r,s,me,k,i,w,c,n,()) = some (zyP r s me k i w c n):=by
  rw [zNt hr hs me k i w c hn]
  unfold zyP
  cases h:zgJ r s me c n with
  | false=>rfl
  | true =>
    have x:=zrL h
    obtain ⟨rs,im,hc,pos⟩:=x
    have a:=zlC rs im
    have hc4:=vI hc
    simp only [cond_true]
    rcases hk with rfl | rfl | rfl | rfl
    ·
      obtain ⟨hb,hz,-⟩:=vK rs
      have ok:=jS hb
      have sz:=zeO hb hz
      have hl:=ok.quotas
      have hsl:=sz.shelves
      have ahi:=a.hi
      have hww:qv r me.2.2.1 = true:=by
        have:=im; simp only [yV,Bool.and_eq_true] at this; exact this.2.2
      simp only [qv,decide_eq_true_eq] at hww
      have hqi:0 ≤ me.2.1 ∧ me.2.1 < (r.2.2.2.2.1.length:Int):=by omega
      have hm0:=zJN hs a.hi c
      have hcap:=zHN rs hc a.hi
      have hcm:=(zpP (n:=0) rs hs hq hc a (by omega)).2
      show inR me.2.1 _ _ = some (zpQ r s me c n)
      refine (ixR a.hi).trans ?_
      show inR me.2.2.1 _ _ = some (zpQ r s me c n)
      refine (ixR hww).trans ?_
      unfold zpQ
      cases (ix qn r.2.2.1 me.2.2.1).2.2.2.1 with
      | false=>rfl
      | true =>
        refine (ixR hc4).trans ?_
        refine (bnd (zbx hm0 hn)).trans ?_
        unfold zm3
        by_cases hb1:jH s me.2.1 c + n > M62
        · rw [decide_eq_true hb1,decide_eq_false (p:=jH s me.2.1 c + n ≤ yW r me.2.1) (by omega)]; rfl
        · rw [decide_eq_false hb1]
          refine (ixR hqi).trans ?_
          by_cases hb2:jH s me.2.1 c + n ≤ yW r me.2.1
          · rw [decide_eq_true hb2]
            refine (cF (decide_eq_false (by show ¬ (jH s me.2.1 c + n > yW r me.2.1); omega))).trans ?_
            have hgo:=(zpP rs hs hq hc a hb2).1
            have hco:=zwd rs hs hc a
            refine (ixR hc4).trans ?_
            refine (bnd (zBd (zh4 rs) a.hi)).trans ?_
            have b:At (ziC s me c n) me.2.1 me.2.2.1:=zHP a.hi rfl a
            have e:zO (ziC s me c n) me.2.1 me.2.2.1 c = zO s me.2.1 me.2.2.1 c:=by
              show List.getD (List.getD (ix za (upd s me.2.1 _).2.1 me.2.1).2.2.2.2.2.1 _ _) _ _ = _
              rw [zrJ a.hi]
            refine (bnd (zM1 (s:=ziC s me c n) (by show (List.set _ _ _).length ≤ lim; rw [List.length_set]; exact zh4 rs) (by rw [zrJ a.hi]; exact zsz rs a.hi) b hc (by rw [e]; exact zCH (by omega) hgo))).trans ?_
            rfl
          · rw [decide_eq_false hb2]
            exact cT (decide_eq_true (by show jH s me.2.1 c + n > yW r me.2.1; omega))
    ·
      show inR me.2.1 _ _ = some (zpR s me c n)
      refine (ixR a.hi).trans ?_
      exact zMU hs hf (0,[],[],[],[],[],()) ⟨rs,im,hc,pos⟩ hn (fun e=>by omega) (fun e=>by omega)
    ·
      show vo _ _ = some (bif qv r w && w != me.2.2.1 then zlk s me me.2.1 w c n else zeJ 1)
      by_cases hb:qv r w = true ∧ w ≠ me.2.2.1
      · have hb':=hb
        simp only [qv,decide_eq_true_eq] at hb'
        rw [hb.1,bne_iff_ne.2 hb.2]
        show (bif decide (w < 0) then _ else _) = _
        refine (cF (decide_eq_false (by omega))).trans ?_
        refine (cF (decide_eq_false (by omega))).trans ?_
        refine (cF (beq_eq_false_iff_ne.2 hb.2)).trans ?_
        show inR me.2.1 _ _ = _
        refine (ixR a.hi).trans ?_
        exact zMU hs hf (0,[],[],[],[],[],()) ⟨rs,im,hc,pos⟩ hn (fun _=>hb) (fun e=>by omega)
      · have hbf:(qv r w && w != me.2.2.1) = false:=by
          cases h1:qv r w <;> cases h2:w != me.2.2.1 <;> first | rfl | exact absurd ⟨h1,bne_iff_ne.1 h2⟩ hb
        rw [hbf]
        simp only [qv,decide_eq_true_eq] at hb
        show (bif decide (w < 0) then _ else _) = _
        by_cases c3:w < 0
        · exact cT (decide_eq_true c3)
        · refine (cF (decide_eq_false c3)).trans ?_
          by_cases c4:w ≥ (r.2.2.1.length:Int)
          · exact cT (decide_eq_true c4)
          · refine (cF (decide_eq_false c4)).trans ?_
            have c5:w = me.2.2.1:=by
              by_cases c5:w = me.2.2.1
              · exact c5
              · exact absurd ⟨by omega,c5⟩ hb
            exact cT (beq_iff_eq.2 c5)
    ·
      show vo _ _ = some (bif qv r w && jc r i then zpS r s me i w c n else zeJ 1)
      by_cases hb:qv r w = true ∧ jc r i = true
      · have hb':=hb
        simp only [qv,jc,decide_eq_true_eq] at hb'
        rw [hb.1,hb.2]
        show (bif decide (w < 0) then _ else _) = _
        refine (cF (decide_eq_false (by omega))).trans ?_
        refine (cF (decide_eq_false (by omega))).trans ?_
        show (bif decide (i < 0) then _ else _) = _
        refine (cF (decide_eq_false (by omega))).trans ?_
        refine (cF (decide_eq_false (by omega))).trans ?_
        show inR me.2.1 _ _ = some (zpS r s me i w c n)
        refine (ixR a.hi).trans ?_
        unfold zpS
        by_cases hne:i = me.2.1
        · have e1:(i != me.2.1) = false:=by rw [hne]; simp
          rw [e1]
          show (bif i == me.2.1 then _ else _) = _
          exact cT (by rw [hne]; exact beq_self_eq_true (α:=Int) _)
        · rw [bne_iff_ne.2 hne]
          show (bif i == me.2.1 then _ else _) = _
          refine (cF (beq_eq_false_iff_ne.2 hne)).trans ?_
          refine (bnd (zqt hr _ _)).trans ?_
          cases zmA r me.2.1 i with
          | false=>rfl
          | true=>exact zMU hs hf (0,[],[],[],[],[],()) ⟨rs,im,hc,pos⟩ hn (fun e=>by omega) (fun _=>⟨hb.1,hb.2,hne⟩)
      · have hbf:(qv r w && jc r i) = false:=by
          cases h1:qv r w <;> cases h2:jc r i <;> first | rfl | exact absurd ⟨h1,h2⟩ hb
        rw [hbf]
        simp only [qv,jc,decide_eq_true_eq] at hb
        show (bif decide (w < 0) then _ else _) = _
        by_cases c3:w < 0
        · exact cT (decide_eq_true c3)
        · refine (cF (decide_eq_false c3)).trans ?_
          by_cases c4:w ≥ (r.2.2.1.length:Int)
          · exact cT (decide_eq_true c4)
          · refine (cF (decide_eq_false c4)).trans ?_
            show (bif decide (i < 0) then _ else _) = _
            by_cases c1:i < 0
            · exact cT (decide_eq_true c1)
            · refine (cF (decide_eq_false c1)).trans ?_
              by_cases c2:i ≥ (r.1.length:Int)
              · exact cT (decide_eq_true c2)
              · omega
end Go.Proofs.YtlklokhlgcfcdaaGreatDoor
end
section
namespace Go.Proofs.YtlklokhlgcfcdaaGreatDoor
open Go.Ev
def zJO (x:zl):Bool:=decide (x.1.length * 24 ≤ 140737488355328) && (decide (x.2.1.length * 48 ≤ 140737488355328) && (decide (x.2.2.1.length * 56 ≤ 140737488355328) && (decide (x.2.2.2.1.length * 48 ≤ 140737488355328) && (decide (x.2.2.2.2.1.length * 72 ≤ 140737488355328) && (decide (x.2.2.2.2.2.1.length * 32 ≤ 140737488355328) && decide (x.2.2.2.2.2.2.1.length * 16 ≤ 140737488355328))))))
def zFg (s:zb):Bool:=decide (s.2.1.length * 232 ≤ 140737488355328) && (decide (s.2.2.1.length * 24 ≤ 140737488355328) && (decide (s.2.2.2.1.length * 80 ≤ 140737488355328) && (decide (s.2.2.2.2.1.length * 80 ≤ 140737488355328) && (decide (s.2.2.2.2.2.1.length * 8 ≤ 140737488355328) && (s.2.1.all zJO && s.2.2.1.all fun l=>decide (l.length * 8 ≤ 140737488355328))))))
theorem zMV {s:zb} (h:zFg s = true):zas s:=by
  simp only [zFg,Bool.and_eq_true,decide_eq_true_eq,List.all_eq_true] at h
  obtain ⟨h1,h2,h3,h4,h5,h6,h7⟩:=h
  refine ⟨h1,h2,h3,h4,h5,fun x hx=>?_,h7⟩
  have:=h6 x hx
  simp only [zJO,Bool.and_eq_true,decide_eq_true_eq] at this
  obtain ⟨a,b,c,d,e,f,g⟩:=this
  exact ⟨a,b,c,d,e,f,g⟩
noncomputable def zMc (x:zb × Unit):Option (zb × Unit):=bif zFg x.1 then some x else qA x
theorem zMW:qA = zMc:=by
  funext ⟨s,u⟩
  cases u
  unfold zMc
  cases h:zFg s with
  | true=>exact jV (zMV h)
  | false=>rfl
theorem zMd:jm () = some (true,()):=by
  simp only [jm,y7,zbv,zdD,zbw,zMW]
  kernel_rfl
theorem zJp {x:zl} (h:zvQ x):zHI x:=by
  have hm:140737488355328 ≤ Go.maxLen:=by unfold Go.maxLen; omega
  obtain ⟨e1,e2,e3,e4,e5,e6,e7⟩:=h
  exact ⟨by omega,by omega,by omega,by omega,by omega,by omega,by omega⟩
theorem zMe {s:zb} (h:zas s):zNY s:=by
  have hm:140737488355328 ≤ Go.maxLen:=by unfold Go.maxLen; omega
  obtain ⟨e1,e2,e3,e4,e5,e6,e7⟩:=h
  exact ⟨by omega,by omega,by omega,by omega,by omega,fun x hx=>zJp (e6 x hx),fun l hl=>by have:=e7 l hl; omega⟩
theorem zyQ {s:zb} (h:zas s) {i:Int} {x:zl} (hx:zvQ x):zas (upd s i x):=by
  refine ⟨by show (List.set _ _ _).length * _ ≤ _; rw [List.length_set]; exact h.shelves,h.ranks,h.orders,h.entries,h.seats,fun y hy=>?_,h.rank⟩
  rcases List.mem_or_eq_of_mem_set hy with hy | rfl
  · exact h.shelf y hy
  · exact hx
theorem zCI {s:zb} (h:zas s) (i:Int):zvQ (ix za s.2.1 i):=by
  by_cases hi:i.toNat < s.2.1.length
  · exact h.shelf _ (zV hi)
  · have e:ix za s.2.1 i = za:=by
      show List.getD _ _ _ = _
      rw [List.getD_eq_getElem?_getD,List.getElem?_eq_none (by omega)]; rfl
    rw [e]
    exact ⟨Nat.zero_le _,Nat.zero_le _,Nat.zero_le _,Nat.zero_le _,Nat.zero_le _,Nat.zero_le _,Nat.zero_le _⟩
theorem zpT {s:zb} (h:zas s) (i w c v:Int):zas (zmC s i w c v):=by
  have a:=zCI h i
  exact zyQ h ⟨a.rooms,a.exits,a.items,a.mails,a.trades,by show (List.set _ _ _).length * _ ≤ _; rw [List.length_set]; exact a.purses,a.places⟩
theorem zgK:zas (0,[],[],[],[],[],()):=⟨Nat.zero_le _,Nat.zero_le _,Nat.zero_le _,Nat.zero_le _,Nat.zero_le _,fun x hx=>(by cases hx),fun x hx=>(by cases hx)⟩
theorem zHR {s:zb} (h:zas s) (me:pMe) (i w c n:Int):zas (zlk s me i w c n).1:=by
  unfold zlk
  cases decide (zO s me.2.1 me.2.2.1 c < n) with
  | true=>exact zgK
  | false=>exact zpT (zpT h _ _ _ _) _ _ _ _
theorem zMX {r:zf} {s:zb} (h:zas s) (me:pMe) (k i w c n:Int):zas (zyP r s me k i w c n).1:=by
  unfold zyP
  cases zgJ r s me c n with
  | false=>exact zgK
  | true =>
    simp only [cond_true]
    cases k == 1 with
    | true =>
      simp only [cond_true]
      unfold zpQ
      cases (ix qn r.2.2.1 me.2.2.1).2.2.2.1 with
      | false=>exact zgK
      | true =>
        cases decide (jH s me.2.1 c + n ≤ yW r me.2.1) with
        | false=>exact zgK
        | true =>
          have a:=zCI h me.2.1
          have e:zas (ziC s me c n):=zyQ h (i:=me.2.1) (x:=u7 (ix za s.2.1 me.2.1) (List.set (ix za s.2.1 me.2.1).2.2.2.2.2.2.2.1 (Int.toNat c) (jH s me.2.1 c + n))) ⟨a.rooms,a.exits,a.items,a.mails,a.trades,a.purses,a.places⟩
          exact zpT e _ _ _ _
    | false =>
      simp only [cond_false]
      cases k == 2 with
      | true =>
        simp only [cond_true]
        unfold zpR
        cases decide (zO s me.2.1 me.2.2.1 c < n) with
        | true=>exact zgK
        | false =>
          have h1:=zpT h me.2.1 me.2.2.1 c (zO s me.2.1 me.2.2.1 c - n)
          have a:=zCI h1 me.2.1
          exact zyQ h1 ⟨a.rooms,a.exits,a.items,a.mails,a.trades,a.purses,a.places⟩
      | false =>
        simp only [cond_false]
        cases k == 3 with
        | true =>
          simp only [cond_true]
          cases qv r w && w != me.2.2.1 with
          | true=>exact zHR h _ _ _ _ _
          | false=>exact zgK
        | false =>
          simp only [cond_false]
          cases qv r w && jc r i with
          | false=>exact zgK
          | true =>
            simp only [cond_true]
            unfold zpS
            cases (i != me.2.1) && zmA r me.2.1 i with
            | true=>exact zHR h _ _ _ _ _
            | false=>exact zgK
def zeK (a:Int):Int:=bif decide (a < 1) then 4 else bif decide (a > 3) then 4 else a
theorem zNu (a:Int):zeK a = 1 ∨ zeK a = 2 ∨ zeK a = 3 ∨ zeK a = 4:=by
  unfold zeK
  by_cases h1:a < 1
  · rw [decide_eq_true h1]; right; right; right; rfl
  · rw [decide_eq_false h1]
    by_cases h2:a > 3
    · rw [decide_eq_true h2]; right; right; right; rfl
    · rw [decide_eq_false h2]
      show a = 1 ∨ a = 2 ∨ a = 3 ∨ a = 4
      omega
theorem zOm {r:zf} {s:zb} (hr:qg r) (hs:qm s) (hf:zas s) (hq:zrI r) {me:pMe} {x:zav} (hn:qu x.2.2.2.2.1):zfj (r,s,me,x,()) = some (zyP r s me (zeK x.1) x.2.1 x.2.2.1 x.2.2.2.1 x.2.2.2.2.1):=by
  simp only [zfj]
  rw [zN4 hr hs hf hq hn,zN2 hr hs hf hn,zOc hr hs hf hn,zN3 hr hs hf hn]
  simp only [Option.bind_some]
  unfold zyP zeK
  by_cases h1:x.1 = 1
  · rw [h1]; rfl
  · by_cases h2:x.1 = 2
    · rw [h2]; rfl
    · by_cases h3:x.1 = 3
      · rw [h3]; rfl
      · rw [beq_eq_false_iff_ne.2 h1,beq_eq_false_iff_ne.2 h2,beq_eq_false_iff_ne.2 h3]
        by_cases h4:x.1 < 1
        · rw [decide_eq_true h4]; rfl
        · rw [decide_eq_false h4,decide_eq_true (p:=x.1 > 3) (by omega)]; rfl
theorem zHS {r:zf} {s:zb} (hr:qg r) (hs:qm s) (hf:zas s) (hq:zrI r) {me:pMe} {x:zav} (hn:qu x.2.2.2.2.1):zdf (r,s,me,x,()) = some (true,()):=by
  have hk:zeK x.1 = bif decide (x.1 < 1) then 4 else bif decide (x.1 > 3) then 4 else x.1:=rfl
  have hact:=fun k (h:k = zeK x.1)=>h ▸ zOd hr hs hf hq (me:=me) (k:=zeK x.1) (i:=x.2.1) (w:=x.2.2.1) (c:=x.2.2.2.1) (zNu x.1) hn
  have hS:∀ t:zb,zas t→ql (t,t,()) = some (true,()):=fun t ht=>by rw [zHK (zMe ht),zK0]
  have hfa:=zMX (r:=r) hf me (zeK x.1) x.2.1 x.2.2.1 x.2.2.2.1 x.2.2.2.2.1
  simp only [zdf]
  refine (bnd (jV hf)).trans ?_
  have road:∀ k,k = zeK x.1→(Option.bind (zfj (r,s,me,x,())) fun q1=>Option.bind (zdB (r,s,me,k,x.2.1,x.2.2.1,x.2.2.2.1,x.2.2.2.2.1,())) fun q2=>Option.bind (yj (r,s,me,())) fun q3=>Option.bind (zaO (r,s,me,())) fun q4=>bif q4.1 then bif q3.2.1 != 0 then some (false,()) else inR me.2.1 ((List.length s.2.1):Int) (inR me.2.2.1 ((List.length (ix za s.2.1 me.2.1).2.2.2.2.2.1):Int) (bif !eqI (.arr 4 tU) q3.1 (List.getD (ix za s.2.1 me.2.1).2.2.2.2.2.1 (Int.toNat me.2.2.1) (ze (.arr 4 tU))) then some (false,()) else Option.bind (jm ()) fun q5=>bif q5.1 then Option.bind (ql (q1.1,q2.1,())) fun q6=>bif q6.1 then bif q1.2.1 == q2.2.1 then Option.bind (ql (s,s,())) fun q7=>bif q7.1 then some (true,()) else some (false,()) else some (false,()) else some (false,()) else some (false,()))) else bif q3.2.1 != 1 then some (false,()) else bif !eqI (.arr 4 tU) q3.1 (ze (.arr 4 tU)) then some (false,()) else Option.bind (jm ()) fun q8=>bif q8.1 then Option.bind (ql (q1.1,q2.1,())) fun q9=>bif q9.1 then bif q1.2.1 == q2.2.1 then Option.bind (ql (s,s,())) fun q10=>bif q10.1 then some (true,()) else some (false,()) else some (false,()) else some (false,()) else some (false,())) = some (true,()):=by
    intro k hkk
    subst hkk
    refine (bnd (zOm hr hs hf hq hn)).trans ?_
    refine (bnd (hact _ rfl)).trans ?_
    generalize zyP r s me (zeK x.1) x.2.1 x.2.2.1 x.2.2.2.1 x.2.2.2.2.1 = v at *
    have hbeq:(v.2.1 == v.2.1) = true:=beq_self_eq_true (α:=Int) _
    rw [zNs hr hs me,zxu hr hs me,zMd,hS v.1 hfa,hS s hf]
    cases hm:qN r s && yV r me with
    | false =>
      simp only [cond_false,cond_true,Option.bind_some,hbeq]
      rfl
    | true =>
      have hm':=hm
      simp only [Bool.and_eq_true] at hm'
      have a:=zlC hm'.1 hm'.2
      have he:eqI (.arr 4 tU) (zdj s me.2.1 me.2.2.1) (zdj s me.2.1 me.2.2.1) = true:=znn (τ:=.arr 4 tU) rfl _
      simp only [cond_false,cond_true,Option.bind_some,hbeq]
      refine (cF rfl).trans ?_
      refine (ixR a.hi).trans ?_
      refine (ixR a.hw).trans ?_
      refine (cF (by rw [he]; rfl)).trans ?_
      rfl
  by_cases h1:x.1 < 1
  · refine (cT (decide_eq_true h1)).trans ?_
    exact road 4 (by rw [hk,decide_eq_true h1]; rfl)
  · refine (cF (decide_eq_false h1)).trans ?_
    by_cases h2:x.1 > 3
    · refine (cT (decide_eq_true h2)).trans ?_
      exact road 4 (by rw [hk,decide_eq_false h1,decide_eq_true h2]; rfl)
    · refine (cF (decide_eq_false h2)).trans ?_
      exact road x.1 (by rw [hk,decide_eq_false h1,decide_eq_false h2]; rfl)
end Go.Proofs.YtlklokhlgcfcdaaGreatDoor
end
section
namespace Go.Proofs.YtlklokhlgcfcdaaGreatDoor
open Go.Ev
theorem zh5 {x:Int} (h:(Lit.int .u64 x).wf = true):qu x:=by
  unfold Lit.wf at h
  simp only [Bool.and_eq_true,decide_eq_true_eq] at h
  have e1:IntKind.min .u64 = 0:=by decide
  have e2:IntKind.max .u64 = 18446744073709551615:=by decide
  rw [e1,e2] at h
  exact ⟨h.1,Int.lt_of_le_of_lt h.2 (by decide)⟩
theorem realmIn {r:zf} (h:InR zu r):qg r:=by
  obtain ⟨hl,h2⟩:=h
  refine ⟨fun a ha=>?_,h2.2.2.1.1,h2.2.2.2.1.1⟩
  have h3:(Lit.int .u64 a.2.1).wf = true:=(hl.2 a ha).2.1
  exact zh5 h3
theorem zHT {a:List Int} (h:InR (.arr 4 tU) a):zsu a:=fun x hx=>zh5 (h.2 x hx)
theorem zJP {x:zjn} (h:InR zdJ x):qu x.2.1:=zh5 (show (Lit.int .u64 x.2.1).wf = true from h.2.1)
theorem zNv {x:zl} (h:InR zm x):znd x:=by
  obtain ⟨-,-,-,-,h5,h6,-,h8,h9,-⟩:=h
  refine ⟨fun t ht=>?_,fun a ha=>zHT (h6.2 a ha),zHT h8,zHT h9⟩
  obtain ⟨-,-,-,g1,g2,-⟩:=h5.2 t ht
  exact ⟨zJP g1,zJP g2⟩
theorem zNw {x:zo} (h:InR zr x):zhk x:=by
  obtain ⟨-,-,-,-,-,-,h7,h8,h9,-⟩:=h
  exact ⟨zh5 h7,zh5 h8,zh5 h9⟩
theorem zNx {x:zF} (h:InR zv x):znc x:=by
  obtain ⟨-,-,-,-,-,-,-,h8,h9,-⟩:=h
  exact ⟨zh5 h8,zh5 h9⟩
theorem stateIn {s:zb} (h:InR zn s):qm s:=by
  obtain ⟨-,h2,-,h4,h5,-⟩:=h
  exact ⟨fun x hx=>zNv (h2.2 x hx),fun x hx=>zNw (h4.2 x hx),fun x hx=>zNx (h5.2 x hx)⟩
theorem capsIn {r:zf} (h:InR zu r):zrI r:=by
  obtain ⟨-,-,-,-,h5,-⟩:=h
  intro q hq
  have h3:(Lit.int .u64 q.2.2.2.2.2.1).wf = true:=(h5.2 q hq).2.2.2.2.2.1
  exact zh5 h3
theorem deedIn {x:zav} (h:InR j8 x):qu x.2.2.2.2.1:=by
  obtain ⟨-,-,-,-,h5,-⟩:=h
  exact zh5 h5
theorem zOe {x:zl} (h:WtR zm x):zvQ x:=by
  obtain ⟨h1,h2,h3,h4,h5,h6,h7,-⟩:=h
  have hb:reachBytes ≤ 140737488355328:=by decide
  exact ⟨Nat.le_trans h1.1 hb,Nat.le_trans h2.1 hb,Nat.le_trans h3.1 hb,Nat.le_trans h4.1 hb,Nat.le_trans h5.1 hb,Nat.le_trans h6.1 hb,Nat.le_trans h7.1 hb⟩
theorem zNy {s:zb} (h:WtR zn s):zas s:=by
  obtain ⟨-,h2,h3,h4,h5,h6,-⟩:=h
  have hb:reachBytes ≤ 140737488355328:=by decide
  exact ⟨Nat.le_trans h2.1 hb,Nat.le_trans h3.1 hb,Nat.le_trans h4.1 hb,Nat.le_trans h5.1 hb,Nat.le_trans h6.1 hb,fun x hx=>zOe (h2.2 x hx),fun l hl=>Nat.le_trans (h3.2 l hl).1 hb⟩
end Go.Proofs.YtlklokhlgcfcdaaGreatDoor
end
section
namespace Go.Proofs.YtlklokhlgcfcdaaGreatDoor.fnMoneyTells
open Go.ChangeShapes Go.WideShapes Go.ChangeAt Go.RowKit Go.Ev
theorem own:ownKnob Tryz.prog.godebug = none:=by kernel_rfl
def zMf:List Int→List Value:=List.map (Value.int .u8)
theorem zOf:∀ f add,Ev.look ext f = some add→ExtOk Tryz.prog f add:=by
  intro f add h
  have h':(Nat.beq 148 f = true ∧ add = false) ∨ (Nat.beq 230 f = true ∧ add = true):=by
    simp only [ext,Ev.look] at h
    cases h1:Nat.beq 148 f with
    | true=>rw [h1] at h; exact .inl ⟨rfl,(Option.some.inj h).symm⟩
    | false =>
      rw [h1] at h
      cases h2:Nat.beq 230 f with
      | true=>rw [h2] at h; exact .inr ⟨rfl,(Option.some.inj h).symm⟩
      | false=>rw [h2] at h; cases h
  rcases h' with ⟨h1,rfl⟩ | ⟨h1,rfl⟩
  · obtain rfl:=Nat.eq_of_beq_eq_true h1
    intro x y w hx hy hy2
    obtain ⟨m,rfl⟩:=Int.eq_ofNat_of_zero_le hx
    obtain ⟨n,rfl⟩:=Int.eq_ofNat_of_zero_le hy
    rw [run_callFunc_extern (P:=Tryz.prog) (f:=148) Tryz.func148 (by kernel_rfl) (by kernel_rfl) (by kernel_rfl) (e:=sub64Entry) (by kernel_rfl)]
    have h0:(sub64Entry #[.int .u64 (m:Int),.int .u64 (n:Int),.int .u64 0]).run Tryz.prog w = .ok (.tuple #[.int .u64 (((m + 18446744073709551616 - n - 0) % 18446744073709551616:Nat):Int),.int .u64 ((if m < n + 0 then 1 else 0:Nat):Int)]) w:=run_sub64 m n 0 (by omega) w
    have e1:extA false (m:Int) (n:Int) = (((m + 18446744073709551616 - n - 0) % 18446744073709551616:Nat):Int):=by
      show ((m:Int) - (n:Int)) % 18446744073709551616 = _
      omega
    have e2:extB false (m:Int) (n:Int) = ((if m < n + 0 then 1 else 0:Nat):Int):=by
      show cond (decide ((m:Int) < (n:Int))) 1 0 = _
      by_cases h:m < n
      · rw [decide_eq_true (by omega),if_pos (by omega)]; rfl
      · rw [decide_eq_false (by omega),if_neg (by omega)]; rfl
    rw [h0,e1,e2]
    rfl
  · obtain rfl:=Nat.eq_of_beq_eq_true h1
    intro x y w hx hy hy2
    rw [run_callFunc_extern (P:=Tryz.prog) (f:=230) Tryz.func230 (by kernel_rfl) (by kernel_rfl) (by kernel_rfl) (e:=add64Entry) (by kernel_rfl),run_add64 x y 0 hx hy (by omega) (by omega),Int.add_zero]
    rfl
theorem env {W:World} (hL:laidMetH Tryz.prog Rows.moneyTellsRow.laid W):EnvOk Tryz.prog (FH.of W) E0:=by
  exact EnvOk.nil (by kernel_rfl) (fun g v hv=>by cases hv) zOf
set_option maxRecDepth 100000 in
theorem zMY (H:Type) (enc:TypeId × Value→H) (W:World) (base:Nat) (args:Array Value) (ds gs:List (DataW H)) (before:List MemPlace)
    (hval:∀ (j:Nat) t v,Tryz.f4.params[j]? = some t→args[j]? = some v→Value.okWide Tryz.prog W .any base t v)
    (hW:DataW.Whole enc Tryz.prog Tryz.f4.params.toList Rows.moneyTellsSpec.vars false W args.toList ds gs before) (hL:laidMetH Tryz.prog Rows.moneyTellsRow.laid W) {us:List TypeId} (hz:(DataW.weightsEach Tryz.prog (Tryz.f4.params.toList ++ us) (ds ++ gs)).all (· ≤ reachBytes) = true) :
    Calls Tryz.prog 4 args W fun e W'=>∃ v,e = .returned v ∧ Rows.moneyTellsSpec.post enc Tryz.prog Tryz.f4 false true false false W args v W':=by
  refine zDs (a:=zuz) (tb:=4) (by kernel_rfl) (by decide +kernel) (by kernel_rfl) (by kernel_rfl) (by kernel_rfl) rfl (fun ds hd=>?_) hval hW fun x hx hbk hwt hr=>?_
  · have:Tryz.f4.params.size = 4:=by kernel_rfl
    rw [this] at hd
    match ds,hd with
    | [d1,d2,d3,d4],_=>rfl
  · have hs:=zvH (FH.of W) (env hL)
    have hwt:=hwt fun n hn=>of_decide_eq_true (List.all_eq_true.1 hz n (zzw hn))
    have he:zdf x = some (true,()):=by
      obtain ⟨r,s,m,d,⟨⟩⟩:=x
      exact zHS (realmIn hx.1) (stateIn hx.2.1) (zNy hwt.2.1) (capsIn hx.1) (deedIn hx.2.2.2.1)
    have hc:=hs.2 x (true,()) he (FH.of W) W args.toList (FH.le.refl _) (FH.of_ok W) hr
    refine hc.mono fun e W' he=>?_
    obtain ⟨us,F',h1,h2,_,_,h3⟩:=he
    refine ⟨?_,h2⟩
    obtain ⟨v,r,hus,hv,hva,hnil⟩:=(show RepA Tryz.prog F' (.pair .bool .unit) (true,()) us from h3)
    have hr0:r = []:=hnil
    subst hr0
    have hv':v.cells.toList = [.bool true]:=hv
    rw [h1,hus]
    have hva':isAggV v = false:=hva
    have:v = .bool true:=by
      cases v <;> first | (simp [isAggV] at hva'; done) | (simp [Value.cells] at hv'; exact congrArg _ hv') | (simp [Value.cells] at hv')
    rw [this]
    rfl
def zN6 (l:List Value):Obj→Obj
  | .cells _ t frozen=>.cells l.toArray t frozen
  | o=>o
noncomputable def laidWorld (os:Os):World :=
  { World.holding Tryz.prog os ⟨#[],#[],[]⟩ with heap:=((World.holding Tryz.prog os ⟨#[],#[],[]⟩).heap.modify 1 (zN6 (zMf (Pinned.utf8FirstZ.map fun n:Nat=>(n:Int))))).modify 2 (zN6 (zMf [128,191,160,191,128,159,144,191,128,143,0,0,0,0,0,0,0,0,0,0,0,0,0,0,0,0,0,0,0,0,0,0])) }
def arg0:Value:=.agg #[.slice none 0 0,.slice none 0 0,.slice none 0 0,.slice none 0 0,.slice none 0 0,.int .i64 0,.int .i64 0,.int .i64 0,.int .i64 0]
def zK4:Value:=.agg #[.int .u64 0,.slice none 0 0,.slice none 0 0,.slice none 0 0,.slice none 0 0,.slice none 0 0]
def zK5:Value:=.agg #[.int .i64 0,.int .i64 0,.int .i64 0]
def zK6:Value:=.agg #[.int .i64 0,.int .i64 0,.int .i64 0,.int .i64 0,.int .u64 0]
theorem laid_met (os:Os):laidMet Tryz.prog Rows.moneyTellsRow.laid ((laidWorld os).forCall (fun _ _=>0) ⟨#[],#[arg0,zK4,zK5,zK6],[]⟩).memory :=
  laidMet_of_run' 8 (by kernel_rfl) (by kernel_rfl)
theorem reads (os:Os) {H:Type} (enc:TypeId × Value→H):∃ places,DataW.whole enc Tryz.prog ((laidWorld os).forCall (fun _ _=>0) ⟨#[],#[arg0,zK4,zK5,zK6],[]⟩).memory Tryz.f4.params.toList Rows.moneyTellsSpec.vars false #[arg0,zK4,zK5,zK6].toList 8 = some ([.agg [.nil,.nil,.nil,.nil,.nil,.lit (.int .i64 0),.lit (.int .i64 0),.lit (.int .i64 0),.lit (.int .i64 0)],.agg [.lit (.int .u64 0),.nil,.nil,.nil,.nil,.nil],.agg [.lit (.int .i64 0),.lit (.int .i64 0),.lit (.int .i64 0)],.agg [.lit (.int .i64 0),.lit (.int .i64 0),.lit (.int .i64 0),.lit (.int .i64 0),.lit (.int .u64 0)]],[],places) :=
  ⟨[],by kernel_rfl⟩
set_option maxRecDepth 100000 in
theorem lifted (os:Os) (started:os.Started) (H:Type) (enc:TypeId × Value→H) (F:Stop.Interp) :
    ReturnsInHanded {} Tryz.checked os 4 .any ((OpenSpec.ofChange Rows.moneyTellsSpec).preRow enc Tryz.prog Tryz.f4 Rows.moneyTellsRow.domain false Rows.moneyTellsRow.laid) (((OpenSpec.ofChange Rows.moneyTellsSpec).at F).post enc Tryz.prog Tryz.f4 false true false false):=by
  obtain ⟨places,hx⟩:=reads os enc
  refine returnsInHanded_of_row (C:=Tryz.checked) (s:=OpenSpec.ofChange Rows.moneyTellsSpec) own started (by kernel_rfl) Tryz.func4
    (witness_row_at (enc:=enc) (C:=Tryz.checked) false (laidWorld os) #[arg0,zK4,zK5,zK6] rfl (by kernel_rfl) (by kernel_rfl) (by kernel_rfl)
      (OpenSpec.preRow_of_cond 8 hx (by kernel_rfl) (fun k hk=>by cases hk) (by kernel_rfl) (laid_met os))) ?_
  intro W base args ds gs before hval hW _ _ hz hL _ _
  exact zMY H enc W base args ds gs before hval hW hL hz
end Go.Proofs.YtlklokhlgcfcdaaGreatDoor.fnMoneyTells
end
section
namespace Go.Proofs.YtlklokhlgcfcdaaGreatDoor.fnMoneyTells
open Go.ChangeShapes Go.WideShapes Go.ChangeAt Go.RowKit Go.Ev
theorem k2:laidOutB Tryz.prog = true:=by kernel_rfl
theorem k3:mapsRowed Tryz.prog = true:=by kernel_rfl
theorem k10:(Rows.moneyTellsRow.inPlace == Tryz.prog.inPlace 4) = true:=by kernel_rfl
theorem k11:(Rows.moneyTellsRow.unfollowed == Tryz.prog.unfollowed 4) = true:=by kernel_rfl
theorem k12:(Rows.moneyTellsRow.recurses == Tryz.prog.recurses 4) = true:=by kernel_rfl
theorem k13:(Rows.moneyTellsRow.named == Tryz.prog.varsNamed 4) = true:=by kernel_rfl
theorem k23:(Rows.moneyTellsRow.plainKeys == Tryz.prog.plainKeys) = true:=by kernel_rfl
theorem k24:Tryz.prog.stopsHeard = true:=by kernel_rfl
theorem k25:Tryz.prog.mayEnter = true:=by kernel_rfl
theorem k26:(Rows.moneyTellsRow.lifted == Tryz.prog.liftsFinal) = true:=by kernel_rfl
theorem k27:(Tryz.prog.make == some Rows.moneyTellsRow.make) = true:=by kernel_rfl
theorem zNz:joinedFacts Tryz.prog 4 Tryz.f4 (OpenSpec.ofChange Rows.moneyTellsSpec).bare Rows.moneyTellsRow = true:=by
  unfold joinedFacts
  rw [k2,k3,k10,k11,k12,k13,k23,k24,k25,k26,k27]
  kernel_rfl
theorem peq:Tryz.pinned.checked.prog = Tryz.prog:=by kernel_rfl
theorem closed:joinedFacts Tryz.pinned.checked.prog 4 Tryz.f4 (OpenSpec.ofChange Rows.moneyTellsSpec).bare Rows.moneyTellsRow = true:=by
  rw [peq]; exact zNz
end Go.Proofs.YtlklokhlgcfcdaaGreatDoor.fnMoneyTells
end
