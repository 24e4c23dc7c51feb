import Derived.Test.YtokcjmkikhgkeaaGreatDoorMue
import Derived.Shelf.Spec.BitsCarry
import Derived.Test.YtokcjmkikhgkeaaGreatDoorCards
import Derived.Test.YtokcjmkikhgkeaaGreatDoorTie
import Derived.ProofKit
import Derived.OpenShut
import Derived.Deep.DeepHandedRow
set_option linter.unusedVariables false
set_option linter.unusedSimpArgs false
section
namespace Go.Proofs.YtokcjmkikhgkeaaGreatDoor
open Go.Ev
theorem zCC {r:zf} {s:ze} (ok:zgw r) (sz:zd3 r s):zeO ((r,s,()),()) = some (zO (fun i=>zkY (s.2.1.getD i za)) 0 (s.2.1.length - 0),()):=by
  rw [zC]
  have h1:=ok.labels
  have h2:=sz.shelves
  have hm:12 ≤ Go.maxLen:=by unfold Go.maxLen; omega
  have hlm:12 ≤ lim:=by unfold lim; omega
  have l2:∀ k0 (i:Nat) (x:zk),x.2.2.2.2.1.length ≤ 12→zcf K0 k0 (s.2.1,(s.2.1.length:Int),(i:Int),qO (fun t:zt=>t.1) 0 x.2.2.2.2.1,((qO (fun t:zt=>t.1) 0 x.2.2.2.2.1).length:Int),0,x) = bif zO (fun j=>!(x.2.2.2.2.1.getD j zV).1 || zcV x (j:Int) (x.2.2.2.2.1.getD j zV)) 0 x.2.2.2.2.1.length then k0 (s.2.1,(s.2.1.length:Int),wI ((i:Int) + 1)) else some (false,()):=fun k0 i x hx=>by
    have hsl:=zl3 (p:=fun t:zt=>t.1) x.2.2.2.2.1 0
    have hsm:=zl4 (p:=fun t:zt=>t.1) x.2.2.2.2.1 0
    have:=jZ (B:=fun k2=>zce k0 k2) (l:=qO (fun t:zt=>t.1) 0 x.2.2.2.2.1) (0:Int) (p:=fun z=>zcV x z (x.2.2.2.2.1.getD z.toNat zV)) (fin:=k0 (s.2.1,(s.2.1.length:Int),wI ((i:Int) + 1))) (bad:=some (false,())) (fun j=>(s.2.1,(s.2.1.length:Int),(i:Int),qO (fun t:zt=>t.1) 0 x.2.2.2.2.1,((qO (fun t:zt=>t.1) 0 x.2.2.2.2.1).length:Int),j,x)) (by omega) (fun k j z hj hz hmem=>by
      obtain ⟨n,rfl,-,hn⟩:=hsm z hmem
      simp only [zce]
      rw [ltT hj,zp hj,zS,hz,zp (by omega),zp (by omega),Int.toNat_natCast]
      simp only [cond_true,zcV,neI]
      by_cases ha:(x.2.2.2.2.1.getD n zV).2.2.2.1.2.2.1 < (x.2.2.1.length:Int)
      · by_cases hb:0 ≤ (x.2.2.2.2.1.getD n zV).2.2.2.1.2.2.1
        · rw [ixR ⟨hb,ha⟩,ixR ⟨hb,ha⟩]
          grind
        · grind
      · grind) (fun k=>by simp only [zce]; rw [ltF]; rfl)
    refine this.trans ?_
    rw [zy5 (p:=fun t:zt=>t.1) zV x.2.2.2.2.1 (fun z=>zcV x z (x.2.2.2.2.1.getD z.toNat zV)) x.2.2.2.2.1 0 fun j _=>by rw [Nat.zero_add]]
    simp only [Int.toNat_natCast]
  have l1:∀ k0 (i:Nat) (x:zk),x.2.2.1.length ≤ 12→x.2.2.2.2.1.length ≤ 12→zcg K0 k0 (some (x.2.2.2.2.1,some vI,()),s.2.1,(s.2.1.length:Int),(i:Int),x.2.2.1,(x.2.2.1.length:Int),0,x) = bif zkY x then k0 (s.2.1,(s.2.1.length:Int),wI ((i:Int) + 1)) else some (false,()):=fun k0 i x hx hx2=>by
    have:=zX (B:=fun k1=>yZ (zcf K0 k0) k0 k1) (i0:=0) (n:=x.2.2.1.length) (p:=fun j=>zfW x j (x.2.2.1.getD j zB)) (fin:=bif zO (fun j=>!(x.2.2.2.2.1.getD j zV).1 || zcV x (j:Int) (x.2.2.2.2.1.getD j zV)) 0 x.2.2.2.2.1.length then k0 (s.2.1,(s.2.1.length:Int),wI ((i:Int) + 1)) else some (false,())) (bad:=some (false,())) (by omega) (Nat.zero_le _) (fun j=>(some (x.2.2.2.2.1,some vI,()),s.2.1,(s.2.1.length:Int),(i:Int),x.2.2.1,(x.2.2.1.length:Int),j,x)) (fun k j _ hj=>by
      simp only [yZ]
      rw [ltT hj,zp hj,zS,zER zoy]
      simp only [cond_true,Option.bind_some,zfW,neI]
      by_cases ha:0 ≤ (x.2.2.1.getD j zB).2.2.2.1 ∧ (x.2.2.1.getD j zB).2.2.2.1 < (x.2.2.2.2.1.length:Int)
      · rw [ixR ha]
        grind
      · grind) (fun k=>by
      simp only [yZ]
      rw [ltF,zsa (by omega) zoy,Option.bind_some]
      exact l2 k0 i x hx2)
    refine this.trans ?_
    unfold zkY
    cases zO (fun j=>zfW x j (x.2.2.1.getD j zB)) 0 (x.2.2.1.length - 0) <;> rfl
  exact zX (B:=fun k0=>y0 (zcg K0 k0) k0) (i0:=0) (n:=s.2.1.length) (by omega) (Nat.zero_le _) (fun i=>(s.2.1,(s.2.1.length:Int),i)) (fun k i _ h=>by
    have hz:=sz.shelf _ (z3 (d:=za) h)
    simp only [y0]
    have hq:yx ((s.2.1.getD i za).2.2.2.2.1,some vI,()) = some (some ((s.2.1.getD i za).2.2.2.2.1,some vI,()),()):=by
      simp only [yx,zlv (show (s.2.1.getD i za).2.2.2.2.1.length ≤ lim by omega),Option.bind_some]
      rfl
    rw [ltT h,zp h,zS,hq,Option.bind_some]
    exact l1 k i _ (by omega) (by omega)) (fun k=>by simp only [y0]; rw [ltF]; rfl)
end Go.Proofs.YtokcjmkikhgkeaaGreatDoor
end
section
namespace Go.Proofs.YtokcjmkikhgkeaaGreatDoor
open Go.Ev
def zmg (r:zf) (s:ze) (i:Int) (x:zk) (j:Nat) (t:qj):Bool:=!t.1 || bif (t.2.2.1:Int) == 1 then vm r t.2.2.2.1 else bif (t.2.2.1:Int) == 2 then yR r s i t.2.2.2.2.1 else decide (t.2.2.2.1 < (x.2.2.2.2.1.length:Int)) && ((x.2.2.2.2.1.getD (Int.toNat t.2.2.2.1) zV).1 && ((x.2.2.2.2.1.getD (Int.toNat t.2.2.2.1) zV).2.2.2.1.2.2.1:Int) == (j:Int))
theorem zES {r:zf} (hr:qp r) {s:ze} {i j:Nat} (hi:i < s.2.1.length) (hj:j < (s.2.1.getD i za).2.2.1.length) (hok:vS ((s.2.1.getD i za).2.2.1.getD j zB) = true) :
    zjc (r,s,(i:Int),(j:Int),()) = some (zmg r s i (s.2.1.getD i za) j ((s.2.1.getD i za).2.2.1.getD j zB),()):=by
  rw [zC]
  simp only [zjc]
  rw [zp hi,zS,zp hj,Int.toNat_natCast]
  simp only [ze5,zlC hr,Option.bind_some,zmg]
  generalize s.2.1.getD i za = x at *
  have ht:(x.2.2.1.getD j zB).1 = true→((x.2.2.1.getD j zB).2.2.1 == (1:Int)) = false→((x.2.2.1.getD j zB).2.2.1 == (2:Int)) = false→0 ≤ (x.2.2.1.getD j zB).2.2.2.1:=fun h1 h2 h3=>by
    unfold vS zj6 qW at hok; grind
  generalize x.2.2.1.getD j zB = t at *
  cases h1:t.1 with
  | false=>rfl
  | true =>
    cases h2:(t.2.2.1:Int) == 1 with
    | true=>cases hw:vm r t.2.2.2.1 <;> rfl
    | false =>
      cases h3:(t.2.2.1:Int) == 2 with
      | true=>cases hw:yR r s i t.2.2.2.2.1 <;> rfl
      | false =>
        have h0:=ht h1 h2 h3
        by_cases h4:t.2.2.2.1 < (x.2.2.2.2.1.length:Int)
        · rw [ixR ⟨h0,h4⟩,ixR ⟨h0,h4⟩]
          grind
        · grind
def zmh (r:zf) (x:zk) (j:Nat) (t:zt):Bool:=!t.1 || ((vm r t.2.1 && vm r t.2.2.1) && ((decide (t.2.2.2.1.2.2.1 < (x.2.2.1.length:Int)) && decide (t.2.2.2.2.1.2.2.1 < (x.2.2.1.length:Int))) && (decide (t.2.2.2.1.2.2.1 < 0) || ((x.2.2.1.getD (Int.toNat t.2.2.2.1.2.2.1) zB).1 && (((x.2.2.1.getD (Int.toNat t.2.2.2.1.2.2.1) zB).2.2.1:Int) == 3 && ((x.2.2.1.getD (Int.toNat t.2.2.2.1.2.2.1) zB).2.2.2.1:Int) == (j:Int))))))
theorem zET (r:zf) (x:zk) {j:Nat} (hj:j < x.2.2.2.2.1.length):ziV (r,x,(j:Int),()) = some (zmh r x j (x.2.2.2.2.1.getD j zV),()):=by
  rw [zC]
  simp only [ziV]
  rw [zp hj,zS]
  simp only [ze5,Option.bind_some,zmh]
  generalize x.2.2.2.2.1.getD j zV = t
  cases h1:t.1 with
  | false=>rfl
  | true =>
    by_cases ha:t.2.2.2.1.2.2.1 < (x.2.2.1.length:Int)
    · by_cases hb:0 ≤ t.2.2.2.1.2.2.1
      · rw [ixR ⟨hb,ha⟩]
        grind
      · grind
    · grind
def zqZ (r:zf) (s:ze) (i:Int) (x:zk):Bool:=x.2.1.all (zaz r s i) && (zO (fun j=>zmg r s i x j (x.2.2.1.getD j zB)) 0 (x.2.2.1.length - 0) && (zO (fun j=>zmh r x j (x.2.2.2.2.1.getD j zV)) 0 (x.2.2.2.2.1.length - 0) && (x.2.2.2.1.all (zkb r i) && x.2.2.2.2.2.2.1.all (yR r s i))))
theorem zAo {r:zf} {s:ze} (hr:qp r) (ok:zgw r) (hs:qB s) (sz:zd3 r s) {i:Nat} (hi:i < s.2.1.length):zeS (r,s,(i:Int),()) = some (qI (s.2.1.getD i za) && zqZ r s i (s.2.1.getD i za),()):=by
  rw [zC]
  have hm:12 ≤ Go.maxLen:=by unfold Go.maxLen; omega
  have hz:=sz.shelf _ (z3 (d:=za) hi)
  have hin:=hs.shelves _ (z3 (d:=za) hi)
  have h3:=ok.accounts
  simp only [zeS,zhB]
  have hitem:=fun (j:Nat) (hj:j < (s.2.1.getD i za).2.2.1.length) (hok:vS ((s.2.1.getD i za).2.2.1.getD j zB) = true)=>zES hr hi hj hok
  rw [zp hi,zS]
  generalize s.2.1.getD i za = x at *
  rw [zCi (by omega),zCj (by omega),zCm (by omega),zCn (by omega),zCq (by omega) hin.trades]
  simp only [Option.bind_some]
  unfold qI
  cases x.1.all zjt with
  | false=>rfl
  | true =>
    cases zyY x.2.1 with
    | false=>rfl
    | true =>
      cases hit:x.2.2.1.all vS with
      | false=>rfl
      | true =>
        cases x.2.2.2.1.all zju with
        | false=>rfl
        | true =>
          cases x.2.2.2.2.1.all zgv with
          | false=>rfl
          | true =>
            have l4:zcx K0 ((i:Int),0,r,s,x) = bif x.2.2.2.2.2.2.1.all (yR r s i) then some (true,()) else some (false,()) :=
              jZ (l:=x.2.2.2.2.2.2.1) zKX (fun j=>((i:Int),j,r,s,x)) (by omega) (fun k j y hj hy _=>by
                simp only [zfo]
                rw [ltT hj,zp hj,zS,hy,zlC hr]
                simp only [Option.bind_some,cond_true]) (fun k=>by simp only [zfo]; rw [ltF]; rfl)
            have l3:zcz K0 ((i:Int),0,r,s,x) = bif x.2.2.2.1.all (zkb r i) then zcx K0 ((i:Int),0,r,s,x) else some (false,()) :=
              jZ (l:=x.2.2.2.1) zdk (fun j=>((i:Int),j,r,s,x)) (by omega) (fun k j y hj hy _=>by
                simp only [zcy]
                rw [ltT hj,zp hj,zS,hy,zvv hr]
                simp only [ze5,Option.bind_some,cond_true,zkb]
                grind) (fun k=>by simp only [zcy]; rw [ltF]; rfl)
            have l2:zcC K0 ((i:Int),0,r,s,x) = bif zO (fun j=>zmh r x j (x.2.2.2.2.1.getD j zV)) 0 (x.2.2.2.2.1.length - 0) then zcz K0 ((i:Int),0,r,s,x) else some (false,()) :=
              zX (i0:=0) (n:=x.2.2.2.2.1.length) (by omega) (Nat.zero_le _) (fun j=>((i:Int),j,r,s,x)) (fun k j _ hj=>by
                simp only [zcA]
                rw [ltT hj,zET r x hj]
                simp only [Option.bind_some,cond_true]) (fun k=>by simp only [zcA]; rw [ltF]; rfl)
            have l1:zcE K0 ((i:Int),0,r,s,x) = bif zO (fun j=>zmg r s i x j (x.2.2.1.getD j zB)) 0 (x.2.2.1.length - 0) then zcC K0 ((i:Int),0,r,s,x) else some (false,()) :=
              zX (i0:=0) (n:=x.2.2.1.length) (by omega) (Nat.zero_le _) (fun j=>((i:Int),j,r,s,x)) (fun k j _ hj=>by
                simp only [zcD]
                rw [ltT hj,hitem j hj (List.all_eq_true.1 hit _ (z3 hj))]
                simp only [Option.bind_some,cond_true]) (fun k=>by simp only [zcD]; rw [ltF]; rfl)
            have l0:zjh K0 ((i:Int),0,r,s,x) = bif x.2.1.all (zaz r s i) then zcE K0 ((i:Int),0,r,s,x) else some (false,()) :=
              jZ (l:=x.2.1) qg (fun j=>((i:Int),j,r,s,x)) (by omega) (fun k j y hj hy _=>by
                simp only [zcF]
                rw [ltT hj,zp hj,zS,hy]
                simp only [zlC hr,Option.bind_some,cond_true,zaz]
                grind) (fun k=>by simp only [zcF]; rw [ltF]; rfl)
            simp only [cond_true]
            rw [l0,l1,l2,l3,l4]
            unfold zqZ
            grind
def zcW (r:zf) (s:ze) (i:Int) (x:zk):Bool:=zhe r s i x && (zd4 r i x && zkY x)
theorem zwL {α:Type} {d:α} {l:List α} {p:α→Bool}:l.all p = true ↔ ∀ j,j < l.length→p (l.getD j d) = true:=by
  rw [List.all_eq_true]
  constructor
  · exact fun h j hj=>h _ (z3 hj)
  · intro h x hx
    obtain ⟨i,hi,rfl⟩:=List.mem_iff_getElem.1 hx
    have:=h i hi
    simpa [List.getD,hi] using this
theorem zAX {t:qj} (h:vS t = true) (h1:t.1 = false):t.2.2.1 = 0:=by
  unfold vS at h
  rw [h1,cond_false] at h
  have e:eqI zL t (zb zL) = cond (t.1 == false) (cond (ByteArray.toList t.2.1 == ByteArray.toList (zb zL).2.1) (cond ((t.2.2.1:Int) == 0) (cond ((t.2.2.2.1:Int) == 0) (cond (eqI zY t.2.2.2.2.1 (zb zY)) true false) false) false) false) false:=rfl
  rw [e] at h
  cases hk:(t.2.2.1:Int) == 0 with
  | true=>exact eq_of_beq hk
  | false =>
    rw [hk] at h
    revert h
    cases (t.1 == false) <;> cases (ByteArray.toList t.2.1 == ByteArray.toList (zb zL).2.1) <;> intro h <;> cases h
theorem zy6 {r:zf} {s:ze} {i:Int} {x:zk} {j:Nat} {t:qj} (h:vS t = true):zmg r s i x j t = (zaA r s i t && (zka r t && zfW x j t)):=by
  unfold zmg zaA zka zfW
  cases h1:t.1 with
  | false =>
    have:=zAX h h1
    rw [this]; rfl
  | true =>
    unfold vS zj6 qW at h
    rw [h1] at h
    generalize vm r t.2.2.2.1 = a at *
    generalize yR r s i t.2.2.2.2.1 = b at *
    grind
theorem zH9 {r:zf} {x:zk} (hit:x.2.2.1.all vS = true) {j:Nat} {t:zt}:zmh r x j t = (zkc r t && (!t.1 || zcV x (j:Int) t)):=by
  unfold zmh zkc zcV
  have hi:0 ≤ t.2.2.2.1.2.2.1→t.2.2.2.1.2.2.1 < (x.2.2.1.length:Int)→((x.2.2.1.getD (Int.toNat t.2.2.2.1.2.2.1) zB).2.2.1 == (3:Int)) = true→(x.2.2.1.getD (Int.toNat t.2.2.2.1.2.2.1) zB).1 = true:=fun h1 h2 h3=>by
    have h4:=List.all_eq_true.1 hit _ (z3 (d:=zB) (show (Int.toNat t.2.2.2.1.2.2.1) < x.2.2.1.length by omega))
    cases h5:(x.2.2.1.getD (Int.toNat t.2.2.2.1.2.2.1) zB).1 with
    | true=>rfl
    | false =>
      have:=zAX h4 h5
      rw [this] at h3
      exact absurd h3 (by decide)
  generalize x.2.2.1.getD (Int.toNat t.2.2.2.1.2.2.1) zB = y at *
  cases t.1 with
  | false=>rfl
  | true=>grind
theorem zGv {r:zf} {s:ze} {i:Int} {x:zk} (hit:x.2.2.1.all vS = true):zqZ r s i x = zcW r s i x:=by
  have hi:=List.all_eq_true.1 hit
  rw [Bool.eq_iff_iff]
  unfold zqZ zcW zhe zd4 zkY
  simp only [Bool.and_eq_true,qr,@zwL qj zB,@zwL zt zV,zH9 hit]
  constructor
  · rintro ⟨h1,h2,h3,h4,h5⟩
    have h2':∀ j,j < x.2.2.1.length→zaA r s i (x.2.2.1.getD j zB) = true ∧ zka r (x.2.2.1.getD j zB) = true ∧ zfW x j (x.2.2.1.getD j zB) = true:=fun j hj=>by
      have:=h2 j (Nat.zero_le _) (by omega)
      rw [zy6 (hi _ (z3 hj))] at this
      simpa [Bool.and_eq_true] using this
    exact ⟨⟨h1,fun j hj=>(h2' j hj).1,h5⟩,⟨fun j hj=>(h2' j hj).2.1,h4,fun j hj=>(h3 j (Nat.zero_le _) (by omega)).1⟩,fun j _ hj=>(h2' j (by omega)).2.2,fun j _ hj=>(h3 j (Nat.zero_le _) (by omega)).2⟩
  · rintro ⟨⟨h1,h2,h3⟩,⟨h4,h5,h6⟩,h7,h8⟩
    refine ⟨h1,fun j _ hj=>?_,fun j _ hj=>⟨h6 j (by omega),h8 j (by omega) (by omega)⟩,h5,h3⟩
    rw [zy6 (hi _ (z3 (by omega))),h2 j (by omega),h4 j (by omega),h7 j (by omega) (by omega)]
    rfl
theorem zCD {r:zf} {s:ze} (hr:qp r) (ok:zgw r) (hs:qB s) (sz:zd3 r s) {i:Nat} (hi:i < s.2.1.length):zeS (r,s,(i:Int),()) = some (qI (s.2.1.getD i za) && zcW r s i (s.2.1.getD i za),()):=by
  rw [zAo hr ok hs sz hi]
  cases h:qI (s.2.1.getD i za) with
  | false=>rfl
  | true =>
    have hit:(s.2.1.getD i za).2.2.1.all vS = true:=by
      simp only [qI,Bool.and_eq_true] at h
      exact h.2.2.1
    rw [zGv hit]
end Go.Proofs.YtokcjmkikhgkeaaGreatDoor
end
section
namespace Go.Proofs.YtokcjmkikhgkeaaGreatDoor
open Go.Ev
def zE:List Int→Int
  | []=>0
  | x :: l=>x + zE l
theorem zwM:∀ (l m:List Int),zE (l ++ m) = zE l + zE m
  | [],m=>by simp [zE]
  | x :: l,m=>by simp only [List.cons_append,zE,zwM l m]; omega
theorem znc:∀ {l:List Int},(∀ x ∈ l,0 ≤ x)→0 ≤ zE l
  | [],_=>Int.le_refl 0
  | x :: l,h=>by
    have h1:=h x (by simp)
    have h2:=znc (l:=l) fun y hy=>h y (by simp [hy])
    simp only [zE]; omega
theorem qX {α:Type} {g:α→Int} {l:List α} (h:∀ x ∈ l,0 ≤ g x):0 ≤ zE (l.map g):=znc fun x hx=>by
  obtain ⟨y,hy,rfl⟩:=List.mem_map.1 hx
  exact h y hy
def zjx (n:Int):Int × Int × Unit:=bif decide (n > M62) then (0,7,()) else (n,0,())
theorem jq {n:Int} (h:n > M62):zjx n = (0,7,()):=by unfold zjx; rw [decide_eq_true h]; rfl
theorem yb {n:Int} (h:n ≤ M62):zjx n = (n,0,()):=by unfold zjx; rw [decide_eq_false (by omega)]; rfl
theorem znd:∀ (l:List Int) (a:Int),a ≤ M62→(∀ x ∈ l,0 ≤ x)→zj7 a l = zjx (a + zE l)
  | [],a,h,_=>by simp only [zj7,zE,Int.add_zero]; exact (yb h).symm
  | x :: l,a,h,hp=>by
    have h2:=znc (l:=l) fun y hy=>hp y (by simp [hy])
    simp only [zj7,zE]
    by_cases hb:a + x > M62
    · rw [decide_eq_true hb,jq (by omega)]; rfl
    · rw [decide_eq_false hb,cond_false,znd l (a + x) (by omega) fun y hy=>hp y (by simp [hy])]
      congr 1; omega
theorem zpb {α:Type} (p:α→Bool) (g:α→Int):∀ l:List α,zE ((l.filter p).map g) = zE (l.map fun x=>bif p x then g x else 0)
  | []=>rfl
  | x :: l=>by
    have ih:=zpb p g l
    rw [zj8]
    simp only [List.map_cons,zE]
    cases hp:p x with
    | true=>simp only [cond_true,List.map_cons,zE,ih]
    | false=>simp only [cond_false,ih]; omega
def zkZ (x:zn):Int:=bif (x.2.2.2.1:Int) == 2 then x.2.2.2.2.1 else x.2.2.2.2.2.1
theorem zJ0 (x:zn):zhk (x,()) = some (zkZ x,()):=by
  simp only [zhk,zkZ]; grind
def qt (c:Int) (x:zn):Int:=bif x.1 && zkZ x == c then x.2.2.2.2.2.2.2.2.1 else 0
def zkd (l:List zn) (c:Int):Int × Int × Unit:=bif zT c then zjx (zE (l.map (qt c))) else (0,1,())
theorem zIa (l:List zn) (hl:l.length ≤ lim):zlZ (l,()) = some (some (l,some ziG,()),()):=by
  simp only [zlZ,zhP,zr6 hl,Option.bind_some]
  rfl
theorem zEU (x:zn):ziG (x,()) = some (x.1,()):=by
  rw [zC]; rfl
theorem zGw {l:List zn} (hl:l.length ≤ lim) (h:∀ x ∈ l,zgx x) (c:Int):zkx (l,c,()) = some (zkd l c):=by
  have hl':l.length ≤ Go.maxLen:=by unfold lim at hl; unfold Go.maxLen; omega
  simp only [zkx,zkw,vT,Option.bind_some]
  unfold zkd
  cases hc:zT c with
  | false=>rfl
  | true =>
    have hslots:zi6 (l,()) = some (qO (fun x:zn=>x.1) 0 l,()):=by
      simp only [zi6]
      rw [zIa l hl,Option.bind_some,zCr hl zEU,Option.bind_some]
    simp only [cond_true]
    rw [hslots,Option.bind_some]
    have hsl:=zl3 (p:=fun x:zn=>x.1) l 0
    have hsm:=zl4 (p:=fun x:zn=>x.1) l 0
    have hloop:=jQ (B:=zeR) (l:=qO (fun x:zn=>x.1) 0 l) (α:=List Int) (0:Int) (fun i o=>o.length ≤ i ∧ ∀ x ∈ o,0 ≤ x ∧ x < U64) (fun i o=>(l,c,qO (fun x:zn=>x.1) 0 l,((qO (fun x:zn=>x.1) 0 l).length:Int),i,o))
      (fun rest o=>some (zj7 0 (o ++ (rest.filter fun z=>zkZ (l.getD z.toNat zH) == c).map fun z=>(l.getD z.toNat zH).2.2.2.2.2.2.2.2.1))) (by omega) (fun k i x rest o hi hI hx hm hr hk=>by
        simp only [zeR]
        obtain ⟨j,rfl,-,hj⟩:=hsm x hm
        rw [ltT hi,zp hi,zS,hx,zp (by omega),zp (by omega),Int.toNat_natCast,ztQ,zJ0]
        have hxx:=(h (l.getD j zH) (z3 (by omega))).held
        simp only [cond_true,zj8,Int.toNat_natCast,Option.bind_some]
        rw [decide_eq_true (by simp; omega)]
        simp only [cond_true]
        cases hq:zkZ (l.getD j zH) == c with
        | false =>
          exact hk o ⟨by omega,hI.2⟩
        | true =>
          simp only [cond_true,List.map_cons,Int.toNat_natCast]
          refine (hk _ ⟨by simp; omega,fun x hx=>?_⟩).trans ?_
          · rcases List.mem_append.1 hx with hx | hx
            · exact hI.2 x hx
            · rcases List.mem_singleton.1 hx with rfl
              exact hxx
          · rw [List.append_assoc]; rfl) (fun k o hI=>by
        simp only [zeR]
        rw [ltF]
        simp only [cond_false]
        rw [zl2 (by omega) hI.2,List.filter_nil,List.map_nil,List.append_nil]
        rfl) [] ⟨Nat.le_refl _,fun x hx=>by cases hx⟩
    refine hloop.trans ?_
    rw [List.nil_append,zlA (q:=fun x:zn=>zkZ x == c) (g:=fun x:zn=>x.2.2.2.2.2.2.2.2.1) zH l l 0 fun j _=>by rw [Nat.zero_add]]
    rw [znd _ 0 (by unfold M62; omega) fun x hx=>?_,zpb,Int.zero_add]
    · rfl
    · obtain ⟨y,hy,rfl⟩:=List.mem_map.1 hx
      exact (h y (List.mem_filter.1 hy).1).held.1
theorem zeW {x:zn} (h:zgx x) (c:Int):jf (qt c x):=by
  unfold qt
  cases x.1 && zkZ x == c with
  | true=>exact h.held
  | false=>exact (⟨Int.le_refl 0,by unfold U64; decide⟩:jf 0)
theorem zCE (x:zn) (c:Int):zhs (x,c,()) = some (qt c x,()):=by
  simp only [zhs,qt,zkZ]; grind
theorem zne {a b:Int}:zov a b = zjx (a + b):=rfl
theorem zEV {l:List zn} (hl:l.length ≤ Go.maxLen) (h:∀ x ∈ l,zgx x) (c:Int):ziX (l,c,()) = some (zkd l c):=by
  simp only [ziX,ziW]
  unfold zkd
  cases hc:zT c with
  | false=>unfold zT at hc; grind
  | true =>
    have hloop:=jQ (B:=zdH) (l:=l) (α:=Int) zH (fun _ s=>0 ≤ s ∧ s ≤ M62) (fun i s=>(l,c,s,i)) (fun rest s=>some (zjx (s + zE (rest.map (qt c))))) hl (fun k i x rest s hi hI hx hm hr hk=>by
      simp only [zdH]
      have hxx:=zeW (h x hm) c
      have hrest:0 ≤ zE (rest.map (qt c)):=qX fun y hy=>(zeW (h y (by rw [← hr] at hy; exact List.mem_of_mem_drop hy)) c).1
      rw [ltT hi,zp hi,zS,hx,zCE]
      simp only [cond_true,Option.bind_some,List.map_cons,zE]
      rw [zd1 (by unfold M62 at hI; unfold U64; omega) hxx,zne,Option.bind_some]
      by_cases hb:s + qt c x > M62
      · rw [jq hb,jq (by omega)]; rfl
      · rw [yb (by omega)]
        have:=hk (s + qt c x) ⟨by have:=hxx.1; omega,by omega⟩
        refine this.trans ?_
        rw [Int.add_assoc]) (fun k s hI=>by
      simp only [zdH]; rw [ltF]
      simp only [cond_false,List.map_nil,zE,Int.add_zero]
      rw [yb hI.2]) 0 (by unfold M62; omega)
    refine Eq.trans ?_ (hloop.trans ?_)
    · unfold zT at hc
      grind
    · rw [Int.zero_add]; rfl
def vV (c:Int) (x:zt):Int:=bif x.1 && (x.2.2.2.1.1:Int) == c then x.2.2.2.1.2.1 else 0
theorem ztW {l:List zt} (h:∀ x ∈ l,zgu x) {c:Int} (hc:zT c = true):zif l c = zjx (zE (l.map (vV c))):=by
  unfold zif
  rw [hc,cond_true,znd _ 0 (by unfold M62; omega) fun x hx=>?_,zpb,Int.zero_add]
  · rfl
  · obtain ⟨y,hy,rfl⟩:=List.mem_map.1 hx
    exact (h y (List.mem_filter.1 hy).1).1.1
theorem zCF {x:zt} (h:zgu x) (c:Int):jf (vV c x):=by
  unfold vV
  cases x.1 && (x.2.2.2.1.1:Int) == c with
  | true=>exact h.1
  | false=>exact (⟨Int.le_refl 0,by unfold U64; decide⟩:jf 0)
def qF (c:Int) (a:List Int):Int:=a.getD c.toNat 0
def zR (c:Int) (x:zk):Int:=zE (x.2.2.2.2.1.map (vV c)) + zE (x.2.2.2.2.2.1.map (qF c))
theorem zjy {x:zk} (h:zme x) (c:Int):0 ≤ zE (x.2.2.2.2.1.map (vV c)):=qX fun y hy=>(zCF (h.trades y hy) c).1
theorem zq0 {x:zk} (h:zme x) (c:Int):0 ≤ zE (x.2.2.2.2.2.1.map (qF c)):=qX fun y hy=>(vU (h.purses y hy) _).1
theorem zbw {x:zk} (h:zme x) (c:Int):0 ≤ zR c x:=by
  have:=zjy h c
  have:=zq0 h c
  unfold zR; omega
def zcX (s:ze) (c:Int):Int × Int × Unit:=bif zT c then zjx (zE (s.2.2.2.1.map (qt c)) + zE (s.2.1.map (zR c))) else (0,1,())
def wts:List zk→Nat
  | []=>0
  | x :: l=>1 + x.2.2.2.2.2.1.length + wts l
structure zuk (s:ze):Prop where
  shelves:s.2.1.length ≤ 2000000
  orders:s.2.2.2.1.length ≤ 2000000
  shelf:∀ x ∈ s.2.1,x.2.2.2.2.1.length ≤ 2000000 ∧ x.2.2.2.2.2.1.length ≤ 2000000
  all:wts s.2.1 ≤ 2000000
theorem zJ1 {l:List zk} {i:Nat} {x:zk} {rest:List zk} (hi:i < l.length) (hx:l.getD i za = x) (hr:l.drop (i + 1) = rest):wts (l.drop i) = 1 + x.2.2.2.2.2.1.length + wts rest:=by
  rw [zbF za hi,hx,hr]; rfl
theorem zJk {n:Nat}:∀ {l:List zk},(∀ x ∈ l,x.2.2.2.2.2.1.length ≤ n)→wts l ≤ l.length * (n + 1)
  | [],_=>Nat.zero_le _
  | x :: l,h=>by
    have h1:=h x (by simp)
    have h2:=zJk (l:=l) fun y hy=>h y (by simp [hy])
    simp only [wts,List.length_cons,Nat.add_mul]
    omega
theorem zcY {c:Int} (hc:zT c = true):0 ≤ c ∧ c < ((4:Nat):Int):=by
  simp only [zT,decide_eq_true_eq] at hc; omega
theorem zEW {s:ze} (hs:qB s) (sh:zuk s) (c:Int):zjg (s,c,()) = some (zcX s c):=by
  have hlm:10000000 ≤ lim:=by unfold lim; omega
  have hmm:10000000 ≤ Go.maxLen:=by unfold Go.maxLen; omega
  have hsh:=sh.shelves
  have hso:=sh.orders
  simp only [zjg,zjf,vT,Option.bind_some]
  rw [zGw (by omega) hs.orders]
  unfold zcX zkd
  cases hc:zT c with
  | false=>rfl
  | true =>
    have hcin:=zcY hc
    simp only [cond_true,Option.bind_some]
    have hbook:0 ≤ zE (s.2.2.2.1.map (qt c)):=qX fun y hy=>(zeW (hs.orders y hy) c).1
    have hall:0 ≤ zE (s.2.1.map (zR c)):=qX fun y hy=>zbw (hs.shelves y hy) c
    have inner:∀ k0 (i:Nat) (x:zk) (o:List Int),x.2.2.2.2.2.1.length ≤ 2000000→o.length ≤ 2000001→zdY K0 k0 (c,s.2.1,(s.2.1.length:Int),(i:Int),x.2.2.2.2.2.1,(x.2.2.2.2.2.1.length:Int),0,o) = k0 (c,s.2.1,(s.2.1.length:Int),wI ((i:Int) + 1),o ++ x.2.2.2.2.2.1.map (qF c)):=fun k0 i x o hx ho =>
      jQ (B:=fun k1=>zdX k0 k1) (l:=x.2.2.2.2.2.1) (α:=List Int) (zb (Ty.arr 4 tU)) (fun j o'=>o'.length ≤ 2000001 + j) (fun j o'=>(c,s.2.1,(s.2.1.length:Int),(i:Int),x.2.2.2.2.2.1,(x.2.2.2.2.2.1.length:Int),j,o')) (fun rest o'=>k0 (c,s.2.1,(s.2.1.length:Int),wI ((i:Int) + 1),o' ++ rest.map (qF c))) (by omega) (fun k j a rest o' hj hI ha hm hr hk=>by
        simp only [zdX]
        have h4:((4:Int)) = ((4:Nat):Int):=rfl
        rw [ltT hj,zp hj,Int.toNat_natCast,ha,ztQ,decide_eq_true (by simp; omega)]
        simp only [cond_true]
        refine Eq.trans (ixR hcin) ?_
        refine (hk _ (by simp; omega)).trans ?_
        rw [List.append_assoc]; rfl) (fun k o' _=>by
        simp only [zdX]; rw [ltF]
        simp only [cond_false,List.map_nil,List.append_nil]) o ho
    by_cases hb:zE (s.2.2.2.1.map (qt c)) > M62
    · rw [jq hb,jq (by omega)]; rfl
    · rw [yb (by omega)]
      have hloop:=jQ (B:=fun k0=>zaH (zdY K0 k0) k0) (l:=s.2.1) (α:=List Int) za (fun i o=>o.length + wts (s.2.1.drop i) ≤ 2000001 ∧ ∀ x ∈ o,0 ≤ x ∧ x < U64) (fun i o=>(c,s.2.1,(s.2.1.length:Int),i,o)) (fun rest o=>some (zjx (zE o + zE (rest.map (zR c))))) (by omega) (fun k i x rest o hi hI hx hm hr hk=>by
        simp only [zaH]
        have hin:=hs.shelves x hm
        have hlen:=sh.shelf x hm
        have hw:=zJ1 hi hx hr
        have hw2:=hI.1
        rw [hw] at hw2
        have h1:=zjy hin c
        have h2:=zq0 hin c
        have ho:0 ≤ zE o:=znc fun y hy=>(hI.2 y hy).1
        have hrest:0 ≤ zE (rest.map (zR c)):=qX fun y hy=>zbw (hs.shelves y (by rw [← hr] at hy; exact List.mem_of_mem_drop hy)) c
        rw [ltT hi,zp hi,zS,hx,zEM (by omega) hin.trades,ztW hin.trades hc]
        simp only [cond_true,Option.bind_some,List.map_cons,zE,zR]
        by_cases hb:zE (x.2.2.2.2.1.map (vV c)) > M62
        · rw [jq hb,jq (by omega)]; rfl
        · rw [yb (by omega),ztQ,inner k i x _ (by omega) (by simp; omega)]
          rw [decide_eq_true (by simp; omega)]
          simp only [bne_self_eq_false,cond_true,cond_false]
          refine (hk _ ⟨by rw [hr]; simp; omega,fun y hy=>?_⟩).trans ?_
          · rcases List.mem_append.1 hy with hy | hy
            · rcases List.mem_append.1 hy with hy | hy
              · exact hI.2 y hy
              · rcases List.mem_singleton.1 hy with rfl
                unfold M62 at hb; unfold U64; omega
            · obtain ⟨a,ha,rfl⟩:=List.mem_map.1 hy
              exact vU (hin.purses a ha) _
          · rw [zwM,zwM]
            simp only [zE]
            congr 2; omega) (fun k o hI=>by
        simp only [zaH]
        rw [ltF]
        simp only [cond_false]
        rw [zl2 (by omega) hI.2,znd o 0 (by unfold M62; omega) fun y hy=>(hI.2 y hy).1]
        simp only [List.map_nil,zE,Int.add_zero,Int.zero_add]
        rfl) [zE (s.2.2.2.1.map (qt c))] ⟨by have:=sh.all; simp; omega,fun y hy=>by
          rcases List.mem_singleton.1 hy with rfl
          unfold M62 at hb; unfold U64; omega⟩
      refine hloop.trans ?_
      simp only [zE,Int.add_zero]
theorem zEX {s:ze} (hs:qB s) (sh:zuk s) (c:Int):zi5 (s,c,()) = some (zcX s c):=by
  have hmm:10000000 ≤ Go.maxLen:=by unfold Go.maxLen; omega
  have hsh:=sh.shelves
  have hso:=sh.orders
  simp only [zi5,zi4]
  rw [zEV (by omega) hs.orders]
  unfold zcX zkd
  cases hc:zT c with
  | false=>rfl
  | true =>
    have hcin:=zcY hc
    simp only [cond_true,Option.bind_some]
    have hbook:0 ≤ zE (s.2.2.2.1.map (qt c)):=qX fun y hy=>(zeW (hs.orders y hy) c).1
    have hall:0 ≤ zE (s.2.1.map (zR c)):=qX fun y hy=>zbw (hs.shelves y hy) c
    have inner:∀ k0 (i:Nat) (a:Int),i < s.2.1.length→0 ≤ a ∧ a ≤ M62→zdR K0 k0 (c,a,(i:Int),0,s) = bif decide (a + zE ((s.2.1.getD i za).2.2.2.2.2.1.map (qF c)) > M62) then some (0,7,()) else k0 (c,a + zE ((s.2.1.getD i za).2.2.2.2.2.1.map (qF c)),wI ((i:Int) + 1),s):=fun k0 i a hi ha=>by
      have hlen:=sh.shelf _ (z3 (d:=za) hi)
      have hin:=hs.shelves _ (z3 (d:=za) hi)
      exact jQ (B:=fun k1=>zdQ k0 k1) (l:=(s.2.1.getD i za).2.2.2.2.2.1) (α:=Int) (zb (Ty.arr 4 tU)) (fun j a=>0 ≤ a ∧ a ≤ M62) (fun j a=>(c,a,(i:Int),j,s)) (fun rest a=>bif decide (a + zE (rest.map (qF c)) > M62) then some (0,7,()) else k0 (c,a + zE (rest.map (qF c)),wI ((i:Int) + 1),s)) (by omega) (fun k j y rest a hj hI hy hm hr hk=>by
        have hyy:=vU (hin.purses y hm) c.toNat
        have hrest:0 ≤ zE (rest.map (qF c)):=qX fun z hz=>(vU (hin.purses z (by rw [← hr] at hz; exact List.mem_of_mem_drop hz)) _).1
        simp only [zdQ]
        simp only [zp hi,zS]
        rw [ltT hj,zp hj,hy]
        simp only [cond_true,List.map_cons,zE]
        refine Eq.trans (ixR hcin) ?_
        rw [zd1 (by unfold M62 at hI; unfold U64; omega) hyy,zne,Option.bind_some]
        have hp:qF c y = List.getD y c.toNat 0:=rfl
        rw [hp]
        by_cases hb:a + List.getD y c.toNat 0 > M62
        · rw [jq hb,decide_eq_true (by omega)]; rfl
        · rw [yb (by omega)]
          have:=hk (a + List.getD y c.toNat 0) ⟨by have:=hyy.1; omega,by omega⟩
          refine this.trans ?_
          rw [Int.add_assoc]) (fun k a hI=>by
        simp only [zdQ]
        simp only [zp hi,zS]
        rw [ltF]
        simp only [cond_false,List.map_nil,zE,Int.add_zero]
        rw [decide_eq_false (by omega)]; rfl) a ha
    by_cases hb:zE (s.2.2.2.1.map (qt c)) > M62
    · rw [jq hb,jq (by omega)]; rfl
    · rw [yb (by omega)]
      have hloop:=jQ (B:=fun k0=>zaF (zdR K0 k0) k0) (l:=s.2.1) (α:=Int) za (fun i a=>0 ≤ a ∧ a ≤ M62) (fun i a=>(c,a,i,s)) (fun rest a=>some (zjx (a + zE (rest.map (zR c))))) (by omega) (fun k i x rest a hi hI hx hm hr hk=>by
        simp only [zaF]
        have hin:=hs.shelves x hm
        have hlen:=sh.shelf x hm
        have h1:=zjy hin c
        have h2:=zq0 hin c
        have hrest:0 ≤ zE (rest.map (zR c)):=qX fun y hy=>zbw (hs.shelves y (by rw [← hr] at hy; exact List.mem_of_mem_drop hy)) c
        have hinn:=fun a ha=>inner k i a hi ha
        rw [hx] at hinn
        rw [ltT hi,zp hi,zS,hx,zEN (by omega) hin.trades,ztW hin.trades hc]
        simp only [cond_true,Option.bind_some,List.map_cons,zE,zR]
        by_cases hb:zE (x.2.2.2.2.1.map (vV c)) > M62
        · rw [jq hb,jq (by omega)]; rfl
        · rw [yb (by omega),zd1 (by unfold M62 at hI; unfold U64; omega) (by unfold M62 at hb; unfold U64; omega),zne,Option.bind_some]
          by_cases hb2:a + zE (x.2.2.2.2.1.map (vV c)) > M62
          · rw [jq hb2,jq (by omega)]; rfl
          · rw [yb (by omega),hinn _ (by omega)]
            simp only [bne_self_eq_false,cond_false]
            by_cases hb3:a + zE (x.2.2.2.2.1.map (vV c)) + zE (x.2.2.2.2.2.1.map (qF c)) > M62
            · rw [decide_eq_true hb3,jq (by omega)]; rfl
            · rw [decide_eq_false hb3,cond_false]
              refine (hk _ (by omega)).trans ?_
              congr 2; omega) (fun k a hI=>by
        simp only [zaF]
        rw [ltF]
        simp only [cond_false,List.map_nil,zE,Int.add_zero]
        rw [yb hI.2]) (zE (s.2.2.2.1.map (qt c))) (by omega)
      exact hloop
end Go.Proofs.YtokcjmkikhgkeaaGreatDoor
end
section
namespace Go.Proofs.YtokcjmkikhgkeaaGreatDoor
open Go.Ev
def zfX (a b:Int):Int × Int × Unit:=bif decide (a < b) then (0,6,()) else (a - b,0,())
theorem zEY {a b:Int} (ha:0 ≤ a ∧ a ≤ M62) (hb:0 ≤ b ∧ b ≤ M62):zaO (a,b,()) = some (zfX a b):=by
  simp only [zaO,extA,extB,zfX,cond_false]
  unfold M62 at *
  have h2:b ≤ a→(a - b) % 18446744073709551616 = a - b:=fun h=>by omega
  grind
theorem zCG {a b:Int} (ha:0 ≤ a ∧ a ≤ M62) (hb:0 ≤ b ∧ b ≤ M62):zeJ (a,b,()) = some (zfX a b):=by
  simp only [zeJ,zfX]
  unfold M62 at *
  by_cases h:b > a
  · grind
  · have hw:wU (a - b) = a - b:=zgr (by omega)
    rw [hw]; grind
def zbn (f:zk→List Int) (s:ze) (c:Int):Int:=zE (s.2.1.map fun x=>qF c (f x))
theorem znf {f:zk→List Int} {s:ze} (h:∀ x ∈ s.2.1,zqY (f x)) (c:Int):0 ≤ zbn f s c:=qX fun y hy=>(vU (h y hy) _).1
theorem zEZ {s:ze} (sh:zuk s) {f:zk→List Int} {g:zk × Unit→Option (List Int × Unit)} (hg:∀ x,g (x,()) = some (f x,())) (h:∀ x ∈ s.2.1,zqY (f x)) {c:Int} (hc:zT c = true):zgk (s,c,some g,()) = some (zjx (zbn f s c)):=by
  have hlm:10000000 ≤ lim:=by unfold lim; omega
  have hmm:10000000 ≤ Go.maxLen:=by unfold Go.maxLen; omega
  have hsh:=sh.shelves
  have hcin:=zcY hc
  have hloop:=jQ (B:=za1) (l:=s.2.1) (α:=List Int) za (fun i o=>o.length ≤ i ∧ ∀ x ∈ o,0 ≤ x ∧ x < U64) (fun i o=>(c,some g,s.2.1,(s.2.1.length:Int),i,o)) (fun rest o=>some (zj7 0 (o ++ rest.map fun x=>qF c (f x)))) (by omega) (fun k i x rest o hi hI hx hm hr hk=>by
    simp only [za1]
    rw [ltT hi,zp hi,zS,hx]
    simp only [cond_true,Option.bind_some]
    rw [hg]
    simp only [Option.bind_some]
    refine Eq.trans (ixR hcin) ?_
    rw [ztQ,decide_eq_true (by simp; omega)]
    simp only [cond_true]
    refine (hk _ ⟨by simp; omega,fun y hy=>?_⟩).trans ?_
    · rcases List.mem_append.1 hy with hy | hy
      · exact hI.2 y hy
      · rcases List.mem_singleton.1 hy with rfl
        exact vU (h x hm) _
    · rw [List.append_assoc]; rfl) (fun k o hI=>by
    simp only [za1]
    rw [ltF]
    simp only [cond_false]
    rw [zl2 (by omega) hI.2,List.map_nil,List.append_nil]
    rfl) [] ⟨Nat.le_refl _,fun x hx=>by cases hx⟩
  refine Eq.trans ?_ (hloop.trans ?_)
  · rfl
  · rw [List.nil_append,znd _ 0 (by unfold M62; omega) fun y hy=>?_,Int.zero_add]
    · rfl
    · obtain ⟨z,hz,rfl⟩:=List.mem_map.1 hy
      exact (vU (h z hz) _).1
def zfw (s:ze) (c:Int):Int × Int × Unit:=bif zT c then bif decide (zbn (fun x=>x.2.2.2.2.2.2.2.1) s c > M62) then (0,7,()) else bif decide (zbn (fun x=>x.2.2.2.2.2.2.2.2.1) s c > M62) then (0,7,()) else zfX (zbn (fun x=>x.2.2.2.2.2.2.2.1) s c) (zbn (fun x=>x.2.2.2.2.2.2.2.2.1) s c) else (0,1,())
theorem zE0 {s:ze} (hs:qB s) (sh:zuk s) (c:Int):zi9 (s,c,()) = some (zfw s c):=by
  simp only [zi9,vT,Option.bind_some]
  unfold zfw
  cases hc:zT c with
  | false=>rfl
  | true =>
    have p1:=znf (f:=fun x=>x.2.2.2.2.2.2.2.1) (fun x hx=>(hs.shelves x hx).made) c
    have p2:=znf (f:=fun x=>x.2.2.2.2.2.2.2.2.1) (fun x hx=>(hs.shelves x hx).spent) c
    rw [zEZ sh (f:=fun x=>x.2.2.2.2.2.2.2.1) (g:=zjV) (fun x=>rfl) (fun x hx=>(hs.shelves x hx).made) hc,zEZ sh (f:=fun x=>x.2.2.2.2.2.2.2.2.1) (g:=zjW) (fun x=>rfl) (fun x hx=>(hs.shelves x hx).spent) hc]
    simp only [cond_true,Option.bind_some]
    generalize zbn (fun x=>x.2.2.2.2.2.2.2.1) s c = a at *
    generalize zbn (fun x=>x.2.2.2.2.2.2.2.2.1) s c = b at *
    by_cases h1:a > M62
    · rw [jq h1,decide_eq_true h1]; rfl
    · rw [yb (by omega),decide_eq_false h1]
      by_cases h2:b > M62
      · rw [jq h2,decide_eq_true h2]; rfl
      · rw [yb (by omega),decide_eq_false h2]
        simp only [bne_self_eq_false,cond_false]
        rw [zEY (by omega) (by omega)]; rfl
theorem zE1 {s:ze} (hs:qB s) (sh:zuk s) (c:Int):zi1 (s,c,()) = some (zfw s c):=by
  have hmm:10000000 ≤ Go.maxLen:=by unfold Go.maxLen; omega
  have hsh:=sh.shelves
  simp only [zi1,zi0]
  unfold zfw
  cases hc:zT c with
  | false=>unfold zT at hc; grind
  | true =>
    have hcin:=zcY hc
    have p1:=znf (f:=fun x=>x.2.2.2.2.2.2.2.1) (fun x hx=>(hs.shelves x hx).made) c
    have p2:=znf (f:=fun x=>x.2.2.2.2.2.2.2.2.1) (fun x hx=>(hs.shelves x hx).spent) c
    have l1:∀ (a b e:Int),0 ≤ a ∧ a ≤ M62→((e = 0 ∧ 0 ≤ b ∧ b ≤ M62) ∨ e = 7)→zaD K0 (c,a,b,e,0,s) = bif e == 0 then (bif decide (b + zbn (fun x=>x.2.2.2.2.2.2.2.2.1) s c > M62) then some (0,7,()) else some (zfX a (b + zbn (fun x=>x.2.2.2.2.2.2.2.2.1) s c))) else some (0,7,()):=fun a b e ha he =>
      jQ (B:=zdM) (l:=s.2.1) (α:=Int × Int) za (fun _ st=>(st.2 = 0 ∧ 0 ≤ st.1 ∧ st.1 ≤ M62) ∨ st.2 = 7) (fun i st=>(c,a,st.1,st.2,i,s)) (fun rest st=>bif st.2 == 0 then (bif decide (st.1 + zE (rest.map fun x=>qF c x.2.2.2.2.2.2.2.2.1) > M62) then some (0,7,()) else some (zfX a (st.1 + zE (rest.map fun x=>qF c x.2.2.2.2.2.2.2.2.1)))) else some (0,7,())) (by omega) (fun k i x rest st hi hI hx hm hr hk=>by
        obtain ⟨b,e⟩:=st
        have hrest:0 ≤ zE (rest.map fun x:zk=>qF c x.2.2.2.2.2.2.2.2.1):=qX fun y hy=>(vU (hs.shelves y (by rw [← hr] at hy; exact List.mem_of_mem_drop hy)).spent _).1
        simp only [zdM]
        rw [ltT hi,zp hi,zS,hx]
        rcases hI with ⟨h0,hb⟩ | h7
        · simp only at h0 hb
          subst h0
          have hxx:=vU (hs.shelves x hm).spent c.toNat
          simp only [beq_self_eq_true,cond_true,List.map_cons,zE,qF]
          refine Eq.trans (ixR hcin) ?_
          rw [zd1 (by unfold M62 at hb; unfold U64; omega) hxx,zne,Option.bind_some]
          by_cases hh:b + List.getD x.2.2.2.2.2.2.2.2.1 c.toNat 0 > M62
          · rw [jq hh]
            unfold qF at hrest
            rw [decide_eq_true (by omega)]
            exact hk (0,7) (.inr rfl)
          · rw [yb (by omega)]
            have:=hk (b + List.getD x.2.2.2.2.2.2.2.2.1 c.toNat 0,0) (.inl ⟨rfl,by have:=hxx.1; show 0 ≤ b + _ ∧ b + _ ≤ M62; omega⟩)
            refine this.trans ?_
            simp only [beq_self_eq_true,cond_true]
            rw [Int.add_assoc]; rfl
        · simp only at h7
          subst h7
          rfl) (fun k st hI=>by
        obtain ⟨b,e⟩:=st
        simp only [zdM]
        rw [ltF]
        rcases hI with ⟨h0,hb⟩ | h7
        · simp only at h0 hb
          subst h0
          simp only [bne_self_eq_false,cond_false,beq_self_eq_true,cond_true,List.map_nil,zE,Int.add_zero]
          rw [zCG ha hb,decide_eq_false (by omega)]
          rfl
        · simp only at h7
          subst h7
          rfl) (b,e) he
    have l0:=jQ (B:=fun k0=>zaE (zaD K0) k0) (l:=s.2.1) (α:=Int × Int) za (fun _ st=>(st.2 = 0 ∧ 0 ≤ st.1 ∧ st.1 ≤ M62) ∨ (st.2 = 7 ∧ st.1 = 0)) (fun i st=>(c,st.1,0,st.2,i,s)) (fun rest st=>bif st.2 == 0 then (bif decide (st.1 + zE (rest.map fun x=>qF c x.2.2.2.2.2.2.2.1) > M62) then some (0,7,()) else zaD K0 (c,st.1 + zE (rest.map fun x=>qF c x.2.2.2.2.2.2.2.1),0,0,0,s)) else some (0,7,())) (by omega) (fun k i x rest st hi hI hx hm hr hk=>by
        obtain ⟨a,e⟩:=st
        have hrest:0 ≤ zE (rest.map fun x:zk=>qF c x.2.2.2.2.2.2.2.1):=qX fun y hy=>(vU (hs.shelves y (by rw [← hr] at hy; exact List.mem_of_mem_drop hy)).made _).1
        simp only [zaE]
        rw [ltT hi,zp hi,zS,hx]
        rcases hI with ⟨h0,hb⟩ | ⟨h7,ha⟩
        · simp only at h0 hb
          subst h0
          have hxx:=vU (hs.shelves x hm).made c.toNat
          simp only [beq_self_eq_true,cond_true,List.map_cons,zE,qF]
          refine Eq.trans (ixR hcin) ?_
          rw [zd1 (by unfold M62 at hb; unfold U64; omega) hxx,zne,Option.bind_some]
          by_cases hh:a + List.getD x.2.2.2.2.2.2.2.1 c.toNat 0 > M62
          · rw [jq hh]
            unfold qF at hrest
            rw [decide_eq_true (by omega)]
            exact hk (0,7) (.inr ⟨rfl,rfl⟩)
          · rw [yb (by omega)]
            have:=hk (a + List.getD x.2.2.2.2.2.2.2.1 c.toNat 0,0) (.inl ⟨rfl,by have:=hxx.1; show 0 ≤ a + _ ∧ a + _ ≤ M62; omega⟩)
            refine this.trans ?_
            simp only [beq_self_eq_true,cond_true]
            rw [Int.add_assoc]; rfl
        · simp only at h7 ha
          subst h7
          subst ha
          simp only [cond_true]
          refine (l1 0 0 7 (by unfold M62; omega) (.inr rfl)).trans ?_
          rfl) (fun k st hI=>by
        obtain ⟨a,e⟩:=st
        simp only [zaE]
        rw [ltF]
        rcases hI with ⟨h0,hb⟩ | ⟨h7,ha⟩
        · simp only at h0 hb
          subst h0
          simp only [cond_false,beq_self_eq_true,cond_true,List.map_nil,zE,Int.add_zero]
          rw [decide_eq_false (by omega)]; rfl
        · simp only at h7 ha
          subst h7
          subst ha
          refine (l1 0 0 7 (by unfold M62; omega) (.inr rfl)).trans ?_
          rfl) (0,0) (.inl ⟨rfl,by show (0:Int) ≤ 0 ∧ (0:Int) ≤ M62; unfold M62; omega⟩)
    refine Eq.trans ?_ (l0.trans ?_)
    · unfold zT at hc; grind
    · simp only [beq_self_eq_true,cond_true]
      have e1:(0:Int) + zE (s.2.1.map fun x:zk=>qF c x.2.2.2.2.2.2.2.1) = zbn (fun x=>x.2.2.2.2.2.2.2.1) s c:=by rw [Int.zero_add]; rfl
      rw [e1]
      by_cases h1:zbn (fun x=>x.2.2.2.2.2.2.2.1) s c > M62
      · rw [decide_eq_true h1]; rfl
      · rw [decide_eq_false h1,cond_false,cond_false,l1 _ 0 0 (by omega) (.inl ⟨rfl,by unfold M62; omega⟩),Int.zero_add]
        simp only [beq_self_eq_true,cond_true]
        cases decide (zbn (fun x=>x.2.2.2.2.2.2.2.2.1) s c > M62) <;> rfl
end Go.Proofs.YtokcjmkikhgkeaaGreatDoor
end
section
namespace Go.Proofs.YtokcjmkikhgkeaaGreatDoor
open Go.Ev
def zgz (r:zf) (s:ze) (c i:Nat):Bool:=!decide (((s.2.1.getD i za).2.2.2.2.2.2.2.1.getD c 0:Int) > (r.2.2.2.2.1.getD i qf).2.2.2.2.2.1)
def zfY (s:ze) (c:Int):Bool:=(zcX s c).2.1 == 0 && ((zfw s c).2.1 == 0 && (zcX s c).1 == (zfw s c).1)
def ji (r:zf) (s:ze):Bool:=qZ r && (zd2 r s && (zbv r s && (zO (fun i=>(qI (s.2.1.getD i za) && zcW r s i (s.2.1.getD i za)) && zO (fun c=>zgz r s c i) 0 (4 - 0)) 0 (s.2.1.length - 0) && zO (fun c=>zfY s (c:Int)) 0 (4 - 0))))
theorem zJl {r:zf} {s:ze} (ok:zgw r) (sz:zd3 r s):zuk s:=by
  have h1:=sz.shelves
  have h2:=ok.labels
  have h3:=ok.accounts
  have h4:=sz.orders
  have h5:=zJk (n:=8) (l:=s.2.1) fun x hx=>by
    have:=sz.shelf x hx
    omega
  refine ⟨by omega,by omega,fun x hx=>?_,by omega⟩
  have:=sz.shelf x hx
  omega
theorem zCH {r:zf} {s:ze} (ok:zgw r) (hs:qB s) (sz:zd3 r s):zeT ((r,s,()),()) = some (zO (fun c=>zO (fun i=>zgz r s c i) 0 (s.2.1.length - 0) && zfY s (c:Int)) 0 (4 - 0),()):=by
  rw [zC]
  have hmm:1000000 ≤ Go.maxLen:=by unfold Go.maxLen; omega
  have sh:=zJl ok sz
  have hsh:s.2.1.length ≤ 8:=by rw [sz.shelves]; exact ok.labels.2
  have h2:=sz.shelves
  have h3:=ok.quotas
  have inner:∀ k0 (c:Nat),c < 4→zcJ K0 k0 ((c:Int),(c:Int),s.2.1,(s.2.1.length:Int),0,(r,s,())) = bif zO (fun i=>zgz r s c i) 0 (s.2.1.length - 0) then bif zfY s (c:Int) then k0 (wI ((c:Int) + 1),(r,s,())) else some (false,()) else some (false,()):=fun k0 c hc =>
    zX (B:=fun k1=>zcI k0 k1) (i0:=0) (n:=s.2.1.length) (by omega) (Nat.zero_le _) (fun i=>((c:Int),(c:Int),s.2.1,(s.2.1.length:Int),i,(r,s,()))) (fun k i _ hi=>by
      simp only [zcI]
      rw [ltT hi,zp hi,zS,Int.toNat_natCast]
      simp only [cond_true]
      refine Eq.trans (zp (n:=4) hc) ?_
      rw [zp (by omega),zS]
      unfold zgz
      grind) (fun k=>by
      simp only [zcI]
      rw [ltF,zEW hs sh,zE0 hs sh]
      simp only [Option.bind_some,cond_false,zfY]
      generalize zcX s (c:Int) = h
      generalize zfw s (c:Int) = m
      grind)
  exact zX (B:=fun k0=>zcK (zcJ K0 k0) k0) (i0:=0) (n:=4) (by omega) (Nat.zero_le _) (fun c=>(c,(r,s,()))) (fun k c _ hc=>by
    simp only [zcK]
    rw [decide_eq_true (by omega),cond_true]
    refine (inner k c hc).trans ?_
    cases zO (fun i=>zgz r s c i) 0 (s.2.1.length - 0) <;> rfl) (fun k=>rfl)
theorem zCI {r:zf} {s:ze} (hr:qp r) (hs:qB s):zhD (r,s,()) = some (ji r s,()):=by
  rw [zC]
  have hmm:1000000 ≤ Go.maxLen:=by unfold Go.maxLen; omega
  simp only [zhD,zhC,zr8 r hr,Option.bind_some]
  unfold ji
  cases hb:qZ r with
  | false=>rfl
  | true =>
    rw [zCz hb s,Option.bind_some]
    cases hz:zd2 r s with
    | false=>rfl
    | true =>
      have ok:=yf hb
      have sz:=zox hb hz
      have sh:=zJl ok sz
      have hsh:s.2.1.length ≤ 8:=by rw [sz.shelves]; exact ok.labels.2
      have h2:=sz.shelves
      have h3:=ok.quotas
      rw [zAm hr hb hs sz,Option.bind_some]
      cases hp:zbv r s with
      | false=>rfl
      | true =>
        have l2:zcN K0 (0,s) = bif zO (fun c=>zfY s (c:Int)) 0 (4 - 0) then some (true,()) else some (false,()) :=
          zX (i0:=0) (n:=4) (by omega) (Nat.zero_le _) (fun c=>(c,s)) (fun k c _ hc=>by
            simp only [zji]
            rw [decide_eq_true (by omega),zEX hs sh,zE1 hs sh]
            simp only [Option.bind_some,cond_true,zfY]
            generalize zcX s (c:Int) = h
            generalize zfw s (c:Int) = m
            grind) (fun k=>rfl)
        have l1:∀ k0 (i:Nat),i < s.2.1.length→zfs K0 k0 ((i:Int),0,r,s) = bif zO (fun c=>zgz r s c i) 0 (4 - 0) then k0 (wI ((i:Int) + 1),r,s) else some (false,()):=fun k0 i hi =>
          zX (B:=fun k1=>zfr k0 k1) (i0:=0) (n:=4) (by omega) (Nat.zero_le _) (fun c=>((i:Int),c,r,s)) (fun k c _ hc=>by
            simp only [zfr]
            rw [decide_eq_true (by omega),zp hi,zp (by omega),zS,zS,Int.toNat_natCast]
            simp only [cond_true]
            refine Eq.trans (zp (n:=4) hc) ?_
            unfold zgz
            grind) (fun k=>rfl)
        have l0:zjj K0 (0,r,s) = bif zO (fun i=>(qI (s.2.1.getD i za) && zcW r s i (s.2.1.getD i za)) && zO (fun c=>zgz r s c i) 0 (4 - 0)) 0 (s.2.1.length - 0) then zcN K0 (0,s) else some (false,()) :=
          zX (i0:=0) (n:=s.2.1.length) (by omega) (Nat.zero_le _) (fun i=>(i,r,s)) (fun k i _ hi=>by
            simp only [zcO]
            rw [ltT hi,zCD hr ok hs sz hi]
            have:=l1 k i hi
            rw [this]
            simp only [Option.bind_some,cond_true]
            generalize (qI (s.2.1.getD i za) && zcW r s i (s.2.1.getD i za)) = u
            cases u <;> rfl) (fun k=>by simp only [zcO]; rw [ltF]; rfl)
        simp only [cond_true,Bool.true_and]
        rw [l0,l2]
        grind
def zE2 (r:zf) (s:ze):Bool:=qZ r && (zd2 r s && (s.2.1.all qI && (zbv r s && (zO (fun i=>zhe r s (i:Int) (s.2.1.getD i za)) 0 (s.2.1.length - 0) && (zO (fun i=>zd4 r (i:Int) (s.2.1.getD i za)) 0 s.2.1.length && (zO (fun i=>zkY (s.2.1.getD i za)) 0 (s.2.1.length - 0) && zO (fun c=>zO (fun i=>zgz r s c i) 0 (s.2.1.length - 0) && zfY s (c:Int)) 0 (4 - 0)))))))
theorem zJm (r:zf) (s:ze):zE2 r s = ji r s:=by
  rw [Bool.eq_iff_iff]
  unfold zE2 ji zcW
  simp only [Bool.and_eq_true,qr,@zwL zk za]
  constructor
  · rintro ⟨h1,h2,h3,h4,h5,h6,h7,h8⟩
    exact ⟨h1,h2,h4,fun i hi1 hi=>⟨⟨h3 i (by omega),h5 i hi1 hi,h6 i hi1 (by omega),h7 i hi1 hi⟩,fun c hc1 hc=>(h8 c hc1 hc).1 i hi1 hi⟩,fun c hc1 hc=>(h8 c hc1 hc).2⟩
  · rintro ⟨h1,h2,h4,h5,h6⟩
    exact ⟨h1,h2,fun i hi=>(h5 i (by omega) (by omega)).1.1,h4,fun i h7 h8=>(h5 i h7 h8).1.2.1,fun i h7 h8=>(h5 i h7 (by omega)).1.2.2.1,fun i h7 h8=>(h5 i h7 h8).1.2.2.2,fun c h7 h8=>⟨fun i h9 h10=>(h5 i h9 h10).2 c h7 h8,h6 c h7 h8⟩⟩
theorem zCJ {r:zf} {s:ze} (hr:qp r) (hs:qB s):zhF (r,s,()) = some (ji r s,()):=by
  rw [← zJm,zC]
  obtain ⟨m,hm⟩:=zug
  have first:zhF (r,s,()) = zg zfu K0 (true,7,0,[some fun z=>zbr ((r,s,()),()),some fun z=>zbs ((r,s,()),()),some fun z=>zaI ((r,s,()),()),some fun z=>zeP ((r,s,()),()),some fun z=>zaG ((r,s,()),()),some fun z=>zeO ((r,s,()),()),some fun z=>zeT ((r,s,()),())]):=rfl
  have hu:∀ (f1 f2 f3 f4 f5 f6 f7:Option (Bool × Unit)),zg zfu (m + 8) (true,7,0,[some fun z=>f1,some fun z=>f2,some fun z=>f3,some fun z=>f4,some fun z=>f5,some fun z=>f6,some fun z=>f7]) =
    Option.bind f1 fun q=>bif q.1 then Option.bind f2 fun q=>bif q.1 then Option.bind f3 fun q=>bif q.1 then Option.bind f4 fun q=>bif q.1 then Option.bind f5 fun q=>bif q.1 then Option.bind f6 fun q=>bif q.1 then Option.bind f7 fun q=>bif q.1 then some (true,()) else some (false,()) else some (false,()) else some (false,()) else some (false,()) else some (false,()) else some (false,()) else some (false,()):=fun f1 f2 f3 f4 f5 f6 f7=>by kernel_rfl
  rw [first,hm,hu,zCy hr s,Option.bind_some]
  unfold zE2
  cases hb:qZ r with
  | false=>rfl
  | true =>
    cases hz:zd2 r s with
    | false=>rfl
    | true =>
      have ok:=yf hb
      have sz:=zox hb hz
      rw [zCA ok sz,zAl hr hb hs sz,zCB hr ok sz,zAn hr ok sz,zCC ok sz,zCH ok hs sz]
      simp only [Option.bind_some,Bool.true_and,cond_true]
      generalize s.2.1.all qI = c1
      generalize zbv r s = c2
      generalize zO (fun i=>zhe r s (i:Int) (s.2.1.getD i za)) 0 (s.2.1.length - 0) = c3
      generalize zO (fun i=>zd4 r (i:Int) (s.2.1.getD i za)) 0 s.2.1.length = c4
      generalize zO (fun i=>zkY (s.2.1.getD i za)) 0 (s.2.1.length - 0) = c5
      generalize zO (fun c=>zO (fun i=>zgz r s c i) 0 (s.2.1.length - 0) && zfY s (c:Int)) 0 (4 - 0) = c6
      cases c1 <;> cases c2 <;> cases c3 <;> cases c4 <;> cases c5 <;> cases c6 <;> rfl
def zl5 (r:zf) (x:pMe):Bool:=decide (0 ≤ x.1 ∧ x.1 < (r.2.1.length:Int)) && ((x.2.1:Int) == r.2.1.getD x.1.toNat 0 && vm r x.2.2.1)
theorem zE3 {r:zf} {s:ze} (hr:qp r) (hs:qB s) (x:pMe):zd0 (r,s,x,()) = some (ji r s && zl5 r x,()):=by
  rw [zC]
  simp only [zd0,zCJ hr hs,Option.bind_some,zl5,ix,vm]
  cases ji r s with
  | false=>rfl
  | true =>
    by_cases h:0 ≤ x.1 ∧ x.1 < (r.2.1.length:Int)
    · rw [ixR h]; grind
    · grind
end Go.Proofs.YtokcjmkikhgkeaaGreatDoor
end
section
namespace Go.Proofs.YtokcjmkikhgkeaaGreatDoor
open Go.Ev
theorem zy7 {r:zf} (hr:qp r) (i:Int):zcQ (r,i,()) = some (qZ r && jC r i,()):=by
  rw [zC]
  simp only [zcQ,zlz r hr,Option.bind_some]
  cases hb:qZ r with
  | false=>rfl
  | true =>
    have hl:=(yf hb).labels
    have hw:wI ((r.1.length:Int) - 1) = (r.1.length:Int) - 1:=by
      have:=zh6 (i:=r.1.length) (by omega) (by unfold Go.maxLen; omega)
      rw [this]; omega
    rw [hw,zeC]
    simp only [Option.bind_some,cond_true,Bool.true_and,zQ,jC]
    grind
theorem zGx {r:zf} (hr:qp r) (hb:qZ r = true) (a b:Int):zky (r,a,b,()) = some (zlB r a b,()):=by
  rw [zC]
  simp only [zky,zy7 hr,hb,Bool.true_and,Option.bind_some,zlB,ix]
  cases ha:jC r a with
  | false=>rfl
  | true =>
    cases hbb:jC r b with
    | false=>rfl
    | true =>
      have h1:=zkX hr a ha
      have h2:=zkX hr b hbb
      simp only [jC,decide_eq_true_eq] at ha hbb
      rw [ixR ha,ixR hbb,zo8 h1 h2]
      simp only [Option.bind_some]
      generalize zwJ (r.1.getD a.toNat qN) (r.1.getD b.toNat qN) = u
      cases u <;> rfl
structure zK4 (x:zk):Prop where
  rooms:x.1.length ≤ Go.maxLen
  exits:x.2.1.length ≤ Go.maxLen
  items:x.2.2.1.length ≤ Go.maxLen
  mails:x.2.2.2.1.length ≤ Go.maxLen
  trades:x.2.2.2.2.1.length ≤ Go.maxLen
  purses:x.2.2.2.2.2.1.length ≤ Go.maxLen
  places:x.2.2.2.2.2.2.1.length ≤ Go.maxLen
structure zLu (s:ze):Prop where
  shelves:s.2.1.length ≤ Go.maxLen
  ranks:s.2.2.1.length ≤ Go.maxLen
  orders:s.2.2.2.1.length ≤ Go.maxLen
  entries:s.2.2.2.2.1.length ≤ Go.maxLen
  seats:s.2.2.2.2.2.1.length ≤ Go.maxLen
  shelf:∀ x ∈ s.2.1,zK4 x
  rank:∀ l ∈ s.2.2.1,l.length ≤ Go.maxLen
theorem zJ2 {r:zf} {l:List (List Int)} (h:zhc r l = true):l.length = r.2.2.2.1.length ∧ ∀ g,g < r.2.2.2.1.length→(l.getD g []).length = r.2.2.1.length:=by
  simp only [zhc,Bool.and_eq_true,decide_eq_true_eq,qr] at h
  refine ⟨h.1,fun g hg=>?_⟩
  have:=h.2 g (by omega) (by omega)
  simp only [zqd,Bool.and_eq_true,decide_eq_true_eq] at this
  exact this.1
theorem ze6 {r:zf} {s:ze} (h:ji r s = true):qZ r = true ∧ zd2 r s = true ∧ zbv r s = true:=by
  simp only [ji,Bool.and_eq_true] at h
  exact ⟨h.1,h.2.1,h.2.2.1⟩
theorem zDk:∀ {τ:Ty},τ.eqIn = true→∀ x:τ.I,eqI τ x x = true:=by
  intro τ
  induction τ with
  | unit=>intro _ _; rfl
  | bool=>intro _ x; exact beq_self_eq_true x
  | int k=>intro _ x; exact beq_self_eq_true (α:=Int) x
  | str=>intro _ x; exact beq_self_eq_true _
  | pair a b iha ihb =>
    intro h x
    simp only [Ty.eqIn,Bool.and_eq_true] at h
    simp only [eqI,iha h.1,ihb h.2,cond_true]
  | st a ih=>intro h x; exact ih h x
  | arr n a ih =>
    intro h x
    simp only [eqI,List.all_eq_true]
    intro p hp
    have:p.1 = p.2:=by
      obtain ⟨i,hi,rfl⟩:=List.mem_iff_getElem.1 hp
      rw [List.getElem_zip]
    rw [this]
    exact ih h _
  | _=>intro h; cases h
theorem zGy {r:zf} {s:ze} (h:ji r s = true) {c:Nat} (hc:c < 4):∃ n,zcX s c = (n,0,()) ∧ zfw s c = (n,0,()) ∧ n ≤ M62:=by
  simp only [ji,Bool.and_eq_true,qr] at h
  have h1:=h.2.2.2.2 c (Nat.zero_le _) (by omega)
  simp only [zfY,Bool.and_eq_true,beq_iff_eq] at h1
  obtain ⟨h2,h3,h4⟩:=h1
  have hck:zT (c:Int) = true:=by simp only [zT,decide_eq_true_eq]; omega
  have hle:(zcX s c).2.1 = 0→(zcX s c).1 ≤ M62:=by
    unfold zcX
    rw [hck,cond_true]
    intro h
    by_cases hb:zE (s.2.2.2.1.map (qt c)) + zE (s.2.1.map (zR c)) > M62
    · rw [jq hb] at h; cases h
    · rw [yb (by omega)]; show _ ≤ M62; omega
  have h5:=hle h2
  rcases e1:zcX s c with ⟨a,b,⟨⟩⟩
  rcases e2:zfw s c with ⟨a',b',⟨⟩⟩
  rw [e1] at h2 h4 h5
  rw [e2] at h3 h4
  simp only at h2 h3 h4 h5
  subst h2; subst h3; subst h4
  exact ⟨a,rfl,rfl,h5⟩
end Go.Proofs.YtokcjmkikhgkeaaGreatDoor
end
section
namespace Go.Proofs.YtokcjmkikhgkeaaGreatDoor
open Go.Ev
structure zK5 (x:zk):Prop where
  rooms:x.1.length ≤ 2000000
  exits:x.2.1.length ≤ 2000000
  items:x.2.2.1.length ≤ 2000000
  mails:x.2.2.2.1.length ≤ 2000000
  trades:x.2.2.2.2.1.length ≤ 2000000
  purses:x.2.2.2.2.2.1.length ≤ 2000000
  places:x.2.2.2.2.2.2.1.length ≤ 2000000
structure zIb (s:ze):Prop where
  shelves:s.2.1.length ≤ 2000000
  ranks:s.2.2.1.length ≤ 2000000
  orders:s.2.2.2.1.length ≤ 2000000
  entries:s.2.2.2.2.1.length ≤ 2000000
  seats:s.2.2.2.2.2.1.length ≤ 2000000
  shelf:∀ x ∈ s.2.1,zK5 x
  rank:∀ l ∈ s.2.2.1,l.length ≤ 2000000
theorem zE4 {α:Type} {l:List α} {i:Nat} {d:α} (h:i < l.length):List.set l i (l.getD i d) = l:=by
  rw [List.getD_eq_getElem?_getD,List.getElem?_eq_getElem h]
  exact List.set_getElem_self h
theorem zhG {s:ze} (h:zIb s):qE (s,()) = some (s,()):=by
  have hlm:2000000 ≤ lim:=by unfold lim; omega
  have hmm:2000000 ≤ Go.maxLen:=by unfold Go.maxLen; omega
  have h1:=h.shelves
  have h2:=h.ranks
  have h3:=h.orders
  have h4:=h.entries
  have h5:=h.seats
  have l1:zbX K0 ((s.2.1.length:Int),0,s.1,0,s.2.1,0,s.2.2.1,s.2.2.1.length,s.2.2.2.1,s.2.2.2.2.1,s.2.2.2.2.2.1,[],0,[],0,[],[],[]) = some (s,()) :=
    zeZ (α:=Unit) (B:=zbW) (len:=s.2.1.length) (by omega) (fun i _=>((s.2.1.length:Int),i,s.1,0,s.2.1,i.toNat,s.2.2.1,s.2.2.1.length,s.2.2.2.1,s.2.2.2.2.1,s.2.2.2.2.2.1,[],0,[],0,[],[],[])) (fun _ _=>some (s,())) (fun _ _=>True) (fun k i _ hi _ hk=>by
      have hx:=h.shelf _ (z3 (d:=za) hi)
      have e1:=hx.rooms
      have e2:=hx.exits
      have e3:=hx.items
      have e4:=hx.mails
      have e5:=hx.trades
      have e6:=hx.purses
      have e7:=hx.places
      have hk':=hk () trivial
      have hw:wI ((i:Int) + 1) = (i:Int) + 1:=zxu hi (by omega)
      simp only [zbW]
      rw [ltT hi,zp hi,zS]
      simp only [Int.toNat_natCast,Nat.le_refl,decide_true,cond_true]
      rw [zEs (by omega),zEt (by omega),zEu (by omega),zEv (by omega),zlv (by omega),zHQ (by omega),zF6 (by omega)]
      simp only [Option.bind_some]
      rw [zp hi]
      refine Eq.trans ?_ hk'
      have hs:List.set s.2.1 i (s.2.1.getD i za) = s.2.1:=zE4 hi
      have ht:(wI ((i:Int) + 1)).toNat = i + 1:=by rw [hw]; omega
      rw [ht]
      exact congrArg (fun l=>k ((s.2.1.length:Int),wI ((i:Int) + 1),s.1,0,l,i + 1,s.2.2.1,s.2.2.1.length,s.2.2.2.1,s.2.2.2.2.1,s.2.2.2.2.2.1,[],0,[],0,[],[],[])) hs) (fun k _ _=>by
      simp only [zbW]
      rw [ltF]
      simp only [Int.toNat_natCast,decide_true,cond_true,cond_false]) () trivial
  have l0:ziR K0 ((s.2.2.1.length:Int),0,s.1,s.2.1,0,s.2.2.1,0,s.2.2.2.1,s.2.2.2.2.1,s.2.2.2.2.2.1,[],0,[],0,[],[],[]) = some (s,()) :=
    zeZ (α:=Unit) (B:=fun k0=>yV (zbX K0) k0) (len:=s.2.2.1.length) (by omega) (fun i _=>((s.2.2.1.length:Int),i,s.1,s.2.1,0,s.2.2.1,i.toNat,s.2.2.2.1,s.2.2.2.2.1,s.2.2.2.2.2.1,[],0,[],0,[],[],[])) (fun _ _=>some (s,())) (fun _ _=>True) (fun k i _ hi _ hk=>by
      have hx:=h.rank _ (z3 (d:=([]:List Int)) hi)
      have hk':=hk () trivial
      have hw:wI ((i:Int) + 1) = (i:Int) + 1:=zxu hi (by omega)
      simp only [yV]
      rw [ltT hi,zp hi]
      simp only [Int.toNat_natCast,Nat.le_refl,decide_true,cond_true]
      rw [zvp (by omega)]
      simp only [Option.bind_some]
      rw [zp hi]
      refine Eq.trans ?_ hk'
      have hs:List.set s.2.2.1 i (s.2.2.1.getD i []) = s.2.2.1:=zE4 hi
      have ht:(wI ((i:Int) + 1)).toNat = i + 1:=by rw [hw]; omega
      rw [ht,hs]) (fun k _ _=>by
      simp only [yV]
      rw [ltF,zCd (by omega)]
      simp only [Int.toNat_natCast,Option.bind_some,cond_false]
      exact l1) () trivial
  simp only [qE,zht]
  rw [zr6 (by omega),zCc (by omega),zvp (by omega),zEr (by omega)]
  simp only [Option.bind_some]
  exact l0
theorem zqe:∀ {l:List Int} {i:Nat},(∀ x ∈ l,0 ≤ x)→i < l.length→l.getD i 0 ≤ zE l
  | [],i,_,hi=>by cases hi
  | x :: l,0,h,_=>by
    have:=znc (l:=l) fun y hy=>h y (by simp [hy])
    show x ≤ x + zE l; omega
  | x :: l,i + 1,h,hi=>by
    have h1:=h x (by simp)
    have h2:=zqe (l:=l) (i:=i) (fun y hy=>h y (by simp [hy])) (by simpa using hi)
    show l.getD i 0 ≤ x + zE l; omega
theorem zwN:∀ {l:List Int} {i j:Nat},(∀ x ∈ l,0 ≤ x)→i < l.length→j < l.length→i ≠ j→l.getD i 0 + l.getD j 0 ≤ zE l
  | [],i,_,_,hi,_,_=>by cases hi
  | x :: l,0,0,_,_,_,hij=>absurd rfl hij
  | x :: l,0,j + 1,h,_,hj,_=>by
    have:=zqe (l:=l) (i:=j) (fun y hy=>h y (by simp [hy])) (by simpa using hj)
    show x + l.getD j 0 ≤ x + zE l; omega
  | x :: l,i + 1,0,h,hi,_,_=>by
    have:=zqe (l:=l) (i:=i) (fun y hy=>h y (by simp [hy])) (by simpa using hi)
    show l.getD i 0 + x ≤ x + zE l; omega
  | x :: l,i + 1,j + 1,h,hi,hj,hij=>by
    have h1:=h x (by simp)
    have:=zwN (l:=l) (i:=i) (j:=j) (fun y hy=>h y (by simp [hy])) (by simpa using hi) (by simpa using hj) (by omega)
    show l.getD i 0 + l.getD j 0 ≤ x + zE l; omega
theorem zke {α:Type} {f:α→Int} {l:List α} {i:Nat} (d:α) (h:i < l.length):(l.map f).getD i 0 = f (l.getD i d):=by
  rw [List.getD_eq_getElem?_getD,List.getD_eq_getElem?_getD,List.getElem?_map,List.getElem?_eq_getElem h]; rfl
end Go.Proofs.YtokcjmkikhgkeaaGreatDoor
end
section
namespace Go.Proofs.YtokcjmkikhgkeaaGreatDoor
open Go.Ev
abbrev jR (s:ze) (i w:Int):List Int:=List.getD (ix za s.2.1 i).2.2.2.2.2.1 (Int.toNat w) (zb (.arr 4 tU))
abbrev zU (s:ze) (i w c:Int):Int:=List.getD (jR s i w) (Int.toNat c) (0:Int)
structure At (s:ze) (i w:Int):Prop where
  hi:0 ≤ i ∧ i < (s.2.1.length:Int)
  hw:0 ≤ w ∧ w < (((ix za s.2.1 i).2.2.2.2.2.1.length:Nat):Int)
theorem zKD {n a:Int} (h:zjx n = (a,0,())):n = a ∧ n ≤ M62:=by
  by_cases hb:n > M62
  · rw [jq hb] at h; cases h
  · rw [yb (by omega)] at h
    injection h with h1 h2
    exact ⟨h1,by omega⟩
theorem zJ3 {c:Int} (hc:zT c = true):∃ k:Nat,c = (k:Int) ∧ k < 4:=by
  have:=zcY hc
  exact ⟨c.toNat,by omega,by omega⟩
theorem zE5 {r:zf} {s:ze} (h:ji r s = true) (hs:qB s) {c:Int} (hc:zT c = true):zE (s.2.2.2.1.map (qt c)) + zE (s.2.1.map (zR c)) ≤ M62 ∧ zE (s.2.2.2.1.map (qt c)) + zE (s.2.1.map (zR c)) ≤ zbn (fun x=>x.2.2.2.2.2.2.2.1) s c:=by
  obtain ⟨k,rfl,hk⟩:=zJ3 hc
  obtain ⟨n,h1,h2,h3⟩:=zGy h hk
  unfold zcX at h1
  rw [hc,cond_true] at h1
  obtain ⟨h4,h5⟩:=zKD h1
  refine ⟨h5,?_⟩
  unfold zfw at h2
  rw [hc,cond_true] at h2
  have p2:=znf (f:=fun x=>x.2.2.2.2.2.2.2.2.1) (fun x hx=>(hs.shelves x hx).spent) (k:Int)
  generalize zbn (fun x=>x.2.2.2.2.2.2.2.1) s (k:Int) = a at *
  generalize zbn (fun x=>x.2.2.2.2.2.2.2.2.1) s (k:Int) = b at *
  by_cases c1:a > M62
  · rw [decide_eq_true c1] at h2; cases h2
  · rw [decide_eq_false c1] at h2
    by_cases c2:b > M62
    · rw [decide_eq_true c2] at h2; cases h2
    · rw [decide_eq_false c2] at h2
      simp only [cond_false] at h2
      unfold zfX at h2
      by_cases c3:a < b
      · rw [decide_eq_true c3] at h2; cases h2
      · rw [decide_eq_false c3] at h2
        injection h2 with h6 h7
        omega
theorem zy8 {s:ze} (hs:qB s) (c:Int):0 ≤ zE (s.2.2.2.1.map (qt c)):=qX fun y hy=>(zeW (hs.orders y hy) c).1
theorem zcZ {s:ze} {i:Int} (hi:0 ≤ i ∧ i < (s.2.1.length:Int)):ix za s.2.1 i ∈ s.2.1:=z3 (by omega)
theorem zE6 {s:ze} (hs:qB s) {i c:Int} (hi:0 ≤ i ∧ i < (s.2.1.length:Int)):zR c (ix za s.2.1 i) ≤ zE (s.2.1.map (zR c)):=by
  have h1:=zqe (l:=s.2.1.map (zR c)) (i:=i.toNat) (fun x hx=>by
    obtain ⟨y,hy,rfl⟩:=List.mem_map.1 hx
    exact zbw (hs.shelves y hy) c) (by rw [List.length_map]; omega)
  rw [zke za (by omega)] at h1
  exact h1
theorem zwO {x:zk} (hx:zme x) {w c:Int} (hw:0 ≤ w ∧ w < ((x.2.2.2.2.2.1.length:Nat):Int)):(x.2.2.2.2.2.1.getD w.toNat (zb (.arr 4 tU))).getD c.toNat 0 ≤ zR c x:=by
  have h1:=zqe (l:=x.2.2.2.2.2.1.map (qF c)) (i:=w.toNat) (fun y hy=>by
    obtain ⟨a,ha,rfl⟩:=List.mem_map.1 hy
    exact (vU (hx.purses a ha) _).1) (by rw [List.length_map]; omega)
  rw [zke (zb (.arr 4 tU)) (by omega)] at h1
  have:=zjy hx c
  unfold zR
  unfold qF at h1 ⊢
  omega
theorem zE7 {s:ze} (hs:qB s) {i w:Int} (a:At s i w) (c:Int):jf (zU s i w c):=vU ((hs.shelves _ (zcZ a.hi)).purses _ (z3 (by have:=a.hw; omega))) _
theorem zGU {r:zf} {s:ze} (h:ji r s = true) (hs:qB s) {i w c:Int} (hc:zT c = true) (a:At s i w):0 ≤ zU s i w c ∧ zU s i w c ≤ M62:=by
  have h0:=(zE7 hs a c).1
  have h1:=(zE5 h hs hc).1
  have h2:=zy8 hs c
  have h3:=zE6 hs (c:=c) a.hi
  have h4:=zwO (hs.shelves _ (zcZ a.hi)) (c:=c) a.hw
  refine ⟨h0,?_⟩
  show _ ≤ M62
  have h5:zU s i w c ≤ zR c (ix za s.2.1 i):=h4
  omega
theorem zJ4 {r:zf} {s:ze} (h:ji r s = true) (hs:qB s) {i w j v c:Int} (hc:zT c = true) (a:At s i w) (b:At s j v) (hne:¬ (i = j ∧ w = v)):zU s i w c + zU s j v c ≤ M62:=by
  have h1:=(zE5 h hs hc).1
  have h2:=zy8 hs c
  have h4:zU s i w c ≤ zR c (ix za s.2.1 i):=zwO (hs.shelves _ (zcZ a.hi)) (c:=c) a.hw
  have h5:zU s j v c ≤ zR c (ix za s.2.1 j):=zwO (hs.shelves _ (zcZ b.hi)) (c:=c) b.hw
  have ahi:=a.hi
  have bhi:=b.hi
  by_cases hij:i = j
  · subst hij
    have hwv:w ≠ v:=fun e=>hne ⟨rfl,e⟩
    have h3:=zE6 hs (c:=c) a.hi
    have hx:=hs.shelves _ (zcZ a.hi)
    have ahw:=a.hw
    have bhw:=b.hw
    have h6:=zwN (l:=(ix za s.2.1 i).2.2.2.2.2.1.map (qF c)) (i:=w.toNat) (j:=v.toNat) (fun y hy=>by
      obtain ⟨q,hq,rfl⟩:=List.mem_map.1 hy
      exact (vU (hx.purses q hq) _).1) (by rw [List.length_map]; omega) (by rw [List.length_map]; omega) (by omega)
    rw [zke (zb (.arr 4 tU)) (by omega),zke (zb (.arr 4 tU)) (by omega)] at h6
    have h7:=zjy hx c
    have h8:zU s i w c + zU s i v c ≤ zR c (ix za s.2.1 i):=by
      unfold zR
      have h9:zU s i w c + zU s i v c ≤ zE ((ix za s.2.1 i).2.2.2.2.2.1.map (qF c)):=h6
      omega
    omega
  · have h6:=zwN (l:=s.2.1.map (zR c)) (i:=i.toNat) (j:=j.toNat) (fun x hx=>by
      obtain ⟨y,hy,rfl⟩:=List.mem_map.1 hx
      exact zbw (hs.shelves y hy) c) (by rw [List.length_map]; omega) (by rw [List.length_map]; omega) (by omega)
    rw [zke za (by omega),zke za (by omega)] at h6
    have h7:zR c (ix za s.2.1 i) + zR c (ix za s.2.1 j) ≤ zE (s.2.1.map (zR c)):=h6
    omega
theorem zCT {r:zf} {s:ze} (h:ji r s = true) {i w:Int} (hi:jC r i = true) (hw:vm r w = true):At s i w:=by
  obtain ⟨hb,hz,-⟩:=ze6 h
  have sz:=zox hb hz
  have hsl:=sz.shelves
  simp only [jC,vm,decide_eq_true_eq] at hi hw
  have h1:0 ≤ i ∧ i < (s.2.1.length:Int):=by omega
  have h2:=(sz.shelf _ (zcZ h1)).2.2.2.2.2.1
  exact ⟨h1,by omega⟩
theorem zJn {r:zf} (hb:qZ r = true) {x:pMe} (hm:zl5 r x = true):jC r x.2.1 = true:=by
  simp only [qZ,zkV,Bool.and_eq_true,decide_eq_true_eq,List.all_eq_true] at hb
  simp only [zl5,Bool.and_eq_true,decide_eq_true_eq,beq_iff_eq] at hm
  have:=hb.2.1.2 _ (z3 (d:=(0:Int)) (i:=x.1.toNat) (by omega))
  rw [← hm.2.1] at this
  simp only [jC,decide_eq_true_eq]
  exact this
theorem zIc {r:zf} {s:ze} (h:ji r s = true) {x:pMe} (hm:zl5 r x = true):At s x.2.1 x.2.2.1:=by
  have hw:vm r x.2.2.1 = true:=by
    simp only [zl5,Bool.and_eq_true] at hm; exact hm.2.2
  exact zCT h (zJn (ze6 h).1 hm) hw
end Go.Proofs.YtokcjmkikhgkeaaGreatDoor
end
section
namespace Go.Proofs.YtokcjmkikhgkeaaGreatDoor
open Go.Ev
theorem bnd {α β:Type} {x:Option α} {a:α} {f:α→Option β} (h:x = some a):Option.bind x f = f a:=by rw [h]; rfl
theorem cT {α:Type} {b:Bool} {x y:α} (h:b = true):cond b x y = x:=by rw [h]; rfl
theorem cF {α:Type} {b:Bool} {x y:α} (h:b = false):cond b x y = y:=by rw [h]; rfl
theorem geF {n:Nat} {i:Int} {ρ:Type} {x y:ρ} (h:0 ≤ i ∧ i < (n:Int)):cond (decide (n ≤ Int.toNat i)) x y = y:=cF (decide_eq_false (by omega))
abbrev upd (s:ze) (i:Int) (h:zk):ze:=u1 s (List.set s.2.1 (Int.toNat i) h)
abbrev vW (s:ze) (i w c v:Int):ze:=upd s i (u5 (ix za s.2.1 i) (List.set (ix za s.2.1 i).2.2.2.2.2.1 (Int.toNat w) (List.set (jR s i w) (Int.toNat c) v)))
theorem zkA {α:Type} {l:List α} {i:Nat} {x d:α} (h:i < l.length):(List.set l i x).getD i d = x:=by
  rw [List.getD_eq_getElem?_getD,List.getElem?_set_self h]; rfl
theorem getD_set_ne {α:Type} {l:List α} {i j:Nat} {x d:α} (h:i ≠ j):(List.set l i x).getD j d = l.getD j d:=by
  rw [List.getD_eq_getElem?_getD,List.getElem?_set_ne h,List.getD_eq_getElem?_getD]
theorem zy9 {s:ze} {i:Int} {h:zk} (hi:0 ≤ i ∧ i < (s.2.1.length:Int)):ix za (upd s i h).2.1 i = h:=zkA (by omega)
theorem ztX {s:ze} {i j:Int} {h:zk} (hi:0 ≤ i) (hj:0 ≤ j) (hne:i ≠ j):ix za (upd s i h).2.1 j = ix za s.2.1 j:=getD_set_ne (by omega)
theorem zK6 {s:ze} {i j v:Int} {h:zk} (hi:0 ≤ i ∧ i < (s.2.1.length:Int)) (hp:h.2.2.2.2.2.1.length = (ix za s.2.1 i).2.2.2.2.2.1.length) (a:At s j v):At (upd s i h) j v:=by
  refine ⟨by have:=a.hi; show 0 ≤ j ∧ j < (((List.set s.2.1 i.toNat h).length:Nat):Int); rw [List.length_set]; exact this,?_⟩
  by_cases hij:i = j
  · subst hij
    rw [zy9 hi,hp]; exact a.hw
  · rw [ztX hi.1 a.hi.1 hij]; exact a.hw
theorem zmi {s:ze} {i w c v j u:Int} (hi:0 ≤ i ∧ i < (s.2.1.length:Int)) (a:At s j u):At (vW s i w c v) j u:=zK6 hi (by show (List.set _ _ _).length = _; rw [List.length_set]) a
theorem zJo {s:ze} {i w c v j u c':Int} (a:At s i w) (b:At s j u) (hne:¬ (i = j ∧ w = u)):zU (vW s i w c v) j u c' = zU s j u c':=by
  by_cases hij:i = j
  · subst hij
    have hwu:w ≠ u:=fun e=>hne ⟨rfl,e⟩
    have e:jR (vW s i w c v) i u = jR s i u:=by
      show List.getD (ix za (upd s i _).2.1 i).2.2.2.2.2.1 _ _ = _
      rw [zy9 a.hi]
      exact getD_set_ne (by have:=a.hw; have:=b.hw; omega)
    show List.getD (jR (vW s i w c v) i u) _ _ = _
    rw [e]
  · have e:jR (vW s i w c v) j u = jR s j u:=by
      show List.getD (ix za (upd s i _).2.1 j).2.2.2.2.2.1 _ _ = _
      rw [ztX a.hi.1 b.hi.1 hij]
    show List.getD (jR (vW s i w c v) j u) _ _ = _
    rw [e]
theorem zJ5 {a b:Int} (ha:jf a) (hb:jf b):zaO (a,b,()) = some (zfX a b):=by
  simp only [zaO,extA,extB,zfX,cond_false]
  unfold jf U64 at *
  have h2:b ≤ a→(a - b) % 18446744073709551616 = a - b:=fun h=>by omega
  grind
theorem zE8 {row:List Int} {c n:Int} {by':Int × Int × Unit→Option (Int × Int × Unit)} {v:Int × Int × Unit} (hc:zT c = true) (h:by' (List.getD row c.toNat 0,n,()) = some v):zeK (row,c,n,some by',()) = bif v.2.1 != 0 then some ([0,0,0,0],v.2.1,()) else some (List.set row c.toNat v.1,0,()):=by
  have hc4:=zcY hc
  simp only [zeK]
  refine (bnd (vT c)).trans ?_
  refine (cT hc).trans ?_
  refine (ixR hc4).trans ?_
  refine (bnd (a:=by') rfl).trans ?_
  refine (bnd h).trans ?_
  cases v.2.1 != 0 with
  | true=>rfl
  | false=>exact ixR hc4
theorem zK7 {row:List Int} {c n:Int} (hc:zT c = true) (ha:0 ≤ List.getD row c.toNat 0) (hn:jf n) (h:List.getD row c.toNat 0 + n ≤ M62):zde (row,c,n,()) = some (List.set row c.toNat (List.getD row c.toNat 0 + n),0,()):=by
  have e:ze1 (List.getD row c.toNat 0,n,()) = some (List.getD row c.toNat 0 + n,0,()):=by
    rw [zvr ha hn]; unfold zov; rw [decide_eq_false (by omega)]; rfl
  simp only [zde]
  rw [zE8 hc e]; rfl
theorem zK8 {row:List Int} {c n:Int} (hc:zT c = true) (ha:jf (List.getD row c.toNat 0)) (hn:jf n):zdd (row,c,n,()) = bif decide (List.getD row c.toNat 0 < n) then some ([0,0,0,0],6,()) else some (List.set row c.toNat (List.getD row c.toNat 0 - n),0,()):=by
  simp only [zdd]
  rw [zE8 hc (zJ5 ha hn)]
  unfold zfX
  cases decide (List.getD row c.toNat 0 < n) <;> rfl
def ztY (e:Int):ze × Int × Unit:=((0,[],[],[],[],[],()),e,())
def zq1 (r:zf) (s:ze) (me:pMe) (c n:Int):Bool:=(ji r s && zl5 r me) && (zT c && decide (n > 0))
abbrev zhH (s:ze) (me:pMe) (c n:Int):ze:=vW s me.2.1 me.2.2.1 c (zU s me.2.1 me.2.2.1 c - n)
def zoz (t:ze) (i w c n:Int):ze × Int × Unit:=(vW t i w c (zU t i w c + n),0,())
def zId (s:ze) (me:pMe) (i w c n:Int):ze × Int × Unit:=bif decide (zU s me.2.1 me.2.2.1 c < n) then ztY 6 else zoz (zhH s me c n) i w c n
def zza (r:zf) (s:ze) (me:pMe) (i w c n:Int):ze × Int × Unit:=bif (i != me.2.1) && zlB r me.2.1 i then zId s me i w c n else ztY 5
structure Ctx (r:zf) (s:ze) (me:pMe) (c n:Int):Prop where
  rs:ji r s = true
  im:zl5 r me = true
  hc:zT c = true
  pos:0 < n
theorem zAp {r:zf} {s:ze} {me:pMe} {c n:Int} (h:zq1 r s me c n = true):Ctx r s me c n:=by
  simp only [zq1,Bool.and_eq_true,decide_eq_true_eq] at h
  exact ⟨h.1.1,h.1.2,h.2.1,h.2.2⟩
end Go.Proofs.YtokcjmkikhgkeaaGreatDoor
end
section
namespace Go.Proofs.YtokcjmkikhgkeaaGreatDoor
open Go.Ev
theorem zvw {r:zf} {s:ze} (hr:qp r) (hs:qB s) (me:pMe) (c n:Int):zdf (r,s,me,c,n,()) = some (zq1 r s me c n,()):=by
  rw [zC]
  simp only [zdf,zE3 hr hs,vT,Option.bind_some,zq1]
  cases ji r s <;> cases zl5 r me <;> cases zT c <;> rfl
theorem zLi {t:ze} {i w c n:Int} {k:List Int × Int × Unit→Option (ze × Int × Unit)} (a:At t i w) (hc:zT c = true) (h0:jf (zU t i w c)) (hn:jf n) :
    inR i ((List.length t.2.1):Int) (bif decide (List.length t.2.1 ≤ Int.toNat i) then none else inR w ((List.length (ix za t.2.1 i).2.2.2.2.2.1):Int) (Option.bind (zdd (jR t i w,c,n,())) fun q=>inR i ((List.length t.2.1):Int) (bif decide (List.length t.2.1 ≤ Int.toNat i) then none else inR w ((List.length (ix za t.2.1 i).2.2.2.2.2.1):Int) (bif q.2.1 != 0 then some ((0,[],[],[],[],[],()),q.2.1,()) else k q)))) = bif decide (zU t i w c < n) then some (ztY 6) else k (List.set (jR t i w) c.toNat (zU t i w c - n),0,()):=by
  refine (ixR a.hi).trans ?_
  refine (geF a.hi).trans ?_
  refine (ixR a.hw).trans ?_
  rw [zK8 hc h0 hn]
  cases h:decide (zU t i w c < n) with
  | true =>
    refine (ixR a.hi).trans ?_
    refine (geF a.hi).trans ?_
    exact ixR a.hw
  | false =>
    refine (ixR a.hi).trans ?_
    refine (geF a.hi).trans ?_
    exact ixR a.hw
theorem zLj {t:ze} {i w c n:Int} {m:Nat} {k:List Int × Int × Unit→Option (ze × Int × Unit)} (a:At t i w) (hm:i < (m:Int)) (hc:zT c = true) (h0:0 ≤ zU t i w c) (hn:jf n) (hle:zU t i w c + n ≤ M62) :
    inR i ((List.length t.2.1):Int) (bif decide (m ≤ Int.toNat i) then none else inR w ((List.length (ix za t.2.1 i).2.2.2.2.2.1):Int) (Option.bind (zde (jR t i w,c,n,())) fun q=>inR i ((List.length t.2.1):Int) (bif decide (m ≤ Int.toNat i) then none else inR w ((List.length (ix za t.2.1 i).2.2.2.2.2.1):Int) (bif q.2.1 != 0 then some ((0,[],[],[],[],[],()),q.2.1,()) else k q)))) = k (List.set (jR t i w) c.toNat (zU t i w c + n),0,()):=by
  have hi:0 ≤ i ∧ i < (m:Int):=⟨a.hi.1,hm⟩
  refine (ixR a.hi).trans ?_
  refine (geF hi).trans ?_
  refine (ixR a.hw).trans ?_
  rw [zK7 hc h0 hn hle]
  refine (ixR a.hi).trans ?_
  refine (geF hi).trans ?_
  exact ixR a.hw
theorem zK9 {r:zf} {s:ze} (hs:qB s) {me:pMe} {i w c n:Int} (x:Ctx r s me c n) (hn:jf n) (b:At s i w) (hne:¬ (me.2.1 = i ∧ me.2.2.1 = w)) (h:¬ zU s me.2.1 me.2.2.1 c < n):zU (zhH s me c n) i w c = zU s i w c ∧ 0 ≤ zU s i w c ∧ zU s i w c + n ≤ M62:=by
  have a:=zIc x.rs x.im
  have h1:=zJ4 x.rs hs x.hc a b hne
  have h2:=zGU x.rs hs x.hc b
  exact ⟨zJo a b hne,h2.1,by omega⟩
theorem zLa {r:zf} {s:ze} (hr:qp r) (hs:qB s) (hf:zIb s) {me:pMe} {i w c n:Int} (hn:jf n):vR (r,s,me,i,w,c,n,()) = some (bif zq1 r s me c n then (bif vm r w && jC r i then zza r s me i w c n else ztY 1) else ztY 1):=by
  simp only [vR]
  refine (bnd (zvw hr hs me c n)).trans ?_
  cases h:zq1 r s me c n with
  | false=>rfl
  | true =>
    obtain ⟨rs,im,hc,pos⟩:=zAp h
    have a:=zIc rs im
    simp only [cond_true]
    by_cases hb:vm r w = true ∧ jC r i = true
    · obtain ⟨hww,hii⟩:=hb
      have b0:At s i w:=zCT rs hii hww
      rw [hww,hii]
      simp only [vm,jC,decide_eq_true_eq] at hww hii
      refine (cF (decide_eq_false (by omega))).trans ?_
      refine (cF (decide_eq_false (by omega))).trans ?_
      refine (cF (decide_eq_false (by omega))).trans ?_
      refine (cF (decide_eq_false (by omega))).trans ?_
      show _ = some (zza r s me i w c n)
      unfold zza
      cases hne:i != me.2.1 with
      | false =>
        simp only [cond_false,Bool.false_and]
        rw [zhG hf]; rfl
      | true =>
        simp only [cond_true,Bool.true_and]
        refine (bnd (zGx hr (ze6 rs).1 _ _)).trans ?_
        cases zlB r me.2.1 i with
        | false=>rw [zhG hf]; rfl
        | true =>
          refine (bnd (zhG hf)).trans ?_
          refine (zLi (t:=s) (k:=fun q=>_) a hc (zE7 hs a c) hn).trans ?_
          show _ = some (zId s me i w c n)
          unfold zId
          cases hlt:decide (zU s me.2.1 me.2.2.1 c < n) with
          | true=>rfl
          | false =>
            have hge:=of_decide_eq_false hlt
            have hni:¬ i = me.2.1:=bne_iff_ne.1 hne
            obtain ⟨e,h0,hle⟩:=zK9 hs ⟨rs,im,hc,pos⟩ hn b0 (fun e=>hni e.1.symm) hge
            have b:At (zhH s me c n) i w:=zmi a.hi b0
            refine (zLj (t:=zhH s me c n) (m:=List.length s.2.1) (k:=fun q=>_) b b0.hi.2 hc (by rw [e]; exact h0) hn (by rw [e]; exact hle)).trans ?_
            refine (cT (decide_eq_true (by rw [List.length_set,List.length_set]))).trans ?_
            exact cT (decide_eq_true trivial)
    · have hbf:(vm r w && jC r i) = false:=by
        cases h1:vm r w <;> cases h2:jC r i <;> first | rfl | exact absurd ⟨h1,h2⟩ hb
      rw [hbf]
      simp only [vm,jC,decide_eq_true_eq] at hb
      simp only [cond_false]
      by_cases c1:i < 0
      · exact cT (decide_eq_true c1)
      · refine (cF (decide_eq_false c1)).trans ?_
        by_cases c2:i ≥ (r.1.length:Int)
        · exact cT (decide_eq_true c2)
        · refine (cF (decide_eq_false c2)).trans ?_
          by_cases c3:w < 0
          · exact cT (decide_eq_true c3)
          · refine (cF (decide_eq_false c3)).trans ?_
            by_cases c4:w ≥ (r.2.2.1.length:Int)
            · exact cT (decide_eq_true c4)
            · omega
end Go.Proofs.YtokcjmkikhgkeaaGreatDoor
end
section
namespace Go.Proofs.YtokcjmkikhgkeaaGreatDoor
open Go.Ev
theorem zGV {x:Int} (h0:0 ≤ x) (h1:x ≤ M62):jf x:=⟨h0,by unfold M62 at h1; unfold U64; omega⟩
end Go.Proofs.YtokcjmkikhgkeaaGreatDoor
end
section
namespace Go.Proofs.YtokcjmkikhgkeaaGreatDoor
open Go.Ev
def zGW (x:zk):Bool:=decide (x.1.length ≤ 2000000) && (decide (x.2.1.length ≤ 2000000) && (decide (x.2.2.1.length ≤ 2000000) && (decide (x.2.2.2.1.length ≤ 2000000) && (decide (x.2.2.2.2.1.length ≤ 2000000) && (decide (x.2.2.2.2.2.1.length ≤ 2000000) && decide (x.2.2.2.2.2.2.1.length ≤ 2000000))))))
def zCU (s:ze):Bool:=decide (s.2.1.length ≤ 2000000) && (decide (s.2.2.1.length ≤ 2000000) && (decide (s.2.2.2.1.length ≤ 2000000) && (decide (s.2.2.2.2.1.length ≤ 2000000) && (decide (s.2.2.2.2.2.1.length ≤ 2000000) && (s.2.1.all zGW && s.2.2.1.all fun l=>decide (l.length ≤ 2000000))))))
theorem zJ6 {s:ze} (h:zCU s = true):zIb s:=by
  simp only [zCU,Bool.and_eq_true,decide_eq_true_eq,List.all_eq_true] at h
  obtain ⟨h1,h2,h3,h4,h5,h6,h7⟩:=h
  refine ⟨h1,h2,h3,h4,h5,fun x hx=>?_,h7⟩
  have:=h6 x hx
  simp only [zGW,Bool.and_eq_true,decide_eq_true_eq] at this
  obtain ⟨a,b,c,d,e,f,g⟩:=this
  exact ⟨a,b,c,d,e,f,g⟩
noncomputable def zJp (x:ze × Unit):Option (ze × Unit):=bif zCU x.1 then some x else qE x
theorem zJ7:qE = zJp:=by
  funext ⟨s,u⟩
  cases u
  unfold zJp
  cases h:zCU s with
  | true=>exact zhG (zJ6 h)
  | false=>rfl
theorem zAY:zbt () = some (true,()):=by
  simp only [zbt,zfP,zjn,zkz,vR,zJ7]
  kernel_rfl
end Go.Proofs.YtokcjmkikhgkeaaGreatDoor
end
section
namespace Go.Proofs.YtokcjmkikhgkeaaGreatDoor
open Go.Ev
theorem wf_u64 {x:Int} (h:(Lit.int .u64 x).wf = true):jf x:=by
  unfold Lit.wf at h
  simp only [Bool.and_eq_true,decide_eq_true_eq] at h
  have e1:IntKind.min .u64 = 0:=by decide
  have e2:IntKind.max .u64 = 18446744073709551615:=by decide
  rw [e1,e2] at h
  exact ⟨h.1,Int.lt_of_le_of_lt h.2 (by decide)⟩
theorem realmIn {r:zf} (h:InR zu r):qp r:=by
  obtain ⟨hl,h2⟩:=h
  refine ⟨fun a ha=>?_,h2.2.2.1.1,h2.2.2.2.1.1⟩
  have h3:(Lit.int .u64 a.2.1).wf = true:=(hl.2 a ha).2.1
  exact wf_u64 h3
theorem zE9 {a:List Int} (h:InR (.arr 4 tU) a):zqY a:=fun x hx=>wf_u64 (h.2 x hx)
theorem zGX {x:zis} (h:InR zdl x):jf x.2.1:=wf_u64 (show (Lit.int .u64 x.2.1).wf = true from h.2.1)
theorem zKE {x:zk} (h:InR zm x):zme x:=by
  obtain ⟨-,-,-,-,h5,h6,-,h8,h9,-⟩:=h
  refine ⟨fun t ht=>?_,fun a ha=>zE9 (h6.2 a ha),zE9 h8,zE9 h9⟩
  obtain ⟨-,-,-,g1,g2,-⟩:=h5.2 t ht
  exact ⟨zGX g1,zGX g2⟩
theorem zKF {x:zn} (h:InR zr x):zgx x:=by
  obtain ⟨-,-,-,-,-,-,h7,h8,h9,-⟩:=h
  exact ⟨wf_u64 h7,wf_u64 h8,wf_u64 h9⟩
theorem zKG {x:zI} (h:InR zy x):zmd x:=by
  obtain ⟨-,-,-,-,-,-,-,h8,h9,-⟩:=h
  exact ⟨wf_u64 h8,wf_u64 h9⟩
theorem stateIn {s:ze} (h:InR zq s):qB s:=by
  obtain ⟨-,h2,-,h4,h5,-⟩:=h
  exact ⟨fun x hx=>zKE (h2.2 x hx),fun x hx=>zKF (h4.2 x hx),fun x hx=>zKG (h5.2 x hx)⟩
theorem deedIn {x:vY} (h:InR qL x):jf x.2.2.2.2.1:=by
  obtain ⟨-,-,-,-,h5,-⟩:=h
  exact wf_u64 h5
end Go.Proofs.YtokcjmkikhgkeaaGreatDoor
end
section
namespace Go.Proofs.YtokcjmkikhgkeaaGreatDoor
open Go.Ev
structure zl6 (x y:zk):Prop where
  rooms:y.1 = x.1
  exits:y.2.1 = x.2.1
  items:y.2.2.1 = x.2.2.1
  mails:y.2.2.2.1 = x.2.2.2.1
  trades:y.2.2.2.2.1 = x.2.2.2.2.1
  purses:y.2.2.2.2.2.1.length = x.2.2.2.2.2.1.length
  places:y.2.2.2.2.2.2.1 = x.2.2.2.2.2.2.1
theorem zq2 {s:ze} {i:Int} {h:zk} (hi:0 ≤ i ∧ i < (s.2.1.length:Int)) (k:Nat):(upd s i h).2.1.getD k za = if i.toNat = k then h else s.2.1.getD k za:=by
  by_cases hk:i.toNat = k
  · rw [if_pos hk,← hk]; exact zkA (by omega)
  · rw [if_neg hk]; exact getD_set_ne hk
theorem zul (s:ze) (i:Int) (h:zk):(upd s i h).2.1.length = s.2.1.length:=List.length_set ..
theorem zJq {s:ze} {i:Int} {h:zk} (hi:0 ≤ i ∧ i < (s.2.1.length:Int)) (al:zl6 (ix za s.2.1 i) h) (k:Nat):((upd s i h).2.1.getD k za).1 = (s.2.1.getD k za).1:=by
  rw [zq2 hi]
  split
  · rename_i e; subst e; exact al.rooms
  · rfl
theorem zAZ {s:ze} {i:Int} {h:zk} (hi:0 ≤ i ∧ i < (s.2.1.length:Int)) (al:zl6 (ix za s.2.1 i) h):zhd (upd s i h) = zhd s:=by
  funext x
  unfold zhd
  rw [zJq hi al,zul]
theorem ztZ {r:zf} {s:ze} {i:Int} {h:zk} (hi:0 ≤ i ∧ i < (s.2.1.length:Int)) (al:zl6 (ix za s.2.1 i) h):yR r (upd s i h) = yR r s:=by
  funext j x
  unfold yR
  rw [zAZ hi al]
theorem zIe {r:zf} {s:ze} {i:Int} {h:zk} (hi:0 ≤ i ∧ i < (s.2.1.length:Int)) (al:zl6 (ix za s.2.1 i) h):zhe r (upd s i h) = zhe r s:=by
  funext j x
  have e1:zaz r (upd s i h) = zaz r s:=by funext a b; unfold zaz; rw [ztZ hi al]
  have e2:zaA r (upd s i h) = zaA r s:=by funext a b; unfold zaA; rw [ztZ hi al]
  unfold zhe
  rw [e1,e2,ztZ hi al]
theorem zFa {r:zf} {s:ze} {i:Int} {x y:zk} (al:zl6 x y):zcW r s i y = zcW r s i x:=by
  unfold zcW zhe zd4 zkY zfW zcV
  rw [al.exits,al.items,al.places,al.mails,al.trades]
theorem zGz {x y:zk} (al:zl6 x y):qI y = qI x:=by
  unfold qI
  rw [al.rooms,al.exits,al.items,al.mails,al.trades]
theorem zIf {r:zf} {x y:zk} {q:zag} (al:zl6 x y):zcU r y q = zcU r x q:=by
  unfold zcU
  rw [al.rooms,al.exits,al.items,al.mails,al.trades,al.places,al.purses]
structure zqf (r:zf) (s:ze):Prop where
  realm:qZ r = true
  sizes:zd2 r s = true
  pub:zbv r s = true
  shelf:∀ i,i < s.2.1.length→(qI (s.2.1.getD i za) && zcW r s i (s.2.1.getD i za)) = true
def zq3 (r:zf) (s:ze):Prop:=∀ i,i < s.2.1.length→∀ c,c < 4→zgz r s c i = true
def zGY (s:ze):Prop:=∀ c:Nat,c < 4→zfY s c = true
theorem zA0 {r:zf} {s:ze}:ji r s = true ↔ zqf r s ∧ zq3 r s ∧ zGY s:=by
  unfold ji zq3 zGY
  simp only [Bool.and_eq_true,qr]
  constructor
  · rintro ⟨h1,h2,h3,h4,h5⟩
    exact ⟨⟨h1,h2,h3,fun i hi=>by have:=(h4 i (Nat.zero_le _) (by omega)).1; simp only [Bool.and_eq_true]; exact this⟩,fun i hi c hc=>(h4 i (Nat.zero_le _) (by omega)).2 c (Nat.zero_le _) (by omega),fun c hc=>h5 c (Nat.zero_le _) (by omega)⟩
  · rintro ⟨h1,h2,h3⟩
    exact ⟨h1.realm,h1.sizes,h1.pub,fun i _ hi=>⟨by have:=h1.shelf i (by omega); simp only [Bool.and_eq_true] at this; exact this,fun c _ hc=>h2 i (by omega) c (by omega)⟩,fun c _ hc=>h3 c (by omega)⟩
theorem zJr {r:zf} {s:ze} {i:Int} {h:zk} (hi:0 ≤ i ∧ i < (s.2.1.length:Int)) (al:zl6 (ix za s.2.1 i) h) (p:zqf r s):zqf r (upd s i h):=by
  have hs:=p.sizes
  have hp:=p.pub
  refine ⟨p.realm,?_,?_,fun k hk=>?_⟩
  · unfold zd2 at hs ⊢
    simp only [Bool.and_eq_true,decide_eq_true_eq,qr] at hs ⊢
    rw [zul]
    refine ⟨hs.1,hs.2.1,fun k hk1 hk2=>?_⟩
    rw [zq2 hi]
    split
    · rename_i e; subst e
      rw [zIf al]
      exact hs.2.2 _ hk1 hk2
    · exact hs.2.2 _ hk1 hk2
  · unfold zbv at hp ⊢
    have e1:zfU r (upd s i h) = zfU r s:=rfl
    have e2:zfV r (upd s i h) = zfV r s:=rfl
    rw [zAZ hi al,e1,e2]
    exact hp
  · rw [zul] at hk
    have:=p.shelf k hk
    have e:zcW r (upd s i h) = zcW r s:=by funext a b; unfold zcW; rw [zIe hi al]
    rw [e,zq2 hi]
    split
    · rename_i e'; subst e'
      rw [zGz al,zFa al]
      exact this
    · exact this
theorem zJ8 {r:zf} {s:ze} {i:Int} {h:zk} (hi:0 ≤ i ∧ i < (s.2.1.length:Int)) (hm:∀ c,c < 4→h.2.2.2.2.2.2.2.1.getD c 0 ≤ (r.2.2.2.2.1.getD i.toNat qf).2.2.2.2.2.1) (p:zq3 r s):zq3 r (upd s i h):=by
  intro k hk c hc
  rw [zul] at hk
  have:=p k hk c hc
  unfold zgz at this ⊢
  rw [zq2 hi]
  split
  · rename_i e; subst e
    simp only [Bool.not_eq_true',decide_eq_false_iff_not]
    exact Int.not_lt.2 (hm c hc)
  · exact this
theorem zJ9 {r:zf} {s:ze} {i:Int} (hi:0 ≤ i ∧ i < (s.2.1.length:Int)) (p:zq3 r s):∀ c,c < 4→(ix za s.2.1 i).2.2.2.2.2.2.2.1.getD c 0 ≤ (r.2.2.2.2.1.getD i.toNat qf).2.2.2.2.2.1:=by
  intro c hc
  have:=p i.toNat (by omega) c hc
  simp only [zgz,Bool.not_eq_true',decide_eq_false_iff_not] at this
  exact Int.not_lt.1 this
theorem zq4 {α:Type} (f:α→Int) (d:α):∀ (l:List α) (i:Nat) (x:α),i < l.length→zE ((List.set l i x).map f) = zE (l.map f) - f (l.getD i d) + f x
  | [],_,_,h=>by cases h
  | y :: l,0,x,_=>by
    show f x + zE (l.map f) = f y + zE (l.map f) - f y + f x
    omega
  | y :: l,i + 1,x,h=>by
    have:=zq4 f d l i x (by simpa using h)
    show f y + zE ((List.set l i x).map f) = f y + zE (l.map f) - f (l.getD i d) + f x
    omega
structure zLt (x:zk):Prop where
  purses:∀ a ∈ x.2.2.2.2.2.1,a.length = 4
  made:x.2.2.2.2.2.2.2.1.length = 4
  spent:x.2.2.2.2.2.2.2.2.1.length = 4
def zq5 (s:ze):Prop:=∀ x ∈ s.2.1,zLt x
theorem zKa {s:ze} {i:Int} {h:zk} (hi:0 ≤ i ∧ i < (s.2.1.length:Int)) (k:Int):zE ((upd s i h).2.1.map (zR k)) = zE (s.2.1.map (zR k)) - zR k (ix za s.2.1 i) + zR k h:=zq4 _ za _ _ _ (by omega)
theorem zGZ {f:zk→List Int} {s:ze} {i:Int} {h:zk} (hi:0 ≤ i ∧ i < (s.2.1.length:Int)) (k:Int):zbn f (upd s i h) k = zbn f s k - qF k (f (ix za s.2.1 i)) + qF k (f h):=zq4 (fun x=>qF k (f x)) za _ _ _ (by omega)
theorem zJs {row:List Int} {c k v:Int} (hc:zT c = true) (hk:zT k = true) (h4:row.length = 4):qF k (List.set row c.toNat v) = if k = c then v else qF k row:=by
  have hc4:=zcY hc
  have hk4:=zcY hk
  unfold qF
  by_cases e:k = c
  · subst e; rw [if_pos rfl]; exact zkA (by omega)
  · rw [if_neg e]; exact getD_set_ne (by omega)
theorem zFb {s:ze} (h4:zq5 s) {i w:Int} (a:At s i w):(jR s i w).length = 4:=(h4 _ (zcZ a.hi)).purses _ (z3 (by have:=a.hw; omega))
theorem zA1 {s:ze} (h4:zq5 s) {i w c v k:Int} (a:At s i w) (hc:zT c = true) (hk:zT k = true):zE ((vW s i w c v).2.1.map (zR k)) = zE (s.2.1.map (zR k)) - zU s i w k + (if k = c then v else zU s i w k):=by
  rw [zKa a.hi]
  have h1:=zq4 (qF k) (zb (.arr 4 tU)) (ix za s.2.1 i).2.2.2.2.2.1 w.toNat (List.set (jR s i w) c.toNat v) (by have:=a.hw; omega)
  rw [zJs hc hk (zFb h4 a)] at h1
  have e1:zR k (u5 (ix za s.2.1 i) (List.set (ix za s.2.1 i).2.2.2.2.2.1 w.toNat (List.set (jR s i w) c.toNat v))) = zE ((ix za s.2.1 i).2.2.2.2.1.map (vV k)) + zE ((List.set (ix za s.2.1 i).2.2.2.2.2.1 w.toNat (List.set (jR s i w) c.toNat v)).map (qF k)):=rfl
  have e2:zR k (ix za s.2.1 i) = zE ((ix za s.2.1 i).2.2.2.2.1.map (vV k)) + zE ((ix za s.2.1 i).2.2.2.2.2.1.map (qF k)):=rfl
  rw [e1,e2,h1]
  have e3:qF k (jR s i w) = zU s i w k:=rfl
  rw [e3]
  omega
theorem zIg {s:ze} (h4:zq5 s) {i w c v:Int} (a:At s i w):zq5 (vW s i w c v):=by
  intro x hx
  rcases List.mem_or_eq_of_mem_set hx with hx | rfl
  · exact h4 x hx
  · have h:=h4 _ (zcZ a.hi)
    refine ⟨fun y hy=>?_,h.made,h.spent⟩
    rcases List.mem_or_eq_of_mem_set hy with hy | rfl
    · exact h.purses y hy
    · rw [List.length_set]; exact zFb h4 a
theorem zIh (x:zk) (l:List (List Int)) (h:l.length = x.2.2.2.2.2.1.length):zl6 x (u5 x l):=⟨rfl,rfl,rfl,rfl,rfl,h,rfl⟩
theorem zzb {r:zf} {s:ze} {i w c v:Int} (a:At s i w) (p:zqf r s):zqf r (vW s i w c v):=zJr a.hi (zIh _ _ (List.length_set ..)) p
theorem zA2 {r:zf} {s:ze} {i w c v:Int} (a:At s i w) (p:zq3 r s):zq3 r (vW s i w c v):=zJ8 a.hi (zJ9 a.hi p) p
theorem zA3 {s:ze} {i w c v k:Int} (a:At s i w):zfw (vW s i w c v) k = zfw s k:=by
  have e1:zbn (fun x=>x.2.2.2.2.2.2.2.1) (vW s i w c v) k = zbn (fun x=>x.2.2.2.2.2.2.2.1) s k:=by
    rw [zGZ a.hi]; exact Int.sub_add_cancel _ _
  have e2:zbn (fun x=>x.2.2.2.2.2.2.2.2.1) (vW s i w c v) k = zbn (fun x=>x.2.2.2.2.2.2.2.2.1) s k:=by
    rw [zGZ a.hi]; exact Int.sub_add_cancel _ _
  unfold zfw
  rw [e1,e2]
theorem zJt {r:zf} {s:ze} (h:ji r s = true) (h4:zq5 s) {i w j v c n:Int} (a:At s i w) (b:At s j v) (hne:¬ (i = j ∧ w = v)) (hc:zT c = true):ji r (vW (vW s i w c (zU s i w c - n)) j v c (zU (vW s i w c (zU s i w c - n)) j v c + n)) = true:=by
  obtain ⟨p1,p2,p3⟩:=zA0.1 h
  have b':At (vW s i w c (zU s i w c - n)) j v:=zmi a.hi b
  refine zA0.2 ⟨zzb b' (zzb a p1),zA2 b' (zA2 a p2),fun k hk=>?_⟩
  have hkk:zT (k:Int) = true:=by simp only [zT,decide_eq_true_eq]; omega
  have h5:=p3 k hk
  have e1:=zA1 (zIg (c:=c) (v:=zU s i w c - n) h4 a) (v:=zU (vW s i w c (zU s i w c - n)) j v c + n) b' hc hkk
  rw [zA1 h4 a hc hkk] at e1
  have e2:zcX (vW (vW s i w c (zU s i w c - n)) j v c (zU (vW s i w c (zU s i w c - n)) j v c + n)) (k:Int) = zcX s (k:Int):=by
    unfold zcX
    rw [e1]
    have e3:(vW (vW s i w c (zU s i w c - n)) j v c (zU (vW s i w c (zU s i w c - n)) j v c + n)).2.2.2.1 = s.2.2.2.1:=rfl
    rw [e3]
    congr 2
    by_cases ek:(k:Int) = c
    · rw [if_pos ek,if_pos ek,ek]; omega
    · rw [if_neg ek,if_neg ek]; omega
  unfold zfY at h5 ⊢
  rw [e2,zA3 b',zA3 a]
  exact h5
end Go.Proofs.YtokcjmkikhgkeaaGreatDoor
end
section
namespace Go.Proofs.YtokcjmkikhgkeaaGreatDoor
open Go.Ev
theorem zKH {r:zf} {s:ze} (h:ji r s = true):zIb s:=by
  obtain ⟨hb,hz,hp⟩:=ze6 h
  have ok:=yf hb
  have sz:=zox hb hz
  have h1:=ok.labels
  have h2:=ok.lines
  have h3:=ok.accounts
  have h4:=sz.shelves
  have h5:=sz.orders
  have h6:=sz.entries
  have h7:=sz.people
  have h8:=ok.guilds
  have hh:zhc r s.2.2.1 = true:=by simp only [zbv,Bool.and_eq_true] at hp; exact hp.1
  have hr:=zJ2 hh
  refine ⟨by omega,by omega,by omega,by omega,by omega,fun x hx=>?_,fun l hl=>?_⟩
  · have:=sz.shelf x hx
    exact ⟨by omega,by omega,by omega,by omega,by omega,by omega,by omega⟩
  · obtain ⟨i,hi,rfl⟩:=List.mem_iff_getElem.1 hl
    have:=hr.2 i (by omega)
    rw [List.getD_eq_getElem?_getD,List.getElem?_eq_getElem hi] at this
    have this:(s.2.2.1[i]).length = _:=this
    omega
theorem zLb {r:zf} {s:ze} (hr:qp r) (hs:qB s) {me:pMe} {i w c n:Int} (hn:jf n):vR (r,s,me,i,w,c,n,()) = some (bif zq1 r s me c n then (bif vm r w && jC r i then zza r s me i w c n else ztY 1) else ztY 1):=by
  cases h:zq1 r s me c n with
  | true =>
    have:=zLa hr hs (zKH (zAp h).rs) (me:=me) (i:=i) (w:=w) (c:=c) hn
    rw [h] at this; exact this
  | false =>
    simp only [vR]
    refine (bnd (zvw hr hs me c n)).trans ?_
    rw [h]; rfl
theorem zvx {s:ze} {i w c v:Int} (a:At s i w):jR (vW s i w c v) i w = List.set (jR s i w) c.toNat v:=by
  show List.getD (ix za (upd s i _).2.1 i).2.2.2.2.2.1 _ _ = _
  rw [zy9 a.hi]
  exact zkA (by have:=a.hw; omega)
theorem zpc {s:ze} {i w c v j u:Int} (a:At s i w) (b:At s j u) (hne:¬ (i = j ∧ w = u)):jR (vW s i w c v) j u = jR s j u:=by
  show List.getD (ix za (upd s i _).2.1 j).2.2.2.2.2.1 _ _ = _
  by_cases hij:i = j
  · subst hij
    have hwu:w ≠ u:=fun e=>hne ⟨rfl,e⟩
    rw [zy9 a.hi]
    exact getD_set_ne (by have:=a.hw; have:=b.hw; omega)
  · rw [ztX a.hi.1 b.hi.1 hij]
theorem zG0 {s:ze} (hs:qB s) {i w c v:Int} (a:At s i w) (hv:jf v):qB (vW s i w c v):=by
  refine ⟨fun x hx=>?_,hs.orders,hs.entries⟩
  rcases List.mem_or_eq_of_mem_set hx with hx | rfl
  · exact hs.shelves x hx
  · have h:=hs.shelves _ (zcZ a.hi)
    refine ⟨h.trades,fun y hy=>?_,h.made,h.spent⟩
    rcases List.mem_or_eq_of_mem_set hy with hy | rfl
    · exact h.purses y hy
    · intro z hz
      rcases List.mem_or_eq_of_mem_set hz with hz | rfl
      · exact h.purses _ (z3 (by have:=a.hw; omega)) z hz
      · exact hv
theorem eqT {a b:List Int} (h:a = b):(!eqI (.arr 4 tU) a b) = false:=by
  rw [h]
  have:eqI (.arr 4 tU) b b = true:=zDk (τ:=.arr 4 tU) rfl _
  rw [this]; rfl
theorem x_MoneyUp {r:zf} {s:ze} (hr:qp r) (hs:qB s) (h4:zq5 s) {me:pMe} {x:vY} (hn:jf x.2.2.2.2.1):P_law30_MoneyUp (r,s,me,x,()) = some (true,()):=by
  have errs:∀ (e:Int) (he:(e != 0) = true) (y:Option (Bool × Unit)),(bif (ztY e).2.1 != 0 then Option.bind (zbt ()) fun q1=>bif q1.1 then some (true,()) else some (false,()) else y) = some (true,()):=fun e he y=>by
    refine (cT he).trans ?_
    rw [zAY]; rfl
  simp only [P_law30_MoneyUp,zfv]
  refine (bnd (zLb hr hs hn)).trans ?_
  cases hm:zq1 r s me x.2.2.2.1 x.2.2.2.2.1 with
  | false=>exact errs 1 rfl _
  | true =>
    have ctx:=zAp hm
    obtain ⟨rs,im,hc,pos⟩:=ctx
    have a:=zIc rs im
    have hc4:=zcY hc
    cases hb:vm r x.2.2.1 && jC r x.2.1 with
    | false=>exact errs 1 rfl _
    | true =>
      simp only [Bool.and_eq_true] at hb
      have b0:At s x.2.1 x.2.2.1:=zCT rs hb.2 hb.1
      simp only [cond_true]
      unfold zza zId
      cases hl:(x.2.1 != me.2.1) && zlB r me.2.1 x.2.1 with
      | false=>exact errs 5 rfl _
      | true =>
        simp only [cond_true]
        cases hlt:decide (zU s me.2.1 me.2.2.1 x.2.2.2.1 < x.2.2.2.2.1) with
        | true=>exact errs 6 rfl _
        | false =>
          have hge:=of_decide_eq_false hlt
          simp only [Bool.and_eq_true] at hl
          have hne:=bne_iff_ne.1 hl.1
          have hpq:¬ (me.2.1 = x.2.1 ∧ me.2.2.1 = x.2.2.1):=fun e=>hne e.1.symm
          obtain ⟨e0,h0,hle⟩:=zK9 hs ⟨rs,im,hc,pos⟩ hn b0 hpq hge
          have hco:=zGU rs hs hc a
          have b:At (zhH s me x.2.2.2.1 x.2.2.2.2.1) x.2.1 x.2.2.1:=zmi a.hi b0
          have hin:qB (zoz (zhH s me x.2.2.2.1 x.2.2.2.2.1) x.2.1 x.2.2.1 x.2.2.2.1 x.2.2.2.2.1).1:=zG0 (zG0 hs a (zGV (by omega) (by omega))) b (by rw [e0]; exact zGV (by omega) hle)
          have hright:ji r (zoz (zhH s me x.2.2.2.1 x.2.2.2.2.1) x.2.1 x.2.2.1 x.2.2.2.1 x.2.2.2.2.1).1 = true:=zJt rs h4 a b0 hpq hc
          have ml:jC r me.2.1 = true:=zJn (ze6 rs).1 im
          have hleq:zwJ (r.1.getD me.2.1.toNat qN) (r.1.getD x.2.1.toNat qN) = true:=by
            have:=hl.2
            simp only [zlB,Bool.and_eq_true] at this
            exact this.2.2
          have ok:=yf (ze6 rs).1
          have hmm:1000 ≤ Go.maxLen:=by unfold Go.maxLen; omega
          have ol:=ok.labels
          have oa:=ok.accounts
          have y5:∀ i j:Int,At s i j→jR (zoz (zhH s me x.2.2.2.1 x.2.2.2.2.1) x.2.1 x.2.2.1 x.2.2.2.1 x.2.2.2.2.1).1 i j = if i = x.2.1 ∧ j = x.2.2.1 then List.set (jR s i j) (Int.toNat x.2.2.2.1) (zU s i j x.2.2.2.1 + x.2.2.2.2.1) else if i = me.2.1 ∧ j = me.2.2.1 then List.set (jR s i j) (Int.toNat x.2.2.2.1) (zU s i j x.2.2.2.1 - x.2.2.2.2.1) else jR s i j:=by
            intro i j hij
            by_cases c1:i = x.2.1 ∧ j = x.2.2.1
            · rw [if_pos c1,c1.1,c1.2]
              refine (zvx b).trans ?_
              rw [e0,zpc a b0 hpq]
            · rw [if_neg c1]
              refine (zpc b (zmi a.hi hij) (fun e=>c1 ⟨e.1.symm,e.2.symm⟩)).trans ?_
              by_cases c2:i = me.2.1 ∧ j = me.2.2.1
              · rw [if_pos c2,c2.1,c2.2]
                exact zvx a
              · rw [if_neg c2]
                exact zpc a hij (fun e=>c2 ⟨e.1.symm,e.2.symm⟩)
          have hAt:∀ i j:Int,At s i j→At (zoz (zhH s me x.2.2.2.1 x.2.2.2.2.1) x.2.1 x.2.2.1 x.2.2.2.1 x.2.2.2.2.1).1 i j:=fun i j hij=>zmi b.hi (zmi a.hi hij)
          show (bif (zoz (zhH s me x.2.2.2.1 x.2.2.2.2.1) x.2.1 x.2.2.1 x.2.2.2.1 x.2.2.2.2.1).2.1 != 0 then _ else _) = _
          refine (cF rfl).trans ?_
          refine (bnd (zCI hr hin)).trans ?_
          refine (cT hright).trans ?_
          refine (cF (beq_eq_false_iff_ne.2 hne)).trans ?_
          have ml':=ml
          have pl':=hb.2
          simp only [jC,decide_eq_true_eq] at ml' pl'
          refine (ixR ml').trans ?_
          refine (ixR pl').trans ?_
          refine (bnd (zo8 (zkX hr _ ml) (zkX hr _ hb.2))).trans ?_
          refine (cT hleq).trans ?_
          show zgN K0 (((0:Nat):Int),r,s,me,x,(zoz (zhH s me x.2.2.2.1 x.2.2.2.2.1) x.2.1 x.2.2.1 x.2.2.2.1 x.2.2.2.2.1).1) = _
          generalize (zoz (zhH s me x.2.2.2.1 x.2.2.2.2.1) x.2.1 x.2.2.1 x.2.2.2.1 x.2.2.2.2.1).1 = t at *
          have step:∀ k0 k1 (i j:Nat),i < r.1.length→j < r.2.2.1.length→vZ k0 k1 ((i:Int),(j:Int),r,s,me,x,t) = k1 ((i:Int),wI ((j:Int) + 1),r,s,me,x,t):=by
            intro k0 k1 i j hi hj
            have A:At s (i:Int) (j:Int):=zCT rs (by simp only [jC,decide_eq_true_eq]; omega) (by simp only [vm,decide_eq_true_eq]; omega)
            have B:=hAt _ _ A
            have hrow:=y5 _ _ A
            have hin0:=zE7 hs A x.2.2.2.1
            simp only [vZ]
            rw [ltT hj]
            simp only [cond_true]
            refine (ixR A.hi).trans ?_
            refine (ixR A.hw).trans ?_
            by_cases e1:(i:Int) = me.2.1
            · refine (cT (beq_iff_eq.2 e1)).trans ?_
              have n3:¬ (i:Int) = x.2.1:=fun e=>hne (e.symm.trans e1)
              by_cases e2:(j:Int) = me.2.2.1
              · refine (cT (beq_iff_eq.2 e2)).trans ?_
                refine (ixR hc4).trans ?_
                refine (ixR hc4).trans ?_
                refine (cF (beq_eq_false_iff_ne.2 n3)).trans ?_
                refine (ixR B.hi).trans ?_
                refine (ixR B.hw).trans ?_
                refine cF (eqT ?_)
                refine hrow.trans ?_
                rw [if_neg (fun e=>n3 e.1),if_pos ⟨e1,e2⟩]
                have hw:wU (zU s (i:Int) (j:Int) x.2.2.2.1 - x.2.2.2.2.1) = zU s (i:Int) (j:Int) x.2.2.2.1 - x.2.2.2.2.1:=zgr (by rw [e1,e2]; unfold M62 at hco; omega)
                exact congrArg (List.set (jR s (i:Int) (j:Int)) (Int.toNat x.2.2.2.1)) hw.symm
              · refine (cF (beq_eq_false_iff_ne.2 e2)).trans ?_
                refine (cF (beq_eq_false_iff_ne.2 n3)).trans ?_
                refine (ixR B.hi).trans ?_
                refine (ixR B.hw).trans ?_
                refine cF (eqT ?_)
                refine hrow.trans ?_
                rw [if_neg (fun e=>n3 e.1),if_neg (fun e=>e2 e.2)]
            · refine (cF (beq_eq_false_iff_ne.2 e1)).trans ?_
              by_cases e3:(i:Int) = x.2.1
              · refine (cT (beq_iff_eq.2 e3)).trans ?_
                by_cases e4:(j:Int) = x.2.2.1
                · refine (cT (beq_iff_eq.2 e4)).trans ?_
                  refine (ixR hc4).trans ?_
                  refine (ixR hc4).trans ?_
                  refine (ixR B.hi).trans ?_
                  refine (ixR B.hw).trans ?_
                  refine cF (eqT ?_)
                  refine hrow.trans ?_
                  rw [if_pos ⟨e3,e4⟩]
                  have hw:wU (zU s (i:Int) (j:Int) x.2.2.2.1 + x.2.2.2.2.1) = zU s (i:Int) (j:Int) x.2.2.2.1 + x.2.2.2.2.1:=zgr (by rw [e3,e4]; unfold M62 at hle; omega)
                  exact congrArg (List.set (jR s (i:Int) (j:Int)) (Int.toNat x.2.2.2.1)) hw.symm
                · refine (cF (beq_eq_false_iff_ne.2 e4)).trans ?_
                  refine (ixR B.hi).trans ?_
                  refine (ixR B.hw).trans ?_
                  refine cF (eqT ?_)
                  refine hrow.trans ?_
                  rw [if_neg (fun e=>e4 e.2),if_neg (fun e=>e1 e.1)]
              · refine (cF (beq_eq_false_iff_ne.2 e3)).trans ?_
                refine (ixR B.hi).trans ?_
                refine (ixR B.hw).trans ?_
                refine cF (eqT ?_)
                refine hrow.trans ?_
                rw [if_neg (fun e=>e3 e.1),if_neg (fun e=>e1 e.1)]
          have inner:∀ k0 (i:Nat),i < r.1.length→zak K0 k0 ((i:Int),((0:Nat):Int),r,s,me,x,t) = k0 (wI ((i:Int) + 1),r,s,me,x,t):=by
            intro k0 i hi
            have:=zX (B:=fun k1=>vZ k0 k1) (i0:=0) (n:=r.2.2.1.length) (by omega) (Nat.zero_le _) (p:=fun _=>true) (fin:=k0 (wI ((i:Int) + 1),r,s,me,x,t)) (bad:=none) (fun j=>((i:Int),j,r,s,me,x,t)) (fun k j _ hj=>step k0 k i j hi hj) (fun k=>by
              simp only [vZ]
              rw [ltF]; rfl)
            refine Eq.trans this ?_
            have ht:zO (fun _=>true) 0 (r.2.2.1.length - 0) = true:=qr.2 fun _ _ _=>rfl
            rw [ht]; rfl
          have:=zX (B:=fun k0=>ya (zak K0 k0) k0) (i0:=0) (n:=r.1.length) (by omega) (Nat.zero_le _) (p:=fun _=>true) (fin:=some (true,())) (bad:=none) (fun i=>(i,r,s,me,x,t)) (fun k i _ hi=>by
            simp only [ya]
            rw [ltT hi]
            exact inner k i hi) (fun k=>by
            simp only [ya]
            rw [ltF,zAY]; rfl)
          refine Eq.trans this ?_
          have ht:zO (fun _=>true) 0 (r.1.length - 0) = true:=qr.2 fun _ _ _=>rfl
          rw [ht]; rfl
theorem foursIn {s:ze} (h:InR zq s):zq5 s:=by
  obtain ⟨-,h2,-⟩:=h
  intro x hx
  obtain ⟨-,-,-,-,-,h6,-,h8,h9,-⟩:=h2.2 x hx
  exact ⟨fun a ha=>(h6.2 a ha).1,h8.1,h9.1⟩
end Go.Proofs.YtokcjmkikhgkeaaGreatDoor
end
section
namespace Go.Proofs.YtokcjmkikhgkeaaGreatDoor.fnMoneyUp
open Go.ChangeShapes Go.WideShapes Go.ChangeAt Go.RowKit Go.Ev
theorem own:ownKnob Tryz.prog.godebug = none:=by kernel_rfl
def zJu:List Int→List Value:=List.map (Value.int .u8)
theorem zLk:∀ f add,Ev.look ext f = some add→ExtOk Tryz.prog f add:=by
  intro f add h
  have h':(Nat.beq 223 f = true ∧ add = false) ∨ (Nat.beq 215 f = true ∧ add = true):=by
    simp only [ext,Ev.look] at h
    cases h1:Nat.beq 215 f with
    | true=>rw [h1] at h; exact .inr ⟨rfl,(Option.some.inj h).symm⟩
    | false =>
      rw [h1] at h
      cases h2:Nat.beq 223 f with
      | true=>rw [h2] at h; exact .inl ⟨rfl,(Option.some.inj h).symm⟩
      | false=>rw [h2] at h; cases h
  rcases h' with ⟨h1,rfl⟩ | ⟨h1,rfl⟩
  · obtain rfl:=Nat.eq_of_beq_eq_true h1
    intro x y w hx hy hy2
    obtain ⟨m,rfl⟩:=Int.eq_ofNat_of_zero_le hx
    obtain ⟨n,rfl⟩:=Int.eq_ofNat_of_zero_le hy
    rw [run_callFunc_extern (P:=Tryz.prog) (f:=223) Tryz.func223 (by kernel_rfl) (by kernel_rfl) (by kernel_rfl) (e:=sub64Entry) (by kernel_rfl)]
    have h0:(sub64Entry #[.int .u64 (m:Int),.int .u64 (n:Int),.int .u64 0]).run Tryz.prog w = .ok (.tuple #[.int .u64 (((m + 18446744073709551616 - n - 0) % 18446744073709551616:Nat):Int),.int .u64 ((if m < n + 0 then 1 else 0:Nat):Int)]) w:=run_sub64 m n 0 (by omega) w
    have e1:extA false (m:Int) (n:Int) = (((m + 18446744073709551616 - n - 0) % 18446744073709551616:Nat):Int):=by
      show ((m:Int) - (n:Int)) % 18446744073709551616 = _
      omega
    have e2:extB false (m:Int) (n:Int) = ((if m < n + 0 then 1 else 0:Nat):Int):=by
      show cond (decide ((m:Int) < (n:Int))) 1 0 = _
      by_cases h:m < n
      · rw [decide_eq_true (by omega),if_pos (by omega)]; rfl
      · rw [decide_eq_false (by omega),if_neg (by omega)]; rfl
    rw [h0,e1,e2]
    rfl
  · obtain rfl:=Nat.eq_of_beq_eq_true h1
    intro x y w hx hy hy2
    rw [run_callFunc_extern (P:=Tryz.prog) (f:=215) Tryz.func215 (by kernel_rfl) (by kernel_rfl) (by kernel_rfl) (e:=add64Entry) (by kernel_rfl),run_add64 x y 0 hx hy (by omega) (by omega),Int.add_zero]
    rfl
theorem env {W:World} (hL:laidMetH Tryz.prog Rows.moneyUpRow.laid W):EnvOk Tryz.prog (FH.of W) E0:=by
  exact EnvOk.nil (by kernel_rfl) (fun g v hv=>by cases hv) zLk
set_option maxRecDepth 100000 in
theorem zKb (H:Type) (enc:TypeId × Value→H) (W:World) (base:Nat) (args:Array Value) (ds gs:List (DataW H)) (before:List MemPlace)
    (hval:∀ (j:Nat) t v,Tryz.f3.params[j]? = some t→args[j]? = some v→Value.okWide Tryz.prog W .any base t v)
    (hW:DataW.Whole enc Tryz.prog Tryz.f3.params.toList Rows.moneyUpSpec.vars false W args.toList ds gs before) (hL:laidMetH Tryz.prog Rows.moneyUpRow.laid W) :
    Calls Tryz.prog 3 args W fun e W'=>∃ v,e = .returned v ∧ Rows.moneyUpSpec.post enc Tryz.prog Tryz.f3 false true false false W args v W':=by
  refine law_contract (a:=A_law30_MoneyUp) (tb:=4) (by kernel_rfl) (by decide +kernel) (by kernel_rfl) (by kernel_rfl) (by kernel_rfl) rfl (fun ds hd=>?_) hval hW fun x hx hbk hr=>?_
  · have:Tryz.f3.params.size = 4:=by kernel_rfl
    rw [this] at hd
    match ds,hd with
    | [d1,d2,d3,d4],_=>rfl
  · have hs:=s_law30_MoneyUp (FH.of W) (env hL)
    have he:P_law30_MoneyUp x = some (true,()):=by
      obtain ⟨r,s,m,d,⟨⟩⟩:=x
      exact x_MoneyUp (realmIn hx.1) (stateIn hx.2.1) (foursIn hx.2.1) (deedIn hx.2.2.2.1)
    have hc:=hs.2 x (true,()) he (FH.of W) W args.toList (FH.le.refl _) (FH.of_ok W) hr
    refine hc.mono fun e W' he=>?_
    obtain ⟨us,F',h1,h2,_,_,h3⟩:=he
    refine ⟨?_,h2⟩
    obtain ⟨v,r,hus,hv,hva,hnil⟩:=(show RepA Tryz.prog F' (.pair .bool .unit) (true,()) us from h3)
    have hr0:r = []:=hnil
    subst hr0
    have hv':v.cells.toList = [.bool true]:=hv
    rw [h1,hus]
    have hva':isAggV v = false:=hva
    have:v = .bool true:=by
      cases v <;> first | (simp [isAggV] at hva'; done) | (simp [Value.cells] at hv'; exact congrArg _ hv') | (simp [Value.cells] at hv')
    rw [this]
    rfl
def zLc (l:List Value):Obj→Obj
  | .cells _ t frozen=>.cells l.toArray t frozen
  | o=>o
noncomputable def laidWorld (os:Os):World :=
  { World.holding Tryz.prog os ⟨#[],#[],[]⟩ with heap:=((World.holding Tryz.prog os ⟨#[],#[],[]⟩).heap.modify 0 (zLc (zJu (Pinned.utf8FirstZ.map fun n:Nat=>(n:Int))))).modify 1 (zLc (zJu [128,191,160,191,128,159,144,191,128,143,0,0,0,0,0,0,0,0,0,0,0,0,0,0,0,0,0,0,0,0,0,0])) }
def arg0:Value:=.agg #[.slice none 0 0,.slice none 0 0,.slice none 0 0,.slice none 0 0,.slice none 0 0,.int .i64 0,.int .i64 0,.int .i64 0,.int .i64 0]
def zIi:Value:=.agg #[.int .u64 0,.slice none 0 0,.slice none 0 0,.slice none 0 0,.slice none 0 0,.slice none 0 0]
def zIj:Value:=.agg #[.int .i64 0,.int .i64 0,.int .i64 0]
def zIk:Value:=.agg #[.int .i64 0,.int .i64 0,.int .i64 0,.int .i64 0,.int .u64 0]
theorem laid_met (os:Os):laidMet Tryz.prog Rows.moneyUpRow.laid ((laidWorld os).forCall (fun _ _=>0) ⟨#[],#[arg0,zIi,zIj,zIk],[]⟩).memory :=
  laidMet_of_run' 8 (by kernel_rfl) (by kernel_rfl)
theorem reads (os:Os) {H:Type} (enc:TypeId × Value→H):∃ places,DataW.whole enc Tryz.prog ((laidWorld os).forCall (fun _ _=>0) ⟨#[],#[arg0,zIi,zIj,zIk],[]⟩).memory Tryz.f3.params.toList Rows.moneyUpSpec.vars false #[arg0,zIi,zIj,zIk].toList 8 = some ([.agg [.nil,.nil,.nil,.nil,.nil,.lit (.int .i64 0),.lit (.int .i64 0),.lit (.int .i64 0),.lit (.int .i64 0)],.agg [.lit (.int .u64 0),.nil,.nil,.nil,.nil,.nil],.agg [.lit (.int .i64 0),.lit (.int .i64 0),.lit (.int .i64 0)],.agg [.lit (.int .i64 0),.lit (.int .i64 0),.lit (.int .i64 0),.lit (.int .i64 0),.lit (.int .u64 0)]],[],places) :=
  ⟨[],by kernel_rfl⟩
set_option maxRecDepth 100000 in
theorem lifted (os:Os) (started:os.Started) (H:Type) (enc:TypeId × Value→H) (F:Stop.Interp) :
    ReturnsInHanded {} Tryz.checked os 3 .any ((OpenSpec.ofChange Rows.moneyUpSpec).preRow enc Tryz.prog Tryz.f3 Rows.moneyUpRow.domain false Rows.moneyUpRow.laid) (((OpenSpec.ofChange Rows.moneyUpSpec).at F).post enc Tryz.prog Tryz.f3 false true false false):=by
  obtain ⟨places,hx⟩:=reads os enc
  refine returnsInHanded_of_row (C:=Tryz.checked) (s:=OpenSpec.ofChange Rows.moneyUpSpec) own started (by kernel_rfl) Tryz.func3
    (witness_row_at (enc:=enc) (C:=Tryz.checked) false (laidWorld os) #[arg0,zIi,zIj,zIk] rfl (by kernel_rfl) (by kernel_rfl) (by kernel_rfl)
      (OpenSpec.preRow_of_cond 8 hx (by kernel_rfl) (fun k hk=>by cases hk) (by kernel_rfl) (laid_met os))) ?_
  intro W base args ds gs before hval hW _ _ _ hL _ _
  exact zKb H enc W base args ds gs before hval hW hL
end Go.Proofs.YtokcjmkikhgkeaaGreatDoor.fnMoneyUp
end
section
namespace Go.Proofs.YtokcjmkikhgkeaaGreatDoor.fnMoneyUp
open Go.ChangeShapes Go.WideShapes Go.ChangeAt Go.RowKit Go.Ev
theorem k2:laidOutB Tryz.prog = true:=by kernel_rfl
theorem k3:mapsRowed Tryz.prog = true:=by kernel_rfl
theorem k10:(Rows.moneyUpRow.inPlace == Tryz.prog.inPlace 3) = true:=by kernel_rfl
theorem k11:(Rows.moneyUpRow.unfollowed == Tryz.prog.unfollowed 3) = true:=by kernel_rfl
theorem k12:(Rows.moneyUpRow.recurses == Tryz.prog.recurses 3) = true:=by kernel_rfl
theorem k13:(Rows.moneyUpRow.named == Tryz.prog.varsNamed 3) = true:=by kernel_rfl
theorem k23:(Rows.moneyUpRow.plainKeys == Tryz.prog.plainKeys) = true:=by kernel_rfl
theorem k24:Tryz.prog.stopsHeard = true:=by kernel_rfl
theorem k25:Tryz.prog.mayEnter = true:=by kernel_rfl
theorem k26:(Rows.moneyUpRow.lifted == Tryz.prog.liftsFinal) = true:=by kernel_rfl
theorem k27:(Tryz.prog.make == some Rows.moneyUpRow.make) = true:=by kernel_rfl
theorem zKI:joinedFacts Tryz.prog 3 Tryz.f3 (OpenSpec.ofChange Rows.moneyUpSpec).bare Rows.moneyUpRow = true:=by
  unfold joinedFacts
  rw [k2,k3,k10,k11,k12,k13,k23,k24,k25,k26,k27]
  kernel_rfl
theorem peq:Tryz.pinned.checked.prog = Tryz.prog:=by kernel_rfl
theorem closed:joinedFacts Tryz.pinned.checked.prog 3 Tryz.f3 (OpenSpec.ofChange Rows.moneyUpSpec).bare Rows.moneyUpRow = true:=by
  rw [peq]; exact zKI
end Go.Proofs.YtokcjmkikhgkeaaGreatDoor.fnMoneyUp
end
