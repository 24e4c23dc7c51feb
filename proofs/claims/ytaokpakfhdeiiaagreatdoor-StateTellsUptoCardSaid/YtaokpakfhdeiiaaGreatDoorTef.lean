import Derived.Test.YtaokpakfhdeiiaaGreatDoorTee
import Derived.Shelf.Spec.BitsCarry
set_option linter.unusedVariables false
set_option linter.unusedSimpArgs false
section
namespace Go.Proofs.YtaokpakfhdeiiaaGreatDoor
open Go.Ev
theorem qaL {r:zd} {s:ze} {i:Int} {x:zg} (hit:x.2.2.1.all zcx = true):zQA r s i x = zyv r s i x:=by
  have hi:=List.all_eq_true.1 hit
  rw [Bool.eq_iff_iff]
  unfold zQA zyv zJE zlH zB2
  simp only [Bool.and_eq_true,ju,@zYn z3 zL,@zYn zo qb,qcy hit]
  constructor
  · rintro ⟨h1,h2,h3,h4,h5⟩
    have h2':∀ j,j < x.2.2.1.length→zqk r s i (x.2.2.1.getD j zL) = true ∧ zA5 r (x.2.2.1.getD j zL) = true ∧ zvr x j (x.2.2.1.getD j zL) = true:=fun j hj=>by
      have:=h2 j (Nat.zero_le _) (by omega)
      rw [z1a (hi _ (qg hj))] at this
      simpa [Bool.and_eq_true] using this
    exact ⟨⟨h1,fun j hj=>(h2' j hj).1,h5⟩,⟨fun j hj=>(h2' j hj).2.1,h4,fun j hj=>(h3 j (Nat.zero_le _) (by omega)).1⟩,fun j _ hj=>(h2' j (by omega)).2.2,fun j _ hj=>(h3 j (Nat.zero_le _) (by omega)).2⟩
  · rintro ⟨⟨h1,h2,h3⟩,⟨h4,h5,h6⟩,h7,h8⟩
    refine ⟨h1,fun j _ hj=>?_,fun j _ hj=>⟨h6 j (by omega),h8 j (by omega) (by omega)⟩,h5,h3⟩
    rw [z1a (hi _ (qg (by omega))),h2 j (by omega),h4 j (by omega),h7 j (by omega) (by omega)]
    rfl
theorem z6c {r:zd} {s:ze} (hr:jC r) (ok:zlE r) (hs:zdC s) (sz:zlG r s) {i:Nat} (hi:i < s.2.1.length):zcR (r,s,(i:Int),()) = some (yw (s.2.1.getD i za) && zyv r s i (s.2.1.getD i za),()):=by
  rw [z3g hr ok hs sz hi]
  cases h:yw (s.2.1.getD i za) with
  | false=>rfl
  | true =>
    have hit:(s.2.1.getD i za).2.2.1.all zcx = true:=by
      simp only [yw,Bool.and_eq_true] at h
      exact h.2.2.1
    rw [qaL hit]
end Go.Proofs.YtaokpakfhdeiiaaGreatDoor
end
section
namespace Go.Proofs.YtaokpakfhdeiiaaGreatDoor
open Go.Ev
def qK:List Int→Int
  | []=>0
  | x :: l=>x + qK l
theorem zYo:∀ (l m:List Int),qK (l ++ m) = qK l + qK m
  | [],m=>by simp [qK]
  | x :: l,m=>by simp only [List.cons_append,qK,zYo l m]; omega
theorem zQB:∀ {l:List Int},(∀ x ∈ l,0 ≤ x)→0 ≤ qK l
  | [],_=>Int.le_refl 0
  | x :: l,h=>by
    have h1:=h x (by simp)
    have h2:=zQB (l:=l) fun y hy=>h y (by simp [hy])
    simp only [qK]; omega
theorem yn {α:Type} {g:α→Int} {l:List α} (h:∀ x ∈ l,0 ≤ g x):0 ≤ qK (l.map g):=zQB fun x hx=>by
  obtain ⟨y,hy,rfl⟩:=List.mem_map.1 hx
  exact h y hy
def zA8 (n:Int):Int × Int × Unit:=bif decide (n > M62) then (0,7,()) else (n,0,())
theorem zav {n:Int} (h:n > M62):zA8 n = (0,7,()):=by unfold zA8; rw [decide_eq_true h]; rfl
theorem zez {n:Int} (h:n ≤ M62):zA8 n = (n,0,()):=by unfold zA8; rw [decide_eq_false (by omega)]; rfl
theorem zJF:∀ (l:List Int) (a:Int),a ≤ M62→(∀ x ∈ l,0 ≤ x)→zAZ a l = zA8 (a + qK l)
  | [],a,h,_=>by simp only [zAZ,qK,Int.add_zero]; exact (zez h).symm
  | x :: l,a,h,hp=>by
    have h2:=zQB (l:=l) fun y hy=>hp y (by simp [hy])
    simp only [zAZ,qK]
    by_cases hb:a + x > M62
    · rw [decide_eq_true hb,zav (by omega)]; rfl
    · rw [decide_eq_false hb,cond_false,zJF l (a + x) (by omega) fun y hy=>hp y (by simp [hy])]
      congr 1; omega
theorem zND {α:Type} (p:α→Bool) (g:α→Int):∀ l:List α,qK ((l.filter p).map g) = qK (l.map fun x=>bif p x then g x else 0)
  | []=>rfl
  | x :: l=>by
    have ih:=zND p g l
    rw [zA0]
    simp only [List.map_cons,qK]
    cases hp:p x with
    | true=>simp only [cond_true,List.map_cons,qK,ih]
    | false=>simp only [cond_false,ih]; omega
def zB3 (x:zj):Int:=bif (x.2.2.2.1:Int) == 2 then x.2.2.2.2.1 else x.2.2.2.2.2.1
theorem qez (x:zj):zeO (x,()) = some (zB3 x,()):=by
  simp only [zeO,zEh,zB3]; grind
def vY (c:Int) (x:zj):Int:=bif x.1 && zB3 x == c then x.2.2.2.2.2.2.2.2.1 else 0
def zA9 (l:List zj) (c:Int):Int × Int × Unit:=bif jR c then zA8 (qK (l.map (vY c))) else (0,1,())
theorem qcz (l:List zj) (hl:l.length ≤ lim):zqR (l,()) = some (some (l,some zkY,()),()):=by
  simp only [zqR,zQm,zgs,zva,z5M hl,Option.bind_some]
  rfl
theorem z8P (x:zj):zkY (x,()) = some (x.1,()):=by
  rw [zR]; rfl
theorem qaM {l:List zj} (hl:l.length ≤ lim) (h:∀ x ∈ l,zq8 x) (c:Int):znL (l,c,()) = some (zA9 l c):=by
  have hl':l.length ≤ Go.maxLen:=by unfold lim at hl; unfold Go.maxLen; omega
  simp only [znL,zBn,zgW,Option.bind_some]
  unfold zA9
  cases hc:jR c with
  | false=>rfl
  | true =>
    have hslots:zkZ (l,()) = some (vu (fun x:zj=>x.1) 0 l,()):=by
      simp only [zkZ,zIY]
      rw [qcz l hl,Option.bind_some,z50 hl z8P,Option.bind_some]
    simp only [cond_true]
    rw [hslots,Option.bind_some]
    have hsl:=zFH (p:=fun x:zj=>x.1) l 0
    have hsm:=zFI (p:=fun x:zj=>x.1) l 0
    have hloop:=yu (B:=zmY zeO vn) (l:=vu (fun x:zj=>x.1) 0 l) (α:=List Int) (0:Int) (fun i o=>o.length ≤ i ∧ ∀ x ∈ o,0 ≤ x ∧ x < U64) (fun i o=>(l,c,vu (fun x:zj=>x.1) 0 l,((vu (fun x:zj=>x.1) 0 l).length:Int),i,o))
      (fun rest o=>some (zAZ 0 (o ++ (rest.filter fun z=>zB3 (l.getD z.toNat zP) == c).map fun z=>(l.getD z.toNat zP).2.2.2.2.2.2.2.2.1))) (by omega) (fun k i x rest o hi hI hx hm hr hk=>by
        simp only [zmY]
        obtain ⟨j,rfl,-,hj⟩:=hsm x hm
        rw [ltT hi,zn hi,zS,hx,zn (by omega),zn (by omega),Int.toNat_natCast,set1,qez]
        have hxx:=(h (l.getD j zP) (qg (by omega))).held
        simp only [cond_true,zA0,Int.toNat_natCast,Option.bind_some]
        rw [decide_eq_true (by simp; omega)]
        simp only [cond_true]
        cases hq:zB3 (l.getD j zP) == c with
        | false =>
          exact hk o ⟨by omega,hI.2⟩
        | true =>
          simp only [cond_true,List.map_cons,Int.toNat_natCast]
          refine (hk _ ⟨by simp; omega,fun x hx=>?_⟩).trans ?_
          · rcases List.mem_append.1 hx with hx | hx
            · exact hI.2 x hx
            · rcases List.mem_singleton.1 hx with rfl
              exact hxx
          · rw [List.append_assoc]; rfl) (fun k o hI=>by
        simp only [zmY]
        rw [ltF]
        simp only [cond_false]
        rw [zFG (by omega) hI.2,List.filter_nil,List.map_nil,List.append_nil]
        rfl) [] ⟨Nat.le_refl _,fun x hx=>by cases hx⟩
    refine hloop.trans ?_
    rw [List.nil_append,zEN (q:=fun x:zj=>zB3 x == c) (g:=fun x:zj=>x.2.2.2.2.2.2.2.2.1) zP l l 0 fun j _=>by rw [Nat.zero_add]]
    rw [zJF _ 0 (by unfold M62; omega) fun x hx=>?_,zND,Int.zero_add]
    · rfl
    · obtain ⟨y,hy,rfl⟩:=List.mem_map.1 hx
      exact (h y (List.mem_filter.1 hy).1).held.1
theorem zty {x:zj} (h:zq8 x) (c:Int):zo5 (vY c x):=by
  unfold vY
  cases x.1 && zB3 x == c with
  | true=>exact h.held
  | false=>exact (⟨Int.le_refl 0,by unfold U64; decide⟩:zo5 0)
theorem z6d (x:zj) (c:Int):zeR (x,c,()) = some (vY c x,()):=by
  simp only [zeR,zEH,vY,zB3]; grind
theorem zJG {a b:Int}:zQy a b = zA8 (a + b):=rfl
theorem z8Q {l:List zj} (hl:l.length ≤ Go.maxLen) (h:∀ x ∈ l,zq8 x) (c:Int):zle (l,c,()) = some (zA9 l c):=by
  simp only [zle,zyc]
  unfold zA9
  cases hc:jR c with
  | false=>unfold jR at hc; grind
  | true =>
    have hloop:=yu (B:=zld zeR qz) (l:=l) (α:=Int) zP (fun _ s=>0 ≤ s ∧ s ≤ M62) (fun i s=>(l,c,s,i)) (fun rest s=>some (zA8 (s + qK (rest.map (vY c))))) hl (fun k i x rest s hi hI hx hm hr hk=>by
      simp only [zld]
      have hxx:=zty (h x hm) c
      have hrest:0 ≤ qK (rest.map (vY c)):=yn fun y hy=>(zty (h y (by rw [← hr] at hy; exact List.mem_of_mem_drop hy)) c).1
      rw [ltT hi,zn hi,zS,hx,z6d]
      simp only [cond_true,Option.bind_some,List.map_cons,qK]
      rw [zlD (by unfold M62 at hI; unfold U64; omega) hxx,zJG,Option.bind_some]
      by_cases hb:s + vY c x > M62
      · rw [zav hb,zav (by omega)]; rfl
      · rw [zez (by omega)]
        have:=hk (s + vY c x) ⟨by have:=hxx.1; omega,by omega⟩
        refine this.trans ?_
        rw [Int.add_assoc]) (fun k s hI=>by
      simp only [zld]; rw [ltF]
      simp only [cond_false,List.map_nil,qK,Int.add_zero]
      rw [zez hI.2]) 0 (by unfold M62; omega)
    refine Eq.trans ?_ (hloop.trans ?_)
    · unfold jR at hc
      grind
    · rw [Int.zero_add]; rfl
def zfx (c:Int) (x:zo):Int:=bif x.1 && (x.2.2.2.1.1:Int) == c then x.2.2.2.1.2.1 else 0
theorem zUM {l:List zo} (h:∀ x ∈ l,zq6 x) {c:Int} (hc:jR c = true):zvK l c = zA8 (qK (l.map (zfx c))):=by
  unfold zvK
  rw [hc,cond_true,zJF _ 0 (by unfold M62; omega) fun x hx=>?_,zND,Int.zero_add]
  · rfl
  · obtain ⟨y,hy,rfl⟩:=List.mem_map.1 hx
    exact (h y (List.mem_filter.1 hy).1).1.1
theorem z6e {x:zo} (h:zq6 x) (c:Int):zo5 (zfx c x):=by
  unfold zfx
  cases x.1 && (x.2.2.2.1.1:Int) == c with
  | true=>exact h.1
  | false=>exact (⟨Int.le_refl 0,by unfold U64; decide⟩:zo5 0)
def zaJ (c:Int) (a:List Int):Int:=a.getD c.toNat 0
def zb0 (c:Int) (x:zg):Int:=qK (x.2.2.2.2.1.map (zfx c)) + qK (x.2.2.2.2.2.1.map (zaJ c))
theorem zQC {x:zg} (h:zPc x) (c:Int):0 ≤ qK (x.2.2.2.2.1.map (zfx c)):=yn fun y hy=>(z6e (h.trades y hy) c).1
theorem zQD {x:zg} (h:zPc x) (c:Int):0 ≤ qK (x.2.2.2.2.2.1.map (zaJ c)):=yn fun y hy=>(zgX (h.purses y hy) _).1
theorem ztz {x:zg} (h:zPc x) (c:Int):0 ≤ zb0 c x:=by
  have:=zQC h c
  have:=zQD h c
  unfold zb0; omega
def zBs (s:ze) (c:Int):Int × Int × Unit:=bif jR c then zA8 (qK (s.2.2.2.1.map (vY c)) + qK (s.2.1.map (zb0 c))) else (0,1,())
def wts:List zg→Nat
  | []=>0
  | x :: l=>1 + x.2.2.2.2.2.1.length + wts l
structure zFJ (s:ze):Prop where
  shelves:s.2.1.length ≤ 2000000
  orders:s.2.2.2.1.length ≤ 2000000
  shelf:∀ x ∈ s.2.1,x.2.2.2.2.1.length ≤ 2000000 ∧ x.2.2.2.2.2.1.length ≤ 2000000
  all:wts s.2.1 ≤ 2000000
theorem qeA {l:List zg} {i:Nat} {x:zg} {rest:List zg} (hi:i < l.length) (hx:l.getD i za = x) (hr:l.drop (i + 1) = rest):wts (l.drop i) = 1 + x.2.2.2.2.2.1.length + wts rest:=by
  rw [zia za hi,hx,hr]; rfl
theorem qdI {n:Nat}:∀ {l:List zg},(∀ x ∈ l,x.2.2.2.2.2.1.length ≤ n)→wts l ≤ l.length * (n + 1)
  | [],_=>Nat.zero_le _
  | x :: l,h=>by
    have h1:=h x (by simp)
    have h2:=qdI (l:=l) fun y hy=>h y (by simp [hy])
    simp only [wts,List.length_cons,Nat.add_mul]
    omega
theorem zLu {c:Int} (hc:jR c = true):0 ≤ c ∧ c < ((4:Nat):Int):=by
  simp only [jR,decide_eq_true_eq] at hc; omega
theorem zJH {s:ze} (hs:zdC s) (sh:zFJ s) (c:Int):jW (s,c,()) = some (zBs s c):=by
  have hlm:10000000 ≤ lim:=by unfold lim; omega
  have hmm:10000000 ≤ Go.maxLen:=by unfold Go.maxLen; omega
  have hsh:=sh.shelves
  have hso:=sh.orders
  simp only [jW,zxR,zgW,Option.bind_some]
  rw [qaM (by omega) hs.orders]
  unfold zBs zA9
  cases hc:jR c with
  | false=>rfl
  | true =>
    have hcin:=zLu hc
    simp only [cond_true,Option.bind_some]
    have hbook:0 ≤ qK (s.2.2.2.1.map (vY c)):=yn fun y hy=>(zty (hs.orders y hy) c).1
    have hall:0 ≤ qK (s.2.1.map (zb0 c)):=yn fun y hy=>ztz (hs.shelves y hy) c
    have inner:∀ k0 (i:Nat) (x:zg) (o:List Int),x.2.2.2.2.2.1.length ≤ 2000000→o.length ≤ 2000001→zk4 K0 k0 (c,s.2.1,(s.2.1.length:Int),(i:Int),x.2.2.2.2.2.1,(x.2.2.2.2.2.1.length:Int),0,o) = k0 (c,s.2.1,(s.2.1.length:Int),wI ((i:Int) + 1),o ++ x.2.2.2.2.2.1.map (zaJ c)):=fun k0 i x o hx ho =>
      yu (B:=fun k1=>zk3 k0 k1) (l:=x.2.2.2.2.2.1) (α:=List Int) (zb (Ty.arr 4 tU)) (fun j o'=>o'.length ≤ 2000001 + j) (fun j o'=>(c,s.2.1,(s.2.1.length:Int),(i:Int),x.2.2.2.2.2.1,(x.2.2.2.2.2.1.length:Int),j,o')) (fun rest o'=>k0 (c,s.2.1,(s.2.1.length:Int),wI ((i:Int) + 1),o' ++ rest.map (zaJ c))) (by omega) (fun k j a rest o' hj hI ha hm hr hk=>by
        simp only [zk3]
        have h4:((4:Int)) = ((4:Nat):Int):=rfl
        rw [ltT hj,zn hj,Int.toNat_natCast,ha,set1,decide_eq_true (by simp; omega)]
        simp only [cond_true]
        refine Eq.trans (ixR hcin) ?_
        refine (hk _ (by simp; omega)).trans ?_
        rw [List.append_assoc]; rfl) (fun k o' _=>by
        simp only [zk3]; rw [ltF]
        simp only [cond_false,List.map_nil,List.append_nil]) o ho
    by_cases hb:qK (s.2.2.2.1.map (vY c)) > M62
    · rw [zav hb,zav (by omega)]; rfl
    · rw [zez (by omega)]
      have hloop:=yu (B:=fun k0=>zfN zgu vn (zk4 K0 k0) k0) (l:=s.2.1) (α:=List Int) za (fun i o=>o.length + wts (s.2.1.drop i) ≤ 2000001 ∧ ∀ x ∈ o,0 ≤ x ∧ x < U64) (fun i o=>(c,s.2.1,(s.2.1.length:Int),i,o)) (fun rest o=>some (zA8 (qK o + qK (rest.map (zb0 c))))) (by omega) (fun k i x rest o hi hI hx hm hr hk=>by
        simp only [zfN]
        have hin:=hs.shelves x hm
        have hlen:=sh.shelf x hm
        have hw:=qeA hi hx hr
        have hw2:=hI.1
        rw [hw] at hw2
        have h1:=zQC hin c
        have h2:=zQD hin c
        have ho:0 ≤ qK o:=zQB fun y hy=>(hI.2 y hy).1
        have hrest:0 ≤ qK (rest.map (zb0 c)):=yn fun y hy=>ztz (hs.shelves y (by rw [← hr] at hy; exact List.mem_of_mem_drop hy)) c
        rw [ltT hi,zn hi,zS,hx,z8J (by omega) hin.trades,zUM hin.trades hc]
        simp only [cond_true,Option.bind_some,List.map_cons,qK,zb0]
        by_cases hb:qK (x.2.2.2.2.1.map (zfx c)) > M62
        · rw [zav hb,zav (by omega)]; rfl
        · rw [zez (by omega),set1,inner k i x _ (by omega) (by simp; omega)]
          rw [decide_eq_true (by simp; omega)]
          simp only [bne_self_eq_false,cond_true,cond_false]
          refine (hk _ ⟨by rw [hr]; simp; omega,fun y hy=>?_⟩).trans ?_
          · rcases List.mem_append.1 hy with hy | hy
            · rcases List.mem_append.1 hy with hy | hy
              · exact hI.2 y hy
              · rcases List.mem_singleton.1 hy with rfl
                unfold M62 at hb; unfold U64; omega
            · obtain ⟨a,ha,rfl⟩:=List.mem_map.1 hy
              exact zgX (hin.purses a ha) _
          · rw [zYo,zYo]
            simp only [qK]
            congr 2; omega) (fun k o hI=>by
        simp only [zfN]
        rw [ltF]
        simp only [cond_false]
        rw [zFG (by omega) hI.2,zJF o 0 (by unfold M62; omega) fun y hy=>(hI.2 y hy).1]
        simp only [List.map_nil,qK,Int.add_zero,Int.zero_add]
        rfl) [qK (s.2.2.2.1.map (vY c))] ⟨by have:=sh.all; simp; omega,fun y hy=>by
          rcases List.mem_singleton.1 hy with rfl
          unfold M62 at hb; unfold U64; omega⟩
      refine hloop.trans ?_
      simp only [qK,Int.add_zero]
theorem zJI {s:ze} (hs:zdC s) (sh:zFJ s) (c:Int):yC (s,c,()) = some (zBs s c):=by
  have hmm:10000000 ≤ Go.maxLen:=by unfold Go.maxLen; omega
  have hsh:=sh.shelves
  have hso:=sh.orders
  simp only [yC,zye]
  rw [z8Q (by omega) hs.orders]
  unfold zBs zA9
  cases hc:jR c with
  | false=>rfl
  | true =>
    have hcin:=zLu hc
    simp only [cond_true,Option.bind_some]
    have hbook:0 ≤ qK (s.2.2.2.1.map (vY c)):=yn fun y hy=>(zty (hs.orders y hy) c).1
    have hall:0 ≤ qK (s.2.1.map (zb0 c)):=yn fun y hy=>ztz (hs.shelves y hy) c
    have inner:∀ k0 (i:Nat) (a:Int),i < s.2.1.length→0 ≤ a ∧ a ≤ M62→zlj qz K0 k0 (c,a,(i:Int),0,s) = bif decide (a + qK ((s.2.1.getD i za).2.2.2.2.2.1.map (zaJ c)) > M62) then some (0,7,()) else k0 (c,a + qK ((s.2.1.getD i za).2.2.2.2.2.1.map (zaJ c)),wI ((i:Int) + 1),s):=fun k0 i a hi ha=>by
      have hlen:=sh.shelf _ (qg (d:=za) hi)
      have hin:=hs.shelves _ (qg (d:=za) hi)
      exact yu (B:=fun k1=>zli qz k0 k1) (l:=(s.2.1.getD i za).2.2.2.2.2.1) (α:=Int) (zb (Ty.arr 4 tU)) (fun j a=>0 ≤ a ∧ a ≤ M62) (fun j a=>(c,a,(i:Int),j,s)) (fun rest a=>bif decide (a + qK (rest.map (zaJ c)) > M62) then some (0,7,()) else k0 (c,a + qK (rest.map (zaJ c)),wI ((i:Int) + 1),s)) (by omega) (fun k j y rest a hj hI hy hm hr hk=>by
        have hyy:=zgX (hin.purses y hm) c.toNat
        have hrest:0 ≤ qK (rest.map (zaJ c)):=yn fun z hz=>(zgX (hin.purses z (by rw [← hr] at hz; exact List.mem_of_mem_drop hz)) _).1
        simp only [zli]
        simp only [zn hi,zS]
        rw [ltT hj,zn hj,hy]
        simp only [cond_true,List.map_cons,qK]
        refine Eq.trans (ixR hcin) ?_
        rw [zlD (by unfold M62 at hI; unfold U64; omega) hyy,zJG,Option.bind_some]
        have hp:zaJ c y = List.getD y c.toNat 0:=rfl
        rw [hp]
        by_cases hb:a + List.getD y c.toNat 0 > M62
        · rw [zav hb,decide_eq_true (by omega)]; rfl
        · rw [zez (by omega)]
          have:=hk (a + List.getD y c.toNat 0) ⟨by have:=hyy.1; omega,by omega⟩
          refine this.trans ?_
          rw [Int.add_assoc]) (fun k a hI=>by
        simp only [zli]
        simp only [zn hi,zS]
        rw [ltF]
        simp only [cond_false,List.map_nil,qK,Int.add_zero]
        rw [decide_eq_false (by omega)]; rfl) a ha
    by_cases hb:qK (s.2.2.2.1.map (vY c)) > M62
    · rw [zav hb,zav (by omega)]; rfl
    · rw [zez (by omega)]
      have hloop:=yu (B:=fun k0=>zfW zgV qz (zlj qz K0 k0) k0) (l:=s.2.1) (α:=Int) za (fun i a=>0 ≤ a ∧ a ≤ M62) (fun i a=>(c,a,i,s)) (fun rest a=>some (zA8 (a + qK (rest.map (zb0 c))))) (by omega) (fun k i x rest a hi hI hx hm hr hk=>by
        simp only [zfW]
        have hin:=hs.shelves x hm
        have hlen:=sh.shelf x hm
        have h1:=zQC hin c
        have h2:=zQD hin c
        have hrest:0 ≤ qK (rest.map (zb0 c)):=yn fun y hy=>ztz (hs.shelves y (by rw [← hr] at hy; exact List.mem_of_mem_drop hy)) c
        have hinn:=fun a ha=>inner k i a hi ha
        rw [hx] at hinn
        rw [ltT hi,zn hi,zS,hx,z8K (by omega) hin.trades,zUM hin.trades hc]
        simp only [cond_true,Option.bind_some,List.map_cons,qK,zb0]
        by_cases hb:qK (x.2.2.2.2.1.map (zfx c)) > M62
        · rw [zav hb,zav (by omega)]; rfl
        · rw [zez (by omega),zlD (by unfold M62 at hI; unfold U64; omega) (by unfold M62 at hb; unfold U64; omega),zJG,Option.bind_some]
          by_cases hb2:a + qK (x.2.2.2.2.1.map (zfx c)) > M62
          · rw [zav hb2,zav (by omega)]; rfl
          · rw [zez (by omega),hinn _ (by omega)]
            simp only [bne_self_eq_false,cond_false]
            by_cases hb3:a + qK (x.2.2.2.2.1.map (zfx c)) + qK (x.2.2.2.2.2.1.map (zaJ c)) > M62
            · rw [decide_eq_true hb3,zav (by omega)]; rfl
            · rw [decide_eq_false hb3,cond_false]
              refine (hk _ (by omega)).trans ?_
              congr 2; omega) (fun k a hI=>by
        simp only [zfW]
        rw [ltF]
        simp only [cond_false,List.map_nil,qK,Int.add_zero]
        rw [zez hI.2]) (qK (s.2.2.2.1.map (vY c))) (by omega)
      exact hloop
end Go.Proofs.YtaokpakfhdeiiaaGreatDoor
end
section
namespace Go.Proofs.YtaokpakfhdeiiaaGreatDoor
open Go.Ev
def zJJ (a b:Int):Int × Int × Unit:=bif decide (a < b) then (0,6,()) else (a - b,0,())
theorem z8R {a b:Int} (ha:0 ≤ a ∧ a ≤ M62) (hb:0 ≤ b ∧ b ≤ M62):zk8 (a,b,()) = some (zJJ a b):=by
  simp only [zk8,zI1,zLw,zPj,zJJ,cond_false]
  unfold M62 at *
  have h2:b ≤ a→(a - b) % 18446744073709551616 = a - b:=fun h=>by omega
  grind
theorem z6f {a b:Int} (ha:0 ≤ a ∧ a ≤ M62) (hb:0 ≤ b ∧ b ≤ M62):zag (a,b,()) = some (zJJ a b):=by
  simp only [zag,zEI,zJJ]
  unfold M62 at *
  by_cases h:b > a
  · grind
  · have hw:wU (a - b) = a - b:=zyr (by omega)
    rw [hw]; grind
def zvs (f:zg→List Int) (s:ze) (c:Int):Int:=qK (s.2.1.map fun x=>zaJ c (f x))
theorem zQE {f:zg→List Int} {s:ze} (h:∀ x ∈ s.2.1,zQz (f x)) (c:Int):0 ≤ zvs f s c:=yn fun y hy=>(zgX (h y hy) _).1
theorem z8S {s:ze} (sh:zFJ s) {f:zg→List Int} {g:zg × Unit→Option (List Int × Unit)} (hg:∀ x,g (x,()) = some (f x,())) (h:∀ x ∈ s.2.1,zQz (f x)) {c:Int} (hc:jR c = true):zk5 (s,c,some g,()) = some (zA8 (zvs f s c)):=by
  have hlm:10000000 ≤ lim:=by unfold lim; omega
  have hmm:10000000 ≤ Go.maxLen:=by unfold Go.maxLen; omega
  have hsh:=sh.shelves
  have hcin:=zLu hc
  have hloop:=yu (B:=zgw vn) (l:=s.2.1) (α:=List Int) za (fun i o=>o.length ≤ i ∧ ∀ x ∈ o,0 ≤ x ∧ x < U64) (fun i o=>(c,some g,s.2.1,(s.2.1.length:Int),i,o)) (fun rest o=>some (zAZ 0 (o ++ rest.map fun x=>zaJ c (f x)))) (by omega) (fun k i x rest o hi hI hx hm hr hk=>by
    simp only [zgw]
    rw [ltT hi,zn hi,zS,hx]
    simp only [cond_true,Option.bind_some]
    rw [hg]
    simp only [Option.bind_some]
    refine Eq.trans (ixR hcin) ?_
    rw [set1,decide_eq_true (by simp; omega)]
    simp only [cond_true]
    refine (hk _ ⟨by simp; omega,fun y hy=>?_⟩).trans ?_
    · rcases List.mem_append.1 hy with hy | hy
      · exact hI.2 y hy
      · rcases List.mem_singleton.1 hy with rfl
        exact zgX (h x hm) _
    · rw [List.append_assoc]; rfl) (fun k o hI=>by
    simp only [zgw]
    rw [ltF]
    simp only [cond_false]
    rw [zFG (by omega) hI.2,List.map_nil,List.append_nil]
    rfl) [] ⟨Nat.le_refl _,fun x hx=>by cases hx⟩
  refine Eq.trans ?_ (hloop.trans ?_)
  · rfl
  · rw [List.nil_append,zJF _ 0 (by unfold M62; omega) fun y hy=>?_,Int.zero_add]
    · rfl
    · obtain ⟨z,hz,rfl⟩:=List.mem_map.1 hy
      exact (zgX (h z hz) _).1
def zBt (s:ze) (c:Int):Int × Int × Unit:=bif jR c then bif decide (zvs (fun x=>x.2.2.2.2.2.2.2.1) s c > M62) then (0,7,()) else bif decide (zvs (fun x=>x.2.2.2.2.2.2.2.2.1) s c > M62) then (0,7,()) else zJJ (zvs (fun x=>x.2.2.2.2.2.2.2.1) s c) (zvs (fun x=>x.2.2.2.2.2.2.2.2.1) s c) else (0,1,())
theorem zJK {s:ze} (hs:zdC s) (sh:zFJ s) (c:Int):jX (s,c,()) = some (zBt s c):=by
  simp only [jX,zI3,zgW,Option.bind_some]
  unfold zBt
  cases hc:jR c with
  | false=>rfl
  | true =>
    have p1:=zQE (f:=fun x=>x.2.2.2.2.2.2.2.1) (fun x hx=>(hs.shelves x hx).made) c
    have p2:=zQE (f:=fun x=>x.2.2.2.2.2.2.2.2.1) (fun x hx=>(hs.shelves x hx).spent) c
    rw [z8S sh (f:=fun x=>x.2.2.2.2.2.2.2.1) (g:=zk6) (fun x=>rfl) (fun x hx=>(hs.shelves x hx).made) hc,z8S sh (f:=fun x=>x.2.2.2.2.2.2.2.2.1) (g:=zk7) (fun x=>rfl) (fun x hx=>(hs.shelves x hx).spent) hc]
    simp only [cond_true,Option.bind_some]
    generalize zvs (fun x=>x.2.2.2.2.2.2.2.1) s c = a at *
    generalize zvs (fun x=>x.2.2.2.2.2.2.2.2.1) s c = b at *
    by_cases h1:a > M62
    · rw [zav h1,decide_eq_true h1]; rfl
    · rw [zez (by omega),decide_eq_false h1]
      by_cases h2:b > M62
      · rw [zav h2,decide_eq_true h2]; rfl
      · rw [zez (by omega),decide_eq_false h2]
        simp only [bne_self_eq_false,cond_false]
        rw [z8R (by omega) (by omega)]; rfl
theorem zJL {s:ze} (hs:zdC s) (sh:zFJ s) (c:Int):yD (s,c,()) = some (zBt s c):=by
  have hmm:10000000 ≤ Go.maxLen:=by unfold Go.maxLen; omega
  have hsh:=sh.shelves
  simp only [yD,zyg]
  unfold zBt
  cases hc:jR c with
  | false=>unfold jR at hc; grind
  | true =>
    have hcin:=zLu hc
    have p1:=zQE (f:=fun x=>x.2.2.2.2.2.2.2.1) (fun x hx=>(hs.shelves x hx).made) c
    have p2:=zQE (f:=fun x=>x.2.2.2.2.2.2.2.2.1) (fun x hx=>(hs.shelves x hx).spent) c
    have l1:∀ (a b e:Int),0 ≤ a ∧ a ≤ M62→((e = 0 ∧ 0 ≤ b ∧ b ≤ M62) ∨ e = 7)→zfX qz zag K0 (c,a,b,e,0,s) = bif e == 0 then (bif decide (b + zvs (fun x=>x.2.2.2.2.2.2.2.2.1) s c > M62) then some (0,7,()) else some (zJJ a (b + zvs (fun x=>x.2.2.2.2.2.2.2.2.1) s c))) else some (0,7,()):=fun a b e ha he =>
      yu (B:=zlm qz zag) (l:=s.2.1) (α:=Int × Int) za (fun _ st=>(st.2 = 0 ∧ 0 ≤ st.1 ∧ st.1 ≤ M62) ∨ st.2 = 7) (fun i st=>(c,a,st.1,st.2,i,s)) (fun rest st=>bif st.2 == 0 then (bif decide (st.1 + qK (rest.map fun x=>zaJ c x.2.2.2.2.2.2.2.2.1) > M62) then some (0,7,()) else some (zJJ a (st.1 + qK (rest.map fun x=>zaJ c x.2.2.2.2.2.2.2.2.1)))) else some (0,7,())) (by omega) (fun k i x rest st hi hI hx hm hr hk=>by
        obtain ⟨b,e⟩:=st
        have hrest:0 ≤ qK (rest.map fun x:zg=>zaJ c x.2.2.2.2.2.2.2.2.1):=yn fun y hy=>(zgX (hs.shelves y (by rw [← hr] at hy; exact List.mem_of_mem_drop hy)).spent _).1
        simp only [zlm]
        rw [ltT hi,zn hi,zS,hx]
        rcases hI with ⟨h0,hb⟩ | h7
        · simp only at h0 hb
          subst h0
          have hxx:=zgX (hs.shelves x hm).spent c.toNat
          simp only [beq_self_eq_true,cond_true,List.map_cons,qK,zaJ]
          refine Eq.trans (ixR hcin) ?_
          rw [zlD (by unfold M62 at hb; unfold U64; omega) hxx,zJG,Option.bind_some]
          by_cases hh:b + List.getD x.2.2.2.2.2.2.2.2.1 c.toNat 0 > M62
          · rw [zav hh]
            unfold zaJ at hrest
            rw [decide_eq_true (by omega)]
            exact hk (0,7) (.inr rfl)
          · rw [zez (by omega)]
            have:=hk (b + List.getD x.2.2.2.2.2.2.2.2.1 c.toNat 0,0) (.inl ⟨rfl,by have:=hxx.1; show 0 ≤ b + _ ∧ b + _ ≤ M62; omega⟩)
            refine this.trans ?_
            simp only [beq_self_eq_true,cond_true]
            rw [Int.add_assoc]; rfl
        · simp only at h7
          subst h7
          rfl) (fun k st hI=>by
        obtain ⟨b,e⟩:=st
        simp only [zlm]
        rw [ltF]
        rcases hI with ⟨h0,hb⟩ | h7
        · simp only at h0 hb
          subst h0
          simp only [bne_self_eq_false,cond_false,beq_self_eq_true,cond_true,List.map_nil,qK,Int.add_zero]
          rw [z6f ha hb,decide_eq_false (by omega)]
          rfl
        · simp only at h7
          subst h7
          rfl) (b,e) he
    have l0:=yu (B:=fun k0=>zfY qz (zfX qz zag K0) k0) (l:=s.2.1) (α:=Int × Int) za (fun _ st=>(st.2 = 0 ∧ 0 ≤ st.1 ∧ st.1 ≤ M62) ∨ (st.2 = 7 ∧ st.1 = 0)) (fun i st=>(c,st.1,0,st.2,i,s)) (fun rest st=>bif st.2 == 0 then (bif decide (st.1 + qK (rest.map fun x=>zaJ c x.2.2.2.2.2.2.2.1) > M62) then some (0,7,()) else zfX qz zag K0 (c,st.1 + qK (rest.map fun x=>zaJ c x.2.2.2.2.2.2.2.1),0,0,0,s)) else some (0,7,())) (by omega) (fun k i x rest st hi hI hx hm hr hk=>by
        obtain ⟨a,e⟩:=st
        have hrest:0 ≤ qK (rest.map fun x:zg=>zaJ c x.2.2.2.2.2.2.2.1):=yn fun y hy=>(zgX (hs.shelves y (by rw [← hr] at hy; exact List.mem_of_mem_drop hy)).made _).1
        simp only [zfY]
        rw [ltT hi,zn hi,zS,hx]
        rcases hI with ⟨h0,hb⟩ | ⟨h7,ha⟩
        · simp only at h0 hb
          subst h0
          have hxx:=zgX (hs.shelves x hm).made c.toNat
          simp only [beq_self_eq_true,cond_true,List.map_cons,qK,zaJ]
          refine Eq.trans (ixR hcin) ?_
          rw [zlD (by unfold M62 at hb; unfold U64; omega) hxx,zJG,Option.bind_some]
          by_cases hh:a + List.getD x.2.2.2.2.2.2.2.1 c.toNat 0 > M62
          · rw [zav hh]
            unfold zaJ at hrest
            rw [decide_eq_true (by omega)]
            exact hk (0,7) (.inr ⟨rfl,rfl⟩)
          · rw [zez (by omega)]
            have:=hk (a + List.getD x.2.2.2.2.2.2.2.1 c.toNat 0,0) (.inl ⟨rfl,by have:=hxx.1; show 0 ≤ a + _ ∧ a + _ ≤ M62; omega⟩)
            refine this.trans ?_
            simp only [beq_self_eq_true,cond_true]
            rw [Int.add_assoc]; rfl
        · simp only at h7 ha
          subst h7
          subst ha
          simp only [cond_true]
          refine (l1 0 0 7 (by unfold M62; omega) (.inr rfl)).trans ?_
          rfl) (fun k st hI=>by
        obtain ⟨a,e⟩:=st
        simp only [zfY]
        rw [ltF]
        rcases hI with ⟨h0,hb⟩ | ⟨h7,ha⟩
        · simp only at h0 hb
          subst h0
          simp only [cond_false,beq_self_eq_true,cond_true,List.map_nil,qK,Int.add_zero]
          rw [decide_eq_false (by omega)]; rfl
        · simp only at h7 ha
          subst h7
          subst ha
          refine (l1 0 0 7 (by unfold M62; omega) (.inr rfl)).trans ?_
          rfl) (0,0) (.inl ⟨rfl,by show (0:Int) ≤ 0 ∧ (0:Int) ≤ M62; unfold M62; omega⟩)
    refine Eq.trans ?_ (l0.trans ?_)
    · unfold jR at hc; grind
    · simp only [beq_self_eq_true,cond_true]
      have e1:(0:Int) + qK (s.2.1.map fun x:zg=>zaJ c x.2.2.2.2.2.2.2.1) = zvs (fun x=>x.2.2.2.2.2.2.2.1) s c:=by rw [Int.zero_add]; rfl
      rw [e1]
      by_cases h1:zvs (fun x=>x.2.2.2.2.2.2.2.1) s c > M62
      · rw [decide_eq_true h1]; rfl
      · rw [decide_eq_false h1,cond_false,cond_false,l1 _ 0 0 (by omega) (.inl ⟨rfl,by unfold M62; omega⟩),Int.zero_add]
        simp only [beq_self_eq_true,cond_true]
        cases decide (zvs (fun x=>x.2.2.2.2.2.2.2.2.1) s c > M62) <;> rfl
end Go.Proofs.YtaokpakfhdeiiaaGreatDoor
end
section
namespace Go.Proofs.YtaokpakfhdeiiaaGreatDoor
open Go.Ev
def zyw (r:zd) (s:ze) (c i:Nat):Bool:=!decide (((s.2.1.getD i za).2.2.2.2.2.2.2.1.getD c 0:Int) > (r.2.2.2.2.1.getD i zD).2.2.2.2.2.1)
def zyx (s:ze) (c:Int):Bool:=(zBs s c).2.1 == 0 && ((zBt s c).2.1 == 0 && (zBs s c).1 == (zBt s c).1)
def zcy (r:zd) (s:ze):Bool:=qn r && (zlF r s && (zdD r s && (ql (fun i=>(yw (s.2.1.getD i za) && zyv r s i (s.2.1.getD i za)) && ql (fun c=>zyw r s c i) 0 (4 - 0)) 0 (s.2.1.length - 0) && ql (fun c=>zyx s (c:Int)) 0 (4 - 0))))
theorem qdJ {r:zd} {s:ze} (ok:zlE r) (sz:zlG r s):zFJ s:=by
  have h1:=sz.shelves
  have h2:=ok.labels
  have h3:=ok.accounts
  have h4:=sz.orders
  have h5:=qdI (n:=8) (l:=s.2.1) fun x hx=>by
    have:=sz.shelf x hx
    omega
  refine ⟨by omega,by omega,fun x hx=>?_,by omega⟩
  have:=sz.shelf x hx
  omega
theorem z6g {r:zd} {s:ze} (ok:zlE r) (hs:zdC s) (sz:zlG r s):zhK ((r,s,()),()) = some (ql (fun c=>ql (fun i=>zyw r s c i) 0 (s.2.1.length - 0) && zyx s (c:Int)) 0 (4 - 0),()):=by
  rw [zR]
  have hmm:1000000 ≤ Go.maxLen:=by unfold Go.maxLen; omega
  have sh:=qdJ ok sz
  have hsh:s.2.1.length ≤ 8:=by rw [sz.shelves]; exact ok.labels.2
  have h2:=sz.shelves
  have h3:=ok.quotas
  have inner:∀ k0 (c:Nat),c < 4→zix jW jX K0 k0 ((c:Int),(c:Int),s.2.1,(s.2.1.length:Int),0,(r,s,())) = bif ql (fun i=>zyw r s c i) 0 (s.2.1.length - 0) then bif zyx s (c:Int) then k0 (wI ((c:Int) + 1),(r,s,())) else some (false,()) else some (false,()):=fun k0 c hc =>
    qG (B:=fun k1=>ziw jW jX k0 k1) (i0:=0) (n:=s.2.1.length) (by omega) (Nat.zero_le _) (fun i=>((c:Int),(c:Int),s.2.1,(s.2.1.length:Int),i,(r,s,()))) (fun k i _ hi=>by
      simp only [ziw]
      rw [ltT hi,zn hi,zS,Int.toNat_natCast]
      simp only [cond_true]
      refine Eq.trans (zn (n:=4) hc) ?_
      rw [zn (by omega),zS]
      unfold zyw
      grind) (fun k=>by
      simp only [ziw]
      rw [ltF,zJH hs sh,zJK hs sh]
      simp only [Option.bind_some,cond_false,zyx]
      generalize zBs s (c:Int) = h
      generalize zBt s (c:Int) = m
      grind)
  exact qG (B:=fun k0=>ziy (zix jW jX K0 k0) k0) (i0:=0) (n:=4) (by omega) (Nat.zero_le _) (fun c=>(c,(r,s,()))) (fun k c _ hc=>by
    simp only [ziy]
    rw [decide_eq_true (by omega),cond_true]
    refine (inner k c hc).trans ?_
    cases ql (fun i=>zyw r s c i) 0 (s.2.1.length - 0) <;> rfl) (fun k=>rfl)
theorem zR8 {r:zd} {s:ze} (hr:jC r) (hs:zdC s):zhR (r,s,()) = some (zcy r s,()):=by
  rw [zR]
  have hmm:1000000 ≤ Go.maxLen:=by unfold Go.maxLen; omega
  simp only [zhR,ztv,zEM r hr,Option.bind_some]
  unfold zcy
  cases hb:qn r with
  | false=>rfl
  | true =>
    rw [z58 hb s,Option.bind_some]
    cases hz:zlF r s with
    | false=>rfl
    | true =>
      have ok:=j9 hb
      have sz:=zB1 hb hz
      have sh:=qdJ ok sz
      have hsh:s.2.1.length ≤ 8:=by rw [sz.shelves]; exact ok.labels.2
      have h2:=sz.shelves
      have h3:=ok.quotas
      rw [z3e hr hb hs sz,Option.bind_some]
      cases hp:zdD r s with
      | false=>rfl
      | true =>
        have l2:zjg yC yD K0 (0,s) = bif ql (fun c=>zyx s (c:Int)) 0 (4 - 0) then some (true,()) else some (false,()) :=
          qG (i0:=0) (n:=4) (by omega) (Nat.zero_le _) (fun c=>(c,s)) (fun k c _ hc=>by
            simp only [zyh]
            rw [decide_eq_true (by omega),zJI hs sh,zJL hs sh]
            simp only [Option.bind_some,cond_true,zyx]
            generalize zBs s (c:Int) = h
            generalize zBt s (c:Int) = m
            grind) (fun k=>rfl)
        have l1:∀ k0 (i:Nat),i < s.2.1.length→zo3 K0 k0 ((i:Int),0,r,s) = bif ql (fun c=>zyw r s c i) 0 (4 - 0) then k0 (wI ((i:Int) + 1),r,s) else some (false,()):=fun k0 i hi =>
          qG (B:=fun k1=>zo2 k0 k1) (i0:=0) (n:=4) (by omega) (Nat.zero_le _) (fun c=>((i:Int),c,r,s)) (fun k c _ hc=>by
            simp only [zo2]
            rw [decide_eq_true (by omega),zn hi,zn (by omega),zS,zS,Int.toNat_natCast]
            simp only [cond_true]
            refine Eq.trans (zn (n:=4) hc) ?_
            unfold zyw
            grind) (fun k=>rfl)
        have l0:zyi zcR yC yD K0 (0,r,s) = bif ql (fun i=>(yw (s.2.1.getD i za) && zyv r s i (s.2.1.getD i za)) && ql (fun c=>zyw r s c i) 0 (4 - 0)) 0 (s.2.1.length - 0) then zjg yC yD K0 (0,s) else some (false,()) :=
          qG (i0:=0) (n:=s.2.1.length) (by omega) (Nat.zero_le _) (fun i=>(i,r,s)) (fun k i _ hi=>by
            simp only [zjh]
            rw [ltT hi,z6c hr ok hs sz hi]
            have:=l1 k i hi
            rw [this]
            simp only [Option.bind_some,cond_true]
            generalize (yw (s.2.1.getD i za) && zyv r s i (s.2.1.getD i za)) = u
            cases u <;> rfl) (fun k=>by simp only [zjh]; rw [ltF]; rfl)
        simp only [cond_true,Bool.true_and]
        rw [l0,l2]
        grind
def z8T (r:zd) (s:ze):Bool:=qn r && (zlF r s && (s.2.1.all yw && (zdD r s && (ql (fun i=>zJE r s (i:Int) (s.2.1.getD i za)) 0 (s.2.1.length - 0) && (ql (fun i=>zlH r (i:Int) (s.2.1.getD i za)) 0 s.2.1.length && (ql (fun i=>zB2 (s.2.1.getD i za)) 0 (s.2.1.length - 0) && ql (fun c=>ql (fun i=>zyw r s c i) 0 (s.2.1.length - 0) && zyx s (c:Int)) 0 (4 - 0)))))))
theorem qdK (r:zd) (s:ze):z8T r s = zcy r s:=by
  rw [Bool.eq_iff_iff]
  unfold z8T zcy zyv
  simp only [Bool.and_eq_true,ju,@zYn zg za]
  constructor
  · rintro ⟨h1,h2,h3,h4,h5,h6,h7,h8⟩
    exact ⟨h1,h2,h4,fun i hi1 hi=>⟨⟨h3 i (by omega),h5 i hi1 hi,h6 i hi1 (by omega),h7 i hi1 hi⟩,fun c hc1 hc=>(h8 c hc1 hc).1 i hi1 hi⟩,fun c hc1 hc=>(h8 c hc1 hc).2⟩
  · rintro ⟨h1,h2,h4,h5,h6⟩
    exact ⟨h1,h2,fun i hi=>(h5 i (by omega) (by omega)).1.1,h4,fun i h7 h8=>(h5 i h7 h8).1.2.1,fun i h7 h8=>(h5 i h7 (by omega)).1.2.2.1,fun i h7 h8=>(h5 i h7 h8).1.2.2.2,fun c h7 h8=>⟨fun i h9 h10=>(h5 i h9 h10).2 c h7 h8,h6 c h7 h8⟩⟩
theorem ztA {r:zd} {s:ze} (hr:jC r) (hs:zdC s):jE (r,s,()) = some (zcy r s,()):=by
  rw [← qdK,zR]
  obtain ⟨m,hm⟩:=zU6
  have first:jE (r,s,()) = iter zoQ K0 (true,7,0,[some fun z=>zeL ((r,s,()),()),some fun z=>zeM ((r,s,()),()),some fun z=>zdn ((r,s,()),()),some fun z=>zhH ((r,s,()),()),some fun z=>zdp ((r,s,()),()),some fun z=>zhI ((r,s,()),()),some fun z=>zhK ((r,s,()),())]):=rfl
  have hu:∀ (f1 f2 f3 f4 f5 f6 f7:Option (Bool × Unit)),iter zoQ (m + 8) (true,7,0,[some fun z=>f1,some fun z=>f2,some fun z=>f3,some fun z=>f4,some fun z=>f5,some fun z=>f6,some fun z=>f7]) =
    Option.bind f1 fun q=>bif q.1 then Option.bind f2 fun q=>bif q.1 then Option.bind f3 fun q=>bif q.1 then Option.bind f4 fun q=>bif q.1 then Option.bind f5 fun q=>bif q.1 then Option.bind f6 fun q=>bif q.1 then Option.bind f7 fun q=>bif q.1 then some (true,()) else some (false,()) else some (false,()) else some (false,()) else some (false,()) else some (false,()) else some (false,()) else some (false,()):=fun f1 f2 f3 f4 f5 f6 f7=>by kernel_rfl
  rw [first,hm,hu,z57 hr s,Option.bind_some]
  unfold z8T
  cases hb:qn r with
  | false=>rfl
  | true =>
    cases hz:zlF r s with
    | false=>rfl
    | true =>
      have ok:=j9 hb
      have sz:=zB1 hb hz
      rw [z59 ok sz,z3d hr hb hs sz,z6a hr ok sz,z3f hr ok sz,z6b ok sz,z6g ok hs sz]
      simp only [Option.bind_some,Bool.true_and,cond_true]
      generalize s.2.1.all yw = c1
      generalize zdD r s = c2
      generalize ql (fun i=>zJE r s (i:Int) (s.2.1.getD i za)) 0 (s.2.1.length - 0) = c3
      generalize ql (fun i=>zlH r (i:Int) (s.2.1.getD i za)) 0 s.2.1.length = c4
      generalize ql (fun i=>zB2 (s.2.1.getD i za)) 0 (s.2.1.length - 0) = c5
      generalize ql (fun c=>ql (fun i=>zyw r s c i) 0 (s.2.1.length - 0) && zyx s (c:Int)) 0 (4 - 0) = c6
      cases c1 <;> cases c2 <;> cases c3 <;> cases c4 <;> cases c5 <;> cases c6 <;> rfl
end Go.Proofs.YtaokpakfhdeiiaaGreatDoor
end
section
namespace Go.Proofs.YtaokpakfhdeiiaaGreatDoor
open Go.Ev
def cpy {α:Type} (x:List α × Unit):Option (List α × Unit):=bif decide (List.length x.1 ≤ lim) then some (x.1,()) else none
theorem zh1 {τ:Ty} {f:List τ.I × Unit→Option (List τ.I × Unit)} (hf:∀ l,f (l,()) = bif List.isEmpty l then both (some ([],())) (bif decide (List.length (List.replicate 0 (zb τ)) + List.length l ≤ lim) then some (List.replicate 0 (zb τ) ++ l,()) else none) else bif decide (List.length (List.replicate 0 (zb τ)) + List.length l ≤ lim) then some (List.replicate 0 (zb τ) ++ l,()) else none):f = cpy:=by
  funext ⟨l,u⟩
  cases u
  rw [hf]
  have e0:List.length (List.replicate 0 (zb τ)) + List.length l = List.length l:=by simp
  have e1:List.replicate 0 (zb τ) ++ l = l:=rfl
  rw [e0,e1]
  unfold cpy
  cases l with
  | nil =>
    have:decide (List.length ([]:List τ.I) ≤ lim) = true:=decide_eq_true (Nat.zero_le _)
    rw [this]
    unfold both
    exact if_pos rfl
  | cons x l=>rfl
theorem qdL:vS = cpy:=zh1 (τ:=zi) fun _=>rfl
theorem qdM:zdr = cpy:=zh1 (τ:=zl) fun _=>rfl
theorem qfl:zbV = cpy:=zh1 (τ:=tI) fun _=>rfl
theorem qeB:zep = cpy:=zh1 (τ:=(Ty.sl tI)) fun _=>rfl
theorem qdN:zds = cpy:=zh1 (τ:=zh) fun _=>rfl
theorem qeC:zeq = cpy:=zh1 (τ:=zX) fun _=>rfl
theorem qeD:zer = cpy:=zh1 (τ:=zV) fun _=>rfl
theorem qeE:zes = cpy:=zh1 (τ:=zI) fun _=>rfl
theorem qeF:zet = cpy:=zh1 (τ:=zZ) fun _=>rfl
theorem qdO:vR = cpy:=zh1 (τ:=zu) fun _=>rfl
theorem qfQ:zhL = cpy:=zh1 (τ:=(Ty.arr 4 tU)) fun _=>rfl
theorem qfm:zfO = cpy:=zh1 (τ:=zY) fun _=>rfl
def qdP:zCi:=zm0 cpy cpy cpy cpy (zoR cpy cpy cpy cpy cpy cpy cpy cpy cpy K0)
theorem qeG:zeP = qdP:=by
  have h:zeP = zm0 vS zdr zbV zep (zoR zbV zds zeq zer zes zet vR zhL zfO K0):=rfl
  rw [h,qdL,qdM,qfl,qeB,qdN,qeC,qeD,qeE,qeF,qdO,qfQ,qfm]
  rfl
theorem qfR:ztp zhA zaZ jE yk qdP zk9 jW jX zco () = some (true,()):=by kernel_rfl
theorem qbc:zhM () = some (true,()):=by
  have h:zhM () = ztp zhA zaZ jE yk zeP zk9 jW jX zco ():=rfl
  rw [h,qeG]
  exact qfR
end Go.Proofs.YtaokpakfhdeiiaaGreatDoor
end
section
namespace Go.Proofs.YtaokpakfhdeiiaaGreatDoor
open Go.Ev
theorem wf_u64 {x:Int} (h:(Lit.int .u64 x).wf = true):zo5 x:=by
  unfold Lit.wf at h
  simp only [Bool.and_eq_true,decide_eq_true_eq] at h
  have e1:IntKind.min .u64 = 0:=by decide
  have e2:IntKind.max .u64 = 18446744073709551615:=by decide
  rw [e1,e2] at h
  exact ⟨h.1,Int.lt_of_le_of_lt h.2 (by decide)⟩
theorem qfn {r:zd} (h:InR zC r):jC r:=by
  obtain ⟨hl,h2⟩:=h
  refine ⟨fun a ha=>?_,h2.2.2.1.1,h2.2.2.2.1.1⟩
  have h3:(Lit.int .u64 a.2.1).wf = true:=(hl.2 a ha).2.1
  exact wf_u64 h3
theorem z8U {a:List Int} (h:InR (.arr 4 tU) a):zQz a:=fun x hx=>wf_u64 (h.2 x hx)
theorem qbd {x:zoE} (h:InR zj1 x):zo5 x.2.1:=wf_u64 (show (Lit.int .u64 x.2.1).wf = true from h.2.1)
theorem qfo {x:zg} (h:InR zh x):zPc x:=by
  obtain ⟨-,-,-,-,h5,h6,-,h8,h9,-⟩:=h
  refine ⟨fun t ht=>?_,fun a ha=>z8U (h6.2 a ha),z8U h8,z8U h9⟩
  obtain ⟨-,-,-,g1,g2,-⟩:=h5.2 t ht
  exact ⟨qbd g1,qbd g2⟩
theorem qfp {x:zj} (h:InR zi x):zq8 x:=by
  obtain ⟨-,-,-,-,-,-,h7,h8,h9,-⟩:=h
  exact ⟨wf_u64 h7,wf_u64 h8,wf_u64 h9⟩
theorem qfq {x:zy} (h:InR zl x):zFP x:=by
  obtain ⟨-,-,-,-,-,-,-,h8,h9,-⟩:=h
  exact ⟨wf_u64 h8,wf_u64 h9⟩
theorem qfr {s:ze} (h:InR zW s):zdC s:=by
  obtain ⟨-,h2,-,h4,h5,-⟩:=h
  exact ⟨fun x hx=>qfo (h2.2 x hx),fun x hx=>qfp (h4.2 x hx),fun x hx=>qfq (h5.2 x hx)⟩
end Go.Proofs.YtaokpakfhdeiiaaGreatDoor
end
section
namespace Go.Proofs.YtaokpakfhdeiiaaGreatDoor
open Go.Ev
theorem qeH {β:Type} {d:β} {n i:Nat} (h:i < n) (o:List β):(o ++ [d]) ++ List.replicate (n - (i + 1)) d = o ++ List.replicate (n - i) d:=by
  rw [List.append_assoc,show n - i = (n - (i + 1)) + 1 by omega,List.replicate_succ]; rfl
theorem zYp {σ β ρ:Type} {B:(σ→Option ρ)→σ→Option ρ} {n:Nat} (hn:n ≤ Go.maxLen) (d:β) (st:Int→List β→σ) (fin:List β→Option ρ) (o0:List β)
    (hin:∀ k (i:Nat) o,i < n→o.length = o0.length + i→B k (st i o) = k (st (wI (i + 1)) (o ++ [d]))) (hout:∀ k o,B k (st n o) = fin o):iter B K0 (st 0 o0) = fin (o0 ++ List.replicate n d):=by
  have:=zhx (B:=B) hn st (fun i o=>fin (o ++ List.replicate (n - i) d)) (fun i o=>o.length = o0.length + i) (fun k i o hi hI h=>?_) (fun k o hI=>?_) o0 rfl
  · simpa using this
  · rw [hin k i o hi hI,h _ (by rw [List.length_append,hI]; simp; omega),qeH hi]
  · rw [hout]; simp
abbrev zQF:ByteArray:=ByteArray.mk #[112,108,97,122,97]
def vl (r:zd) (q:vU):zg:=(List.replicate q.1.toNat zbh,List.replicate q.2.1.toNat qQ,List.replicate q.2.2.1.toNat zL,List.replicate q.2.2.2.1.toNat zaE,List.replicate q.2.2.2.2.1.toNat qb,List.replicate r.2.2.1.length [0,0,0,0],List.replicate r.2.2.1.length zki,[0,0,0,0],[0,0,0,0],())
def z3h (x:zg):zg:=(x.1.set 0 (true,zQF,()),x.2)
def z9 (r:zd) (g:qe):List Int:=(List.replicate r.2.2.1.length 0).set g.2.1.toNat 2
def zcz (r:zd):List zg:=(r.2.2.2.2.1.map (vl r)).set 0 (z3h ((r.2.2.2.2.1.map (vl r)).getD 0 za))
def zaC (r:zd):ze:=(0,zcz r,r.2.2.2.1.map (z9 r),List.replicate r.2.2.2.2.2.1.toNat zP,[],List.replicate r.2.1.length (-1),())
theorem zvt {q:vU} (h:znU q = true):(0 ≤ q.1 ∧ q.1 ≤ 12) ∧ (0 ≤ q.2.1 ∧ q.2.1 ≤ 12) ∧ (0 ≤ q.2.2.1 ∧ q.2.2.1 ≤ 12) ∧ (0 ≤ q.2.2.2.1 ∧ q.2.2.2.1 ≤ 12) ∧ (0 ≤ q.2.2.2.2.1 ∧ q.2.2.2.2.1 ≤ 12):=by
  simp only [znU,within,Bool.and_eq_true,decide_eq_true_eq] at h
  omega
theorem z6h {r:zd} {q:vU} (hq:znU q = true) (ha:r.2.2.1.length ≤ 8):zeK (r,q,()) = some (vl r q,()):=by
  simp only [zeK,zD1]
  have h:=zvt hq
  have hl:((lim:Nat):Int) = 4294967296:=rfl
  rw [hl]
  have t:∀ {p:Prop} [Decidable p],p→decide p = true:=fun h=>decide_eq_true h
  rw [t (p:=0 ≤ q.1) (by omega),t (p:=q.1 ≤ q.1) (by omega),t (p:=q.1 ≤ 4294967296) (by omega),
    t (p:=0 ≤ q.2.1) (by omega),t (p:=q.2.1 ≤ q.2.1) (by omega),t (p:=q.2.1 ≤ 4294967296) (by omega),
    t (p:=0 ≤ q.2.2.1) (by omega),t (p:=q.2.2.1 ≤ q.2.2.1) (by omega),t (p:=q.2.2.1 ≤ 4294967296) (by omega),
    t (p:=0 ≤ q.2.2.2.1) (by omega),t (p:=q.2.2.2.1 ≤ q.2.2.2.1) (by omega),t (p:=q.2.2.2.1 ≤ 4294967296) (by omega),
    t (p:=0 ≤ q.2.2.2.2.1) (by omega),t (p:=q.2.2.2.2.1 ≤ q.2.2.2.2.1) (by omega),t (p:=q.2.2.2.2.1 ≤ 4294967296) (by omega),
    t (p:=(r.2.2.1.length:Int) ≤ (r.2.2.1.length:Int)) (by omega),t (p:=(r.2.2.1.length:Int) ≤ 4294967296) (by omega),Int.toNat_natCast]
  rfl
theorem zQG {r:zd} (hb:qn r = true):∀ q ∈ r.2.2.2.2.1,znU q = true:=by
  simp only [qn,zlC,Bool.and_eq_true] at hb
  exact zYl _ _ hb.2.2.2.2.1.2.2.2
theorem qcA {r:zd} (hb:qn r = true):1 ≤ (r.2.2.2.2.1.getD 0 zD).1:=by
  simp only [qn,zlC,Bool.and_eq_true,decide_eq_true_eq] at hb
  exact hb.2.2.2.2.1.2.2.1
theorem qcB {r:zd} (hr:jC r) (hb:qn r = true):zqL (r,()) = some (r.2.2.2.1.map (z9 r),()):=by
  have ok:=j9 hb
  have ha:=ok.accounts
  have hg:=ok.guilds
  have hl:((lim:Nat):Int) = 4294967296:=rfl
  simp only [zqL,zFA,znA r hr,Option.bind_some,hb,cond_true]
  exact yu (B:=zpR) (l:=r.2.2.2.1) (α:=List (List Int)) qj (fun i o=>o.length = i) (fun i o=>(r.2.2.2.1,(r.2.2.2.1.length:Int),i,r,o,o.length)) (fun rest o=>some (o ++ rest.map (z9 r),())) (by unfold Go.maxLen; omega) (fun k i x rest o hi hI hx hm hr' hk=>by
    have hh:=ok.heads i hi
    rw [show r.2.2.2.1.getD i qj = x from hx] at hh
    have hx':List.getD r.2.2.2.1 i (zb jJ) = x:=hx
    simp only [zpR]
    rw [ltT hi,zn hi,zS,hx,hl,decide_eq_true (Int.le_refl _),decide_eq_true (p:=(r.2.2.1.length:Int) ≤ 4294967296) (by omega),Int.toNat_natCast]
    simp only [cond_true]
    rw [ixR (by rw [List.length_replicate]; exact hh),zcv (by simp; omega)]
    simp only [cond_true,decide_true]
    have:=hk (o ++ [z9 r x]) (by rw [List.length_append,hI]; rfl)
    rw [List.length_append] at this
    refine Eq.trans this ?_
    simp) (fun k o hI=>by
    simp only [zpR]
    rw [ltF]
    simp) [] rfl
theorem qf7 {r:zd} (ok:zlE r) (o:List zg) (l:List (List Int)) (w:List zj):zmV K0 ((r.2.1.length:Int),0,0,0,[],0,[],0,[],[],[],o,o.length,l,l.length,w,[],[]) = some ((0,o,l,w,[],List.replicate r.2.1.length (-1),()),0,()):=by
  have hl:=ok.lines
  have:=zYp (B:=zmU) (n:=r.2.1.length) (by unfold Go.maxLen; omega) (-1:Int) (fun i (e:List Int)=>((r.2.1.length:Int),i,0,0,[],0,[],0,[],[],[],o,o.length,l,l.length,w,[],e)) (fun e=>some ((0,o,l,w,[],e,()),0,())) [] (fun k i e hi hI=>by
    simp only [zmU]
    rw [ltT hi,set1,zcv (by simp at hI ⊢; omega)]
    rfl) (fun k e=>by
    simp only [zmU]
    rw [ltF]
    simp only [decide_true]
    rfl)
  exact this
theorem qdQ (q:zg):(q.1,q.2.1,q.2.2.1,q.2.2.2.1,q.2.2.2.2.1,q.2.2.2.2.2.1,q.2.2.2.2.2.2.1,q.2.2.2.2.2.2.2.1,q.2.2.2.2.2.2.2.2.1,()) = q:=rfl
theorem qaN {r:zd} (hr:jC r):zaZ (r,()) = some (bif qn r then (zaC r,0,()) else ((0,[],[],[],[],[],()),1,())):=by
  simp only [zaZ,zBl,znA r hr,Option.bind_some]
  cases hb:qn r with
  | false=>rfl
  | true =>
    have ok:=j9 hb
    have ha:=ok.accounts
    have hl:=ok.labels
    have hq:=ok.quotas
    have h24:0 ≤ r.2.2.2.2.2.1 ∧ r.2.2.2.2.2.1 ≤ 24:=by
      simp only [qn,zFE,within,Bool.and_eq_true,decide_eq_true_eq] at hb
      omega
    have hlim:((lim:Nat):Int) = 4294967296:=rfl
    rw [qcB hr hb]
    simp only [Option.bind_some,cond_true]
    rw [hlim,decide_eq_true h24.1,decide_eq_true (Int.le_refl _),decide_eq_true (p:=r.2.2.2.2.2.1 ≤ 4294967296) (by omega)]
    simp only [cond_true]
    have hall:=zQG hb
    have hloop:=yu (B:=fun k0=>zhC zeK (zmV K0) k0) (l:=r.2.2.2.2.1) (α:=List zg) zD (fun i o=>o.length = i)
      (fun i o=>(r.2.2.2.2.1,(r.2.2.2.2.1.length:Int),i,r,0,0,[],0,[],0,[],[],[],o,o.length,r.2.2.2.1.map (z9 r),(r.2.2.2.1.map (z9 r)).length,List.replicate r.2.2.2.2.2.1.toNat zP,[],[]))
      (fun rest o=>bif decide (0 < (o ++ rest.map (vl r)).length) && decide (0 < ((o ++ rest.map (vl r)).getD 0 za).1.length) then some ((0,(o ++ rest.map (vl r)).set 0 (z3h ((o ++ rest.map (vl r)).getD 0 za)),r.2.2.2.1.map (z9 r),List.replicate r.2.2.2.2.2.1.toNat zP,[],List.replicate r.2.1.length (-1),()),0,()) else none)
      (by unfold Go.maxLen; omega) (fun k i x rest o hi hI hx hm hr' hk=>by
        have hx':List.getD r.2.2.2.2.1 i (zb zaW) = x:=hx
        simp only [zhC]
        rw [ltT hi,zn hi,zS,hx,z6h (hall x hm) ha.2]
        simp only [Option.bind_some,cond_true]
        rw [qdQ,zcv (by simp; omega)]
        simp only [cond_true,decide_true]
        have:=hk (o ++ [vl r x]) (by rw [List.length_append,hI]; rfl)
        rw [List.length_append] at this
        refine Eq.trans this ?_
        rw [List.append_assoc]; rfl) (fun k o hI=>by
        have e0:o ++ List.map (vl r) [] = o:=by simp
        rw [e0]
        simp only [zhC]
        rw [ltF,cond_false]
        by_cases h0:0 < o.length
        · have e1:decide (0 < ((List.length o:Nat):Int)) = true:=decide_eq_true (by omega)
          have e2:decide (o.length ≤ Int.toNat 0) = false:=decide_eq_false (by show ¬ o.length ≤ 0; omega)
          rw [e1,e2,decide_eq_true h0,z26]
          simp only [cond_true,cond_false,Bool.true_and]
          by_cases h1:0 < (o.getD 0 za).1.length
          · have e3:decide (0 < ((List.length (o.getD 0 za).1:Nat):Int)) = true:=decide_eq_true (by omega)
            rw [e3,decide_eq_true h1]
            simp only [cond_true]
            have:=qf7 (r:=r) ok (o.set 0 (z3h (o.getD 0 za))) (r.2.2.2.1.map (z9 r)) (List.replicate r.2.2.2.2.2.1.toNat zP)
            rw [List.length_set] at this
            exact this
          · have e3:decide (0 < ((List.length (o.getD 0 za).1:Nat):Int)) = false:=decide_eq_false (by omega)
            rw [e3,decide_eq_false h1]; rfl
        · have e1:decide (0 < ((List.length o:Nat):Int)) = false:=decide_eq_false (by omega)
          rw [e1,decide_eq_false h0]; rfl) [] rfl
    refine Eq.trans hloop ?_
    have hrm:=qcA hb
    have hpos:0 < r.2.2.2.2.1.length:=by omega
    have hget:(r.2.2.2.2.1.map (vl r)).getD 0 za = vl r (r.2.2.2.2.1.getD 0 zD):=by
      cases hl:r.2.2.2.2.1 with
      | nil=>rw [hl] at hpos; simp at hpos
      | cons q l=>rfl
    rw [List.nil_append,decide_eq_true (by rw [List.length_map]; exact hpos),decide_eq_true (p:=0 < ((r.2.2.2.2.1.map (vl r)).getD 0 za).1.length) (by rw [hget]; show 0 < (List.replicate _ zbh).length; rw [List.length_replicate]; omega)]
    rfl
end Go.Proofs.YtaokpakfhdeiiaaGreatDoor
end
section
namespace Go.Proofs.YtaokpakfhdeiiaaGreatDoor
open Go.Ev
theorem zf1 {α:Type} {p:α→Bool} {a:α} {n:Nat} (h:p a = true):(List.replicate n a).all p = true:=by
  rw [List.all_eq_true]
  intro x hx
  rw [(List.mem_replicate.1 hx).2]; exact h
theorem zJM {α:Type} {a d:α} {n j:Nat} (h:j < n):(List.replicate n a).getD j d = a:=by
  rw [List.getD_eq_getElem?_getD,List.getElem?_replicate,if_pos h]; rfl
def zf2 (r:zd) (i:Nat):List qP:=if i = 0 then (List.replicate (r.2.2.2.2.1.getD i zD).1.toNat zbh).set 0 (true,zQF,()) else List.replicate (r.2.2.2.2.1.getD i zD).1.toNat zbh
theorem zFS {r:zd} {i:Nat} (hi:i < r.2.2.2.2.1.length):(zcz r).getD i za = (zf2 r i,(vl r (r.2.2.2.2.1.getD i zD)).2):=by
  unfold zcz zf2
  have h2:∀ j,j < r.2.2.2.2.1.length→(r.2.2.2.2.1.map (vl r)).getD j za = vl r (r.2.2.2.2.1.getD j zD):=by
    intro j hj
    simp [List.getD,hj]
  by_cases h:i = 0
  · subst h
    rw [if_pos rfl,List.getD_eq_getElem?_getD,List.getElem?_set_self (by rw [List.length_map]; exact hi),h2 0 hi]; rfl
  · rw [if_neg h,List.getD_eq_getElem?_getD,List.getElem?_set_ne (by omega),← List.getD_eq_getElem?_getD,h2 i hi]; rfl
theorem zNE (r:zd) (i:Nat):(zf2 r i).length = (r.2.2.2.2.1.getD i zD).1.toNat:=by
  unfold zf2
  split <;> simp
theorem qcC (r:zd) (i:Nat):(zf2 r i).all znB = true:=by
  have h0:znB zbh = true:=by decide +kernel
  have h1:znB (true,zQF,()) = true:=by decide +kernel
  unfold zf2
  split
  · rw [List.all_eq_true]
    intro x hx
    rcases List.mem_or_eq_of_mem_set hx with hx | rfl
    · rw [(List.mem_replicate.1 hx).2]; exact h0
    · exact h1
  · exact zf1 h0
theorem zql (r:zd):(zaC r).2.1.length = r.2.2.2.2.1.length:=by
  show (zcz r).length = _
  unfold zcz
  rw [List.length_set,List.length_map]
theorem qAt {r:zd} (hb:qn r = true) {i:Nat} (hi:i < r.2.2.2.2.1.length):znU (r.2.2.2.2.1.getD i zD) = true:=zQG hb _ (qg hi)
theorem qdR {r:zd} (hb:qn r = true):zlF r (zaC r) = true:=by
  have ok:=j9 hb
  have hq:=ok.quotas
  have h24:(0 ≤ r.2.2.2.2.2.1 ∧ r.2.2.2.2.2.1 ≤ 24) ∧ 0 ≤ r.2.2.2.2.2.2.1:=by
    simp only [qn,zFE,within,Bool.and_eq_true,decide_eq_true_eq] at hb
    omega
  have hl:=zql r
  simp only [zlF,Bool.and_eq_true,decide_eq_true_eq,ju]
  refine ⟨⟨by omega,?_,by show ((0:Nat):Int) ≤ _; omega⟩,⟨?_,by show (0:Int) ≤ M62; unfold M62; omega⟩,fun i _ hi=>?_⟩
  · show (((List.replicate r.2.2.2.2.2.1.toNat zP).length:Nat):Int) = _
    rw [List.length_replicate]; omega
  · show (List.replicate r.2.1.length (-1:Int)).length = _
    rw [List.length_replicate]
  · have hi':i < r.2.2.2.2.1.length:=by omega
    rw [show (zaC r).2.1 = zcz r from rfl,zFS hi']
    have:=zvt (qAt hb hi')
    have hrl:=zNE r i
    simp only [zqi,vl,List.length_replicate,hrl,Bool.and_eq_true,decide_eq_true_eq]
    refine ⟨⟨⟨?_,?_⟩,?_,?_⟩,?_,?_,?_⟩ <;> first | trivial | omega
theorem z3T {r:zd} (hb:qn r = true) (a:jI):zjj (zaC r) a = eqI zY a zki:=by
  have ok:=j9 hb
  have hq:=ok.quotas
  have hla:=ok.labels
  have hl:=zql r
  have h0:=qcA hb
  have e:eqI zY a zki = (decide (a.1 = 0) && decide (a.2.1 = 0)):=by
    show cond ((a.1:Int) == 0) (cond ((a.2.1:Int) == 0) true false) false = _
    by_cases h1:a.1 = 0 <;> by_cases h2:a.2.1 = 0 <;> simp [h1,h2]
  rw [e,Bool.eq_iff_iff]
  unfold zjj
  simp only [Bool.and_eq_true,decide_eq_true_eq]
  rw [hl]
  constructor
  · rintro ⟨h1,h2,h3⟩
    rw [show (zaC r).2.1 = zcz r from rfl,zFS (by omega)] at h2 h3
    simp only [zNE] at h2
    simp only [zf2] at h3
    by_cases ha:a.1.toNat = 0
    · rw [if_pos ha] at h3
      by_cases hb2:a.2.1.toNat = 0
      · omega
      · rw [List.getD_eq_getElem?_getD,List.getElem?_set_ne (by omega),← List.getD_eq_getElem?_getD,zJM (by omega)] at h3
        cases h3
    · rw [if_neg ha,zJM (by omega)] at h3
      cases h3
  · rintro ⟨h1,h2⟩
    have e1:a.1.toNat = 0:=by omega
    have e2:a.2.1.toNat = 0:=by omega
    rw [show (zaC r).2.1 = zcz r from rfl,e1,zFS (by omega),e2]
    refine ⟨by omega,⟨by omega,by simp only [zNE]; omega⟩,?_⟩
    simp only [zf2,if_true]
    rw [List.getD_eq_getElem?_getD,List.getElem?_set_self (by rw [List.length_replicate]; omega)]; rfl
theorem qfs {n:Nat}:zEO (List.replicate n zP) = []:=by
  unfold zEO
  rw [List.filter_replicate_of_neg (by decide)]; rfl
theorem qdS {r:zd} (hb:qn r = true):zfg r (r.2.2.2.1.map (z9 r)) = true:=by
  have ok:=j9 hb
  simp only [zfg,Bool.and_eq_true,decide_eq_true_eq,ju,List.length_map]
  refine ⟨trivial,fun i _ hi=>?_⟩
  have hi':i < r.2.2.2.1.length:=by omega
  have hh:=ok.heads i hi'
  have e:(r.2.2.2.1.map (z9 r)).getD i [] = z9 r (r.2.2.2.1.getD i qj):=by simp [List.getD,hi']
  rw [e]
  simp only [zJD,Bool.and_eq_true,decide_eq_true_eq,beq_iff_eq]
  generalize r.2.2.2.1.getD i qj = g at hh
  unfold z9
  obtain ⟨m,hm⟩:=Int.eq_ofNat_of_zero_le hh.1
  have hm':m < r.2.2.1.length:=by omega
  rw [hm,Int.toNat_natCast]
  refine ⟨by simp,?_,?_⟩
  · rw [List.all_eq_true]
    intro x hx
    rcases List.mem_or_eq_of_mem_set hx with hx | rfl
    · rw [(List.mem_replicate.1 hx).2]; rfl
    · rfl
  · rw [List.getD_eq_getElem?_getD,List.getElem?_set_self (by rw [List.length_replicate]; exact hm')]; rfl
theorem qcD {r:zd} (hb:qn r = true):zdD r (zaC r) = true:=by
  simp only [zdD,Bool.and_eq_true]
  refine ⟨qdS hb,?_,?_,?_,?_,?_,?_⟩
  · show zh0 (List.replicate _ zP) = true
    unfold zh0
    rw [zf1 (by decide +kernel),qfs]; decide +kernel
  · rfl
  · rw [z3T hb]; rfl
  · exact zf1 rfl
  · rfl
  · exact zf1 rfl
theorem qdT (n:Nat):zO9 (List.replicate n qQ) = true:=by
  simp only [zO9,ju,List.length_replicate]
  intro i _ hi
  rw [zJM (by omega)]
  rfl
theorem qgb {r:zd} (hb:qn r = true):r.1.getD 0 qm = (0,0,()):=by
  simp only [qn,zex,Bool.and_eq_true] at hb
  have h:=hb.1.2.1
  have h':cond ((r.1.getD 0 qm).1 == (0:Int)) (cond ((r.1.getD 0 qm).2.1 == (0:Int)) true false) false = true:=h
  generalize r.1.getD 0 qm = a at h'
  obtain ⟨x,y,⟨⟩⟩:=a
  by_cases h1:x = 0
  · by_cases h2:y = 0
    · subst h1; subst h2; rfl
    · simp [h2] at h'
  · simp [h1] at h'
theorem qgc {b:zz} (h:zbZ b = true):zUH (0,0,()) b = true:=by
  simp only [zbZ,within,Bool.and_eq_true,decide_eq_true_eq] at h
  simp only [zUH,Bool.and_eq_true,decide_eq_true_eq,List.all_eq_true]
  refine ⟨h.1,fun i _=>?_⟩
  have:hasB 0 i = false:=by unfold hasB; simp
  rw [this]; rfl
theorem qft {r:zd} (hb:qn r = true) {i:Nat} (hi:i < r.1.length):zbZ (r.1.getD i qm) = true:=by
  simp only [qn,zex,Bool.and_eq_true,List.all_eq_true] at hb
  exact hb.1.2.2.1 _ (qg hi)
theorem qfS {r:zd} (hb:qn r = true) {i:Nat} (hi:i < r.1.length):zfh r (zaC r) (i:Int) zki = true:=by
  have ok:=j9 hb
  have hl:=ok.labels
  simp only [zfh,Bool.and_eq_true]
  refine ⟨by rw [z3T hb]; rfl,?_⟩
  simp only [zYm,Bool.and_eq_true]
  refine ⟨by simp only [zbe,decide_eq_true_eq]; exact ⟨Int.le_refl 0,by show (0:Int) < _; omega⟩,by simp only [zbe,decide_eq_true_eq]; omega,?_⟩
  rw [Int.toNat_natCast]
  show zUH (r.1.getD 0 qm) _ = true
  rw [qgb hb]
  exact qgc (qft hb hi)
theorem qdU {r:zd} (hb:qn r = true) {i:Nat} (hi:i < r.1.length) (q:vU):zyv r (zaC r) (i:Int) (zf2 r i,(vl r q).2) = true:=by
  have hbl:=qfS hb hi
  simp only [zyv,zJE,zlH,zB2,Bool.and_eq_true,vl]
  refine ⟨⟨zf1 rfl,zf1 rfl,zf1 hbl⟩,⟨zf1 rfl,zf1 rfl,zf1 rfl⟩,?_,?_⟩
  · simp only [ju,List.length_replicate]
    intro j _ hj
    rw [zJM (by omega)]; rfl
  · simp only [ju,List.length_replicate]
    intro j _ hj
    rw [zJM (by omega)]; rfl
theorem zqm {α:Type} {f:α→Int}:∀ {l:List α},(∀ x ∈ l,f x = 0)→qK (l.map f) = 0
  | [],_=>rfl
  | x :: l,h=>by simp only [List.map_cons,qK]; rw [h x (by simp),zqm fun y hy=>h y (by simp [hy])]; rfl
theorem z1b (c:Int):zaJ c [0,0,0,0] = 0:=by
  unfold zaJ
  match c.toNat with
  | 0=>rfl
  | 1=>rfl
  | 2=>rfl
  | 3=>rfl
  | n + 4=>rfl
theorem qcE (r:zd) (q:vU) (l:List qP) (c:Int):zb0 c (l,(vl r q).2) = 0:=by
  unfold zb0
  simp only [vl]
  rw [zqm fun x hx=>?_,zqm fun x hx=>?_]
  · rfl
  · rw [(List.mem_replicate.1 hx).2]; exact z1b c
  · rw [(List.mem_replicate.1 hx).2]; rfl
theorem zJN {r:zd} {x:zg} (hx:x ∈ zcz r):∃ l q,x = (l,(vl r q).2):=by
  obtain ⟨i,hi,rfl⟩:=List.mem_iff_getElem.1 hx
  have hi':i < r.2.2.2.2.1.length:=by
    have:=zql r
    rw [show (zaC r).2.1 = zcz r from rfl] at this
    omega
  have:=zFS hi'
  rw [List.getD_eq_getElem?_getD,List.getElem?_eq_getElem hi] at this
  exact ⟨_,_,this⟩
theorem qeI {r:zd} {c:Int} (hc:jR c = true):zBs (zaC r) c = (0,0,()):=by
  unfold zBs
  rw [hc,cond_true,zqm fun x hx=>?_,zqm fun x hx=>?_]
  · rfl
  · obtain ⟨l,q,rfl⟩:=zJN hx
    exact qcE r q l c
  · rw [(List.mem_replicate.1 hx).2]; rfl
theorem qeJ {r:zd} {c:Int} (hc:jR c = true):zBt (zaC r) c = (0,0,()):=by
  have h1:zvs (fun x=>x.2.2.2.2.2.2.2.1) (zaC r) c = 0:=zqm fun x hx=>by
    obtain ⟨l,q,rfl⟩:=zJN hx
    exact z1b c
  have h2:zvs (fun x=>x.2.2.2.2.2.2.2.2.1) (zaC r) c = 0:=zqm fun x hx=>by
    obtain ⟨l,q,rfl⟩:=zJN hx
    exact z1b c
  unfold zBt
  rw [hc,h1,h2]
  rfl
def z8V (r:zd):Prop:=∀ q ∈ r.2.2.2.2.1,0 ≤ q.2.2.2.2.2.1
theorem qcF {r:zd} (hb:qn r = true) (hc:z8V r):zcy r (zaC r) = true:=by
  have ok:=j9 hb
  have hq:=ok.quotas
  have hl:=zql r
  simp only [zcy,Bool.and_eq_true,ju]
  refine ⟨hb,qdR hb,qcD hb,fun i _ hi=>?_,fun c _ hc'=>?_⟩
  · have hi':i < r.2.2.2.2.1.length:=by omega
    have e:(zaC r).2.1.getD i za = _:=zFS hi'
    rw [e]
    refine ⟨⟨?_,qdU hb (by omega) _⟩,fun c _ _=>?_⟩
    · simp only [yw,vl,Bool.and_eq_true]
      exact ⟨qcC r i,qdT _,zf1 (by decide +kernel),zf1 (by decide +kernel),zf1 (by decide +kernel)⟩
    · unfold zyw
      rw [e]
      have:=hc _ (qg (d:=zD) hi')
      have e2:([0,0,0,0]:List Int).getD c 0 = 0:=z1b (c:Int)
      rw [Bool.not_eq_true',decide_eq_false_iff_not]
      show ¬ (([0,0,0,0]:List Int).getD c 0 > _)
      rw [e2]
      omega
  · unfold zyx
    have:jR (c:Int) = true:=by simp only [jR,decide_eq_true_eq]; omega
    rw [qeI this,qeJ this]
    rfl
end Go.Proofs.YtaokpakfhdeiiaaGreatDoor
end
section
namespace Go.Proofs.YtaokpakfhdeiiaaGreatDoor
open Go.Ev
theorem qfT {r:zd} (h:InR zC r):z8V r:=by
  obtain ⟨-,-,-,-,h5,-⟩:=h
  intro q hq
  have h3:(Lit.int .u64 q.2.2.2.2.2.1).wf = true:=(h5.2 q hq).2.2.2.2.2.1
  exact (wf_u64 h3).1
theorem zPe {r:zd} {s:ze} (hr:jC r) (hs:zdC s) (a:jI):yk (r,s,a,()) = some (zcy r s && zjj s a,()):=by
  rw [zR]
  simp only [yk,zAK,ztA hr hs,zEP,Option.bind_some]
  cases zcy r s <;> cases zjj s a <;> rfl
end Go.Proofs.YtaokpakfhdeiiaaGreatDoor
end
section
namespace Go.Proofs.YtaokpakfhdeiiaaGreatDoor
open Go.Ev
def eqW {α:Type} (p:α→α→Bool) (a b:List α):Bool:=decide (a.length = b.length) && (List.zip a b).all fun q=>p q.1 q.2
theorem zeV {α σ:Type} {B:(σ→Option (Bool × Unit))→σ→Option (Bool × Unit)} {a b:List α} (d:α) (p:α→α→Bool) (st:Int→σ) (hl:a.length ≤ Go.maxLen) (hab:a.length = b.length)
    (hin:∀ k (i:Nat),i < a.length→B k (st i) = bif p (a.getD i d) (b.getD i d) then k (st (wI (i + 1))) else some (false,())) {fin:Bool} (hout:∀ k,B k (st a.length) = some (fin,())) :
    iter B K0 (st 0) = some (eqW p a b && fin,()):=by
  have hz:(List.zip a b).length = a.length:=by rw [List.length_zip]; omega
  have hx:∀ i,i < a.length→(List.zip a b).getD i (d,d) = (a.getD i d,b.getD i d):=fun i hi=>zWS a b i hi (by omega)
  have:=yK (B:=B) (l:=List.zip a b) (d,d) (p:=fun q=>p q.1 q.2) (fin:=some (fin,())) (bad:=some (false,())) st (by rw [hz]; exact hl) (fun k i x hi hx' _=>?_) (fun k=>?_)
  · rw [this]
    unfold eqW
    rw [decide_eq_true hab]
    cases (List.zip a b).all fun q=>p q.1 q.2 <;> rfl
  · rw [hz] at hi
    rw [hx i hi] at hx'
    subst hx'
    exact hin k i hi
  · rw [hz]; exact hout k
theorem zPf {α ρ:Type} (a b:List α) (p:α→α→Bool) (x:Option ρ) (y:Option ρ):(bif ((List.length a:Int) != (List.length b:Int)) then y else x) = bif decide (a.length = b.length) then x else y:=by
  rw [zs0]; cases decide (a.length = b.length) <;> rfl
theorem zPg {α:Type} {p:α→α→Bool} {a b:List α} (h:¬ a.length = b.length):eqW p a b = false:=by unfold eqW; rw [decide_eq_false h]; rfl
theorem zlM {α:Type} {p:α→α→Bool} {a b:List α} {x:Option (Bool × Unit)} (h:a.length = b.length→x = some (eqW p a b,())):(bif ((List.length a:Int) != (List.length b:Int)) then some (false,()) else x) = some (eqW p a b,()):=by
  rw [zPf a b p]
  by_cases hl:a.length = b.length
  · rw [decide_eq_true hl,h hl]; rfl
  · rw [decide_eq_false hl,zPg hl]; rfl
theorem zNF {p:Bool} {ρ:Type} (x y:ρ):(bif !p then y else x) = bif p then x else y:=by cases p <;> rfl
theorem qfU {ρ:Type} (u v:Int) (x y:ρ):(bif u != v then y else x) = bif u == v then x else y:=by
  show (bif !(u == v) then y else x) = _
  exact zNF _ _
theorem z8W {a b:List zj} (hl:a.length ≤ Go.maxLen):zp9 (a,b,()) = some (eqL zi a b,()):=zlM (p:=eqI zi) fun h=>by
  have:=zeV (B:=zlq) zP (eqI zi) (fun i=>(a,b,i)) hl h (fun k i hi=>by
    simp only [zlq]
    rw [ltT hi,zn hi,zn (by omega),zS,zS,zNF]; rfl) (fin:=true) (fun k=>by simp only [zlq]; rw [ltF]; rfl)
  rw [Bool.and_true] at this; exact this
theorem z8X {a b:List zy} (hl:a.length ≤ Go.maxLen):zqa (a,b,()) = some (eqL zl a b,()):=zlM (p:=eqI zl) fun h=>by
  have:=zeV (B:=zls) zaV (eqI zl) (fun i=>(a,b,i)) hl h (fun k i hi=>by
    simp only [zls]
    rw [ltT hi,zn hi,zn (by omega),zS,zS,zNF]; rfl) (fin:=true) (fun k=>by simp only [zls]; rw [ltF]; rfl)
  rw [Bool.and_true] at this; exact this
theorem qaO {a b:List qP} (hl:a.length ≤ Go.maxLen):zfc (a,b,()) = some (eqL zX a b,()):=zlM (p:=eqI zX) fun h=>by
  have:=zeV (B:=zc5) zbh (eqI zX) (fun i=>(a,b,i)) hl h (fun k i hi=>by
    simp only [zc5]
    rw [ltT hi,zn hi,zn (by omega),zS,zS,zNF]; rfl) (fin:=true) (fun k=>by simp only [zc5]; rw [ltF]; rfl)
  rw [Bool.and_true] at this; exact this
theorem qaP {a b:List z5} (hl:a.length ≤ Go.maxLen):zfd (a,b,()) = some (eqL zV a b,()):=zlM (p:=eqI zV) fun h=>by
  have:=zeV (B:=zc7) qQ (eqI zV) (fun i=>(a,b,i)) hl h (fun k i hi=>by
    simp only [zc7]
    rw [ltT hi,zn hi,zn (by omega),zS,zS,zNF]; rfl) (fin:=true) (fun k=>by simp only [zc7]; rw [ltF]; rfl)
  rw [Bool.and_true] at this; exact this
theorem z8Y {a b:List z3} (hl:a.length ≤ Go.maxLen):zqb (a,b,()) = some (eqL zI a b,()):=zlM (p:=eqI zI) fun h=>by
  have:=zeV (B:=zlu) zL (eqI zI) (fun i=>(a,b,i)) hl h (fun k i hi=>by
    simp only [zlu]
    rw [ltT hi,zn hi,zn (by omega),zS,zS,zNF]; rfl) (fin:=true) (fun k=>by simp only [zlu]; rw [ltF]; rfl)
  rw [Bool.and_true] at this; exact this
theorem z8Z {a b:List qh} (hl:a.length ≤ Go.maxLen):zqc (a,b,()) = some (eqL zZ a b,()):=zlM (p:=eqI zZ) fun h=>by
  have:=zeV (B:=zlw) zaE (eqI zZ) (fun i=>(a,b,i)) hl h (fun k i hi=>by
    simp only [zlw]
    rw [ltT hi,zn hi,zn (by omega),zS,zS,zNF]; rfl) (fin:=true) (fun k=>by simp only [zlw]; rw [ltF]; rfl)
  rw [Bool.and_true] at this; exact this
theorem z80 {a b:List zo} (hl:a.length ≤ Go.maxLen):zqd (a,b,()) = some (eqL zu a b,()):=zlM (p:=eqI zu) fun h=>by
  have:=zeV (B:=zly) qb (eqI zu) (fun i=>(a,b,i)) hl h (fun k i hi=>by
    simp only [zly]
    rw [ltT hi,zn hi,zn (by omega),zS,zS,zNF]; rfl) (fin:=true) (fun k=>by simp only [zly]; rw [ltF]; rfl)
  rw [Bool.and_true] at this; exact this
structure qdV (x:zg):Prop where
  rooms:x.1.length ≤ Go.maxLen
  exits:x.2.1.length ≤ Go.maxLen
  items:x.2.2.1.length ≤ Go.maxLen
  mails:x.2.2.2.1.length ≤ Go.maxLen
  trades:x.2.2.2.2.1.length ≤ Go.maxLen
  purses:x.2.2.2.2.2.1.length ≤ Go.maxLen
  places:x.2.2.2.2.2.2.1.length ≤ Go.maxLen
structure qeK (s:ze):Prop where
  shelves:s.2.1.length ≤ Go.maxLen
  ranks:s.2.2.1.length ≤ Go.maxLen
  orders:s.2.2.2.1.length ≤ Go.maxLen
  entries:s.2.2.2.2.1.length ≤ Go.maxLen
  seats:s.2.2.2.2.2.1.length ≤ Go.maxLen
  shelf:∀ x ∈ s.2.1,qdV x
  rank:∀ l ∈ s.2.2.1,l.length ≤ Go.maxLen
def znW (a b:zg):Bool:=eqL zX a.1 b.1 && (eqL zV a.2.1 b.2.1 && (eqL zI a.2.2.1 b.2.2.1 && (eqL zZ a.2.2.2.1 b.2.2.2.1 && (eqL zu a.2.2.2.2.1 b.2.2.2.2.1 && (eqL (.arr 4 tU) a.2.2.2.2.2.1 b.2.2.2.2.2.1 && (eqL zY a.2.2.2.2.2.2.1 b.2.2.2.2.2.2.1 && (eqI (.arr 4 tU) a.2.2.2.2.2.2.2.1 b.2.2.2.2.2.2.2.1 && eqI (.arr 4 tU) a.2.2.2.2.2.2.2.2.1 b.2.2.2.2.2.2.2.2.1)))))))
theorem zVU {a b:zg} (h:qdV a):yJ (a,b,()) = some (znW a b,()):=by
  rw [zR]
  simp only [yJ,zka]
  rw [qaO h.rooms,qaP h.exits,z8Y h.items,z8Z h.mails,z80 h.trades]
  simp only [Option.bind_some]
  rw [zPf a.2.2.2.2.2.1 b.2.2.2.2.2.1 (eqI (.arr 4 tU)),zPf a.2.2.2.2.2.2.1 b.2.2.2.2.2.2.1 (eqI zY)]
  have key:a.2.2.2.2.2.1.length = b.2.2.2.2.2.1.length→a.2.2.2.2.2.2.1.length = b.2.2.2.2.2.2.1.length→zoC K0 (0,a,b) = some (eqL (.arr 4 tU) a.2.2.2.2.2.1 b.2.2.2.2.2.1 && eqL zY a.2.2.2.2.2.2.1 b.2.2.2.2.2.2.1,()):=fun h1 h2=>by
    have l1:=zeV (B:=zda) zki (eqI zY) (fun i=>(i,a,b)) h.places h2 (fun k i hi=>by
      simp only [zda]
      rw [ltT hi,zn hi,zn (by omega),zS,zS,zNF]; rfl) (fin:=true) (fun k=>by simp only [zda]; rw [ltF]; rfl)
    rw [Bool.and_true] at l1
    exact zeV (B:=fun k0=>zaT (zg6 K0) k0) (zb (.arr 4 tU)) (eqI (.arr 4 tU)) (fun i=>(i,a,b)) h.purses h1 (fun k i hi=>by
      simp only [zaT]
      rw [ltT hi,zn hi,zn (by omega),Int.toNat_natCast,zNF]; rfl) (fun k=>by simp only [zaT]; rw [ltF]; exact l1)
  unfold znW
  by_cases h1:a.2.2.2.2.2.1.length = b.2.2.2.2.2.1.length
  · by_cases h2:a.2.2.2.2.2.2.1.length = b.2.2.2.2.2.2.1.length
    · rw [key h1 h2,decide_eq_true h1,decide_eq_true h2]
      generalize eqL zX a.1 b.1 = c1
      generalize eqL zV a.2.1 b.2.1 = c2
      generalize eqL zI a.2.2.1 b.2.2.1 = c3
      generalize eqL zZ a.2.2.2.1 b.2.2.2.1 = c4
      generalize eqL zu a.2.2.2.2.1 b.2.2.2.2.1 = c5
      generalize eqL (.arr 4 tU) a.2.2.2.2.2.1 b.2.2.2.2.2.1 = c6
      generalize eqL zY a.2.2.2.2.2.2.1 b.2.2.2.2.2.2.1 = c7
      generalize eqI (.arr 4 tU) a.2.2.2.2.2.2.2.1 b.2.2.2.2.2.2.2.1 = c8
      generalize eqI (.arr 4 tU) a.2.2.2.2.2.2.2.2.1 b.2.2.2.2.2.2.2.2.1 = c9
      grind
    · have e:eqL zY a.2.2.2.2.2.2.1 b.2.2.2.2.2.2.1 = false:=zPg h2
      rw [decide_eq_false h2,e]
      grind
  · have e:eqL (.arr 4 tU) a.2.2.2.2.2.1 b.2.2.2.2.2.1 = false:=zPg h1
    rw [decide_eq_false h1,e]
    grind
def z6p (a b:ze):Bool:=(a.1:Int) == b.1 && (eqW znW a.2.1 b.2.1 && (eqW (eqL tI) a.2.2.1 b.2.2.1 && (eqL zi a.2.2.2.1 b.2.2.2.1 && (eqL zl a.2.2.2.2.1 b.2.2.2.2.1 && eqL tI a.2.2.2.2.2.1 b.2.2.2.2.2.1))))
theorem z81 {a b:List (List Int)} (hl:a.length ≤ Go.maxLen) (hr:∀ l ∈ a,l.length ≤ Go.maxLen):zp8 (a,b,()) = some (eqW (eqL tI) a b,()):=zlM (p:=eqL tI) fun h=>by
  have:=zeV (B:=fun k0=>zfZ (zq1 K0 k0) k0) ([]:List Int) (eqL tI) (fun i=>(a,b,i)) hl h (fun k i hi=>by
    simp only [zfZ]
    rw [ltT hi,zn hi,zn (by omega),Int.toNat_natCast]
    simp only [cond_true]
    rw [zPf (a.getD i []) (b.getD i []) (eqI tI)]
    by_cases hm:(a.getD i []).length = (b.getD i []).length
    · rw [decide_eq_true hm,cond_true]
      have hz:(List.zip (a.getD i []) (b.getD i [])).length = (a.getD i []).length:=by rw [List.length_zip]; omega
      have:=yK (B:=fun k1=>zlo k k1) (l:=List.zip (a.getD i []) (b.getD i [])) ((0:Int),(0:Int)) (p:=fun q=>q.1 == q.2) (fin:=k (a,b,wI (i + 1))) (bad:=some (false,())) (fun j=>(a,b,(i:Int),j)) (by rw [hz]; exact hr _ (qg hi)) (fun k1 j x hj hx _=>by
        rw [hz] at hj
        rw [zWS _ _ j hj (by omega)] at hx
        subst hx
        simp only [zlo]
        rw [zn hi,zn hi,Int.toNat_natCast,ltT hj,zn hj,zn (by omega),zn (by omega),Int.toNat_natCast]
        simp only [cond_true]
        exact qfU _ _ _ _) (fun k1=>by
        simp only [zlo]
        rw [hz,zn hi,Int.toNat_natCast,ltF]; rfl)
      refine Eq.trans this ?_
      unfold eqL
      rw [decide_eq_true hm,Bool.true_and]
      rfl
    · have e:eqL tI (a.getD i []) (b.getD i []) = false:=zPg hm
      rw [decide_eq_false hm,e]; rfl) (fin:=true) (fun k=>by simp only [zfZ]; rw [ltF]; rfl)
  rw [Bool.and_true] at this; exact this
theorem zUN {a b:ze} (h:qeK a):zcu (a,b,()) = some (z6p a b,()):=by
  rw [zR]
  simp only [zcu,zyk]
  rw [z81 h.ranks h.rank,z8W h.orders,z8X h.entries]
  simp only [Option.bind_some]
  rw [zPf a.2.1 b.2.1 znW,zPf a.2.2.2.2.2.1 b.2.2.2.2.2.1 (eqI tI)]
  have key:a.2.1.length = b.2.1.length→a.2.2.2.2.2.1.length = b.2.2.2.2.2.1.length→zAW yJ K0 (0,a,b) = some (eqW znW a.2.1 b.2.1 && eqL tI a.2.2.2.2.2.1 b.2.2.2.2.2.1,()):=fun h1 h2=>by
    have l1:=zeV (B:=zlB) (0:Int) (eqI tI) (fun i=>(i,a,b)) h.seats h2 (fun k i hi=>by
      simp only [zlB]
      rw [ltT hi,zn hi,zn (by omega),zS,zS]
      simp only [cond_true]
      exact qfU _ _ _ _) (fin:=true) (fun k=>by simp only [zlB]; rw [ltF]; rfl)
    rw [Bool.and_true] at l1
    exact zeV (B:=fun k0=>zf0 yJ (zq2 K0) k0) za znW (fun i=>(i,a,b)) h.shelves h1 (fun k i hi=>by
      simp only [zf0]
      rw [ltT hi,zn hi,zn (by omega),zS,zS,zVU (h.shelf _ (qg hi))]; rfl) (fun k=>by simp only [zf0]; rw [ltF]; exact l1)
  unfold z6p
  have e0:(a.1 != b.1) = !(a.1 == b.1):=rfl
  rw [e0]
  by_cases h1:a.2.1.length = b.2.1.length
  · by_cases h2:a.2.2.2.2.2.1.length = b.2.2.2.2.2.1.length
    · rw [key h1 h2,decide_eq_true h1,decide_eq_true h2]
      generalize eqW znW a.2.1 b.2.1 = c1
      generalize eqW (eqL tI) a.2.2.1 b.2.2.1 = c2
      generalize eqL zi a.2.2.2.1 b.2.2.2.1 = c3
      generalize eqL zl a.2.2.2.2.1 b.2.2.2.2.1 = c4
      generalize eqL tI a.2.2.2.2.2.1 b.2.2.2.2.2.1 = c5
      generalize (a.1 == b.1) = c6
      grind
    · have e:eqL tI a.2.2.2.2.2.1 b.2.2.2.2.2.1 = false:=zPg h2
      rw [decide_eq_false h2,e]
      grind
  · have e:eqW znW a.2.1 b.2.1 = false:=zPg h1
    rw [decide_eq_false h1,e]
    grind
end Go.Proofs.YtaokpakfhdeiiaaGreatDoor
end
section
namespace Go.Proofs.YtaokpakfhdeiiaaGreatDoor
open Go.Ev
noncomputable section
section
variable (zfE:zLG) (z6:zs2) (zyy:zS1) (zNG:zV2) (ztB:zQM) (qx:zvR) (qC:zF7) (qy:zvS) (qD:zGb) (qY:zmM) (yl:zy9) (qw:zs4) (zau:zPE) (jU:zQN) (zra:zY4)
def zqn:(zd × (ze × (qe × (Int × (Int × Unit)))))→Option (Bool × Unit):=fun (x0,x1,x2,x3,x4,()) =>
  Option.bind (zfE (x0,())) fun q0=>Option.bind (z6 (x0,())) fun q1=>bif q1.1 then bif q0.2.1 != 0 then some (false,()) else Option.bind (zNG (x0,())) fun q2=>Option.bind (zyy ((q0.1.1,q0.1.2.1,q0.1.2.2.1,q0.1.2.2.2.1,q0.1.2.2.2.2.1,q0.1.2.2.2.2.2.1,()),(q2.1.1,q2.1.2.1,q2.1.2.2.1,q2.1.2.2.2.1,q2.1.2.2.2.2.1,q2.1.2.2.2.2.2.1,()),())) fun q3=>bif q3.1 then Option.bind (ztB (x0,x1,())) fun q4=>bif q4.1 then Option.bind (qx (x1,x3,())) fun q5=>Option.bind (qC (x1,x3,())) fun q6=>Option.bind (qy (x1,x3,())) fun q7=>Option.bind (qD (x1,x3,())) fun q8=>Option.bind (qY (x0,x1,())) fun q9=>bif q9.1 then Option.bind (yl (x0,x1,x2,())) fun q10=>bif q10.1 then Option.bind (qw (x1,x2,())) fun q11=>bif q11.1 then bif q5.1 != q6.1 then some (false,()) else bif q5.2.1 != q6.2.1 then some (false,()) else bif q7.1 != q8.1 then some (false,()) else bif q7.2.1 != q8.2.1 then some (false,()) else Option.bind (zau (x0,x1,x4,())) fun q12=>bif decide (x4 < 0) then Option.bind (jU ()) fun q13=>bif q13.1 then bif q12.2.1 == 1 then bif eqI tMe q12.1 (zb tMe) then some (true,()) else some (false,()) else some (false,()) else some (false,()) else bif decide (x4 ≥ ((List.length x0.2.1):Int)) then Option.bind (jU ()) fun q14=>bif q14.1 then bif q12.2.1 == 1 then bif eqI tMe q12.1 (zb tMe) then some (true,()) else some (false,()) else some (false,()) else some (false,()) else Option.bind (zra (x0,x1,x4,())) fun q15=>Option.bind (jU ()) fun q16=>bif q16.1 then bif eqI tMe q12.1 q15.1 then bif q12.2.1 == q15.2.1 then some (true,()) else some (false,()) else some (false,()) else some (false,()) else some (false,()) else Option.bind (qw (x1,x2,())) fun q17=>bif q17.1 then some (false,()) else bif q5.1 != q6.1 then some (false,()) else bif q5.2.1 != q6.2.1 then some (false,()) else bif q7.1 != q8.1 then some (false,()) else bif q7.2.1 != q8.2.1 then some (false,()) else Option.bind (zau (x0,x1,x4,())) fun q18=>bif decide (x4 < 0) then Option.bind (jU ()) fun q19=>bif q19.1 then bif q18.2.1 == 1 then bif eqI tMe q18.1 (zb tMe) then some (true,()) else some (false,()) else some (false,()) else some (false,()) else bif decide (x4 ≥ ((List.length x0.2.1):Int)) then Option.bind (jU ()) fun q20=>bif q20.1 then bif q18.2.1 == 1 then bif eqI tMe q18.1 (zb tMe) then some (true,()) else some (false,()) else some (false,()) else some (false,()) else Option.bind (zra (x0,x1,x4,())) fun q21=>Option.bind (jU ()) fun q22=>bif q22.1 then bif eqI tMe q18.1 q21.1 then bif q18.2.1 == q21.2.1 then some (true,()) else some (false,()) else some (false,()) else some (false,()) else some (false,()) else Option.bind (qx (x1,x3,())) fun q23=>Option.bind (qC (x1,x3,())) fun q24=>Option.bind (qy (x1,x3,())) fun q25=>Option.bind (qD (x1,x3,())) fun q26=>Option.bind (qY (x0,x1,())) fun q27=>bif q27.1 then some (false,()) else Option.bind (yl (x0,x1,x2,())) fun q28=>bif q28.1 then some (false,()) else bif q23.1 != q24.1 then some (false,()) else bif q23.2.1 != q24.2.1 then some (false,()) else bif q25.1 != q26.1 then some (false,()) else bif q25.2.1 != q26.2.1 then some (false,()) else Option.bind (zau (x0,x1,x4,())) fun q29=>Option.bind (jU ()) fun q30=>bif q30.1 then bif q29.2.1 == 1 then bif eqI tMe q29.1 (zb tMe) then some (true,()) else some (false,()) else some (false,()) else some (false,()) else some (false,()) else bif q0.2.1 != 1 then some (false,()) else Option.bind (zyy ((q0.1.1,q0.1.2.1,q0.1.2.2.1,q0.1.2.2.2.1,q0.1.2.2.2.2.1,q0.1.2.2.2.2.2.1,()),zb zW,())) fun q31=>bif q31.1 then Option.bind (ztB (x0,x1,())) fun q32=>bif q32.1 then Option.bind (qx (x1,x3,())) fun q33=>Option.bind (qC (x1,x3,())) fun q34=>Option.bind (qy (x1,x3,())) fun q35=>Option.bind (qD (x1,x3,())) fun q36=>Option.bind (qY (x0,x1,())) fun q37=>bif q37.1 then Option.bind (yl (x0,x1,x2,())) fun q38=>bif q38.1 then Option.bind (qw (x1,x2,())) fun q39=>bif q39.1 then bif q33.1 != q34.1 then some (false,()) else bif q33.2.1 != q34.2.1 then some (false,()) else bif q35.1 != q36.1 then some (false,()) else bif q35.2.1 != q36.2.1 then some (false,()) else Option.bind (zau (x0,x1,x4,())) fun q40=>bif decide (x4 < 0) then Option.bind (jU ()) fun q41=>bif q41.1 then bif q40.2.1 == 1 then bif eqI tMe q40.1 (zb tMe) then some (true,()) else some (false,()) else some (false,()) else some (false,()) else bif decide (x4 ≥ ((List.length x0.2.1):Int)) then Option.bind (jU ()) fun q42=>bif q42.1 then bif q40.2.1 == 1 then bif eqI tMe q40.1 (zb tMe) then some (true,()) else some (false,()) else some (false,()) else some (false,()) else Option.bind (zra (x0,x1,x4,())) fun q43=>Option.bind (jU ()) fun q44=>bif q44.1 then bif eqI tMe q40.1 q43.1 then bif q40.2.1 == q43.2.1 then some (true,()) else some (false,()) else some (false,()) else some (false,()) else some (false,()) else Option.bind (qw (x1,x2,())) fun q45=>bif q45.1 then some (false,()) else bif q33.1 != q34.1 then some (false,()) else bif q33.2.1 != q34.2.1 then some (false,()) else bif q35.1 != q36.1 then some (false,()) else bif q35.2.1 != q36.2.1 then some (false,()) else Option.bind (zau (x0,x1,x4,())) fun q46=>bif decide (x4 < 0) then Option.bind (jU ()) fun q47=>bif q47.1 then bif q46.2.1 == 1 then bif eqI tMe q46.1 (zb tMe) then some (true,()) else some (false,()) else some (false,()) else some (false,()) else bif decide (x4 ≥ ((List.length x0.2.1):Int)) then Option.bind (jU ()) fun q48=>bif q48.1 then bif q46.2.1 == 1 then bif eqI tMe q46.1 (zb tMe) then some (true,()) else some (false,()) else some (false,()) else some (false,()) else Option.bind (zra (x0,x1,x4,())) fun q49=>Option.bind (jU ()) fun q50=>bif q50.1 then bif eqI tMe q46.1 q49.1 then bif q46.2.1 == q49.2.1 then some (true,()) else some (false,()) else some (false,()) else some (false,()) else some (false,()) else Option.bind (qx (x1,x3,())) fun q51=>Option.bind (qC (x1,x3,())) fun q52=>Option.bind (qy (x1,x3,())) fun q53=>Option.bind (qD (x1,x3,())) fun q54=>Option.bind (qY (x0,x1,())) fun q55=>bif q55.1 then some (false,()) else Option.bind (yl (x0,x1,x2,())) fun q56=>bif q56.1 then some (false,()) else bif q51.1 != q52.1 then some (false,()) else bif q51.2.1 != q52.2.1 then some (false,()) else bif q53.1 != q54.1 then some (false,()) else bif q53.2.1 != q54.2.1 then some (false,()) else Option.bind (zau (x0,x1,x4,())) fun q57=>Option.bind (jU ()) fun q58=>bif q58.1 then bif q57.2.1 == 1 then bif eqI tMe q57.1 (zb tMe) then some (true,()) else some (false,()) else some (false,()) else some (false,()) else some (false,())
theorem zUO (K:Nat):evF (En E0 false [zpc zfE,zdc z6,zCa zyy,zF4 zNG,zy6 ztB,zeD qx,zmK qC,zeE qy,zmL qD,zai qY,zib yl,zdd qw,zsu zau,zza jU,zLI zra]) K Tryz.f3 0 zby zpb = zqn zfE z6 zyy zNG ztB qx qC qy qD qY yl qw zau jU zra:=funext fun (x0,x1,x2,x3,x4,())=>by kernel_rfl
end
def zjk:zS0:=zqn zaZ yd zcu znT zhR jW yC jX yD jE yk ye zco zhM zq3
theorem zUP:Sd Tryz.prog E0 (zR9 zjk):=mkS (l:=[zpc zaZ,zdc yd,zCa zcu,zF4 znT,zy6 zhR,zeD jW,zmK yC,zeE jX,zmL yD,zai jE,zib yk,zdd ye,zsu zco,zza zhM,zLI zq3]) ⟨zWq,zEt,z8t,qag,z5z,zIZ,zUw,zI4,zUx,ztm,zOH,zEz,z0l,z4Q,qce,trivial⟩ Tryz.func3 (by kernel_rfl) (zUO zaZ yd zcu znT zhR jW yC jX yD jE yk ye zco zhM zq3 K0)
end
end Go.Proofs.YtaokpakfhdeiiaaGreatDoor
end
section
namespace Go.Proofs.YtaokpakfhdeiiaaGreatDoor
open Go.Ev
theorem z3i {l:List Int} {a:Int} (hl:l.length ≤ Go.maxLen):zaB (l,a,()) = some (l.any fun y=>a == y,()):=by
  have h:zla (l,a,()) = some (zaz (fun y=>a == y) l 0,()) :=
    zYh (B:=zgA) (l:=l) (0:Int) (fun i=>(l,a,(l.length:Int),i)) hl (fun k i x hi hx _=>by
      simp only [zgA]
      rw [ltT hi,zn hi,zS,hx]; rfl) (fun k=>by simp only [zgA]; rw [ltF]; rfl)
  simp only [zaB,zso]
  rw [h,Option.bind_some,zPB (p:=fun y=>a == y) l 0 (Int.le_refl 0)]
  cases l.any fun y=>a == y <;> rfl
theorem qdW (a b:Int):zvJ (a,b,()) = some (decide (0 ≤ a ∧ a < b),()):=by simp only [zvJ,zUp]; grind
theorem z1c {r:zd} (hr:jC r) (i:Int):zeu (r,i,()) = some (qn r && zbe r i,()):=by
  rw [zR]
  simp only [zeu,zx3,znA r hr,Option.bind_some]
  cases hb:qn r with
  | false=>rfl
  | true =>
    have hl:=(j9 hb).labels
    have hw:wI ((r.1.length:Int) - 1) = (r.1.length:Int) - 1:=by
      have:=zvw (i:=r.1.length) (by omega) (by unfold Go.maxLen; omega)
      rw [this]; omega
    rw [hw,zmG]
    simp only [Option.bind_some,cond_true,Bool.true_and,within,zbe]
    grind
theorem qeL {c:Int} (hc:0 ≤ c) {b:Int} (hb:0 ≤ b ∧ b < 64):(((zak c.toNat).map Int.ofNat).any fun y=>b == y) = hasB c b.toNat:=by
  obtain ⟨n,rfl⟩:=Int.eq_ofNat_of_zero_le hb.1
  rw [Bool.eq_iff_iff,List.any_eq_true,Int.toNat_natCast]
  unfold hasB zak
  constructor
  · rintro ⟨x,hx,e⟩
    obtain ⟨m,hm,rfl⟩:=List.mem_map.1 hx
    obtain rfl:n = m:=by
      have:=eq_of_beq e
      exact Int.ofNat.inj this
    exact (List.mem_filter.1 hm).2
  · intro h
    exact ⟨(n:Int),List.mem_map.2 ⟨n,List.mem_filter.2 ⟨by simp; omega,h⟩,rfl⟩,by simp⟩
def zqo (r:zd) (i:Int):List Int:=(List.range r.2.2.2.1.length).filterMap fun g=>bif hasB (r.1.getD i.toNat qm).2.1 (r.2.2.2.1.getD g qj).1.toNat then some (g:Int) else none
theorem qdX {r:zd} (hb:qn r = true):∀ g ∈ r.2.2.2.1,0 ≤ g.1 ∧ g.1 < 64:=by
  simp only [qn,zAX,Bool.and_eq_true] at hb
  intro g hg
  have:=zUF _ _ hb.2.2.2.1.2.1 g hg
  simp only [zcw,Bool.and_eq_true,decide_eq_true_eq] at this
  exact this
theorem z3j {r:zd} (hr:jC r) (i:Int) (hi:zbe r i = true):zfP (r,i,()) = some (bif qn r then zqo r i else [],()):=by
  simp only [zfP,zqW,z1c hr,Option.bind_some,hi,Bool.and_true]
  cases hb:qn r with
  | false=>rfl
  | true =>
    have hc:=zPd hr i hi
    simp only [zbe,decide_eq_true_eq] at hi
    have ok:=j9 hb
    have hg:=ok.guilds
    have hbits:=qdX hb
    have hin:zge (r.1.getD i.toNat qm,()) = some ((zak (r.1.getD i.toNat qm).2.1.toNat).map Int.ofNat,()):=by
      unfold zge
      rw [decide_eq_true (show 0 ≤ (r.1.getD i.toNat qm).2.1 ∧ (r.1.getD i.toNat qm).2.1 < 18446744073709551616 from hc)]; rfl
    have:=zhx (B:=zgC zge zaB) (len:=r.2.2.2.1.length) (by unfold Go.maxLen; omega) (fun j o=>(i,r.2.2.2.1,(r.2.2.2.1.length:Int),j,r,o))
      (fun j o=>some (o ++ (List.range' j (r.2.2.2.1.length - j)).filterMap fun g=>bif hasB (r.1.getD i.toNat qm).2.1 (r.2.2.2.1.getD g qj).1.toNat then some (g:Int) else none,())) (fun j o=>o.length ≤ j) (fun k j o hj hI h=>by
        simp only [zgC]
        rw [ltT hj,zn hj,ixR hi,zS]
        simp only [cond_true]
        rw [show ix qm r.1 i = r.1.getD i.toNat qm from rfl,hin,Option.bind_some,z3i (by rw [List.length_map]; have:=z62 (r.1.getD i.toNat qm).2.1.toNat; unfold Go.maxLen; omega),Option.bind_some,qeL hc.1 (hbits _ (qg hj)),set1,zcv (by simp; omega)]
        have e:List.range' j (r.2.2.2.1.length - j) = j :: List.range' (j + 1) (r.2.2.2.1.length - (j + 1)):=by
          rw [show r.2.2.2.1.length - j = (r.2.2.2.1.length - (j + 1)) + 1 by omega,List.range'_succ]
        rw [e,List.filterMap_cons]
        cases hasB (r.1.getD i.toNat qm).2.1 (r.2.2.2.1.getD j qj).1.toNat with
        | true =>
          simp only [cond_true]
          rw [h _ (by rw [List.length_append]; simp; omega),List.append_assoc]; rfl
        | false =>
          simp only [cond_false]
          rw [h _ (by omega)]) (fun k o _=>by
        simp only [zgC]
        rw [ltF,Nat.sub_self]; simp) [] (Nat.le_refl 0)
    refine Eq.trans this ?_
    unfold zqo
    rw [List.nil_append,Nat.sub_zero,List.range_eq_range']; rfl
def zlI (l:List (List Int)) (g:Nat) (who:Int):Int:=(l.getD g []).getD who.toNat 0
def zvu (r:zd) (l:List (List Int)) (who i:Int):Bool:=ql (fun g=>!hasB (r.1.getD i.toNat qm).2.1 (r.2.2.2.1.getD g qj).1.toNat || zlI l g who != 0) 0 r.2.2.2.1.length && decide ((r.1.getD i.toNat qm).1 ≤ (r.2.2.1.getD who.toNat jG).2.2.1)
theorem zYq {r:zd} {l:List (List Int)} (h:zfg r l = true):l.length = r.2.2.2.1.length ∧ ∀ g,g < r.2.2.2.1.length→(l.getD g []).length = r.2.2.1.length:=by
  simp only [zfg,Bool.and_eq_true,decide_eq_true_eq,ju] at h
  refine ⟨h.1,fun g hg=>?_⟩
  have:=h.2 g (by omega) (by omega)
  simp only [zJD,Bool.and_eq_true,decide_eq_true_eq] at this
  exact this.1
theorem z3k {r:zd} (hr:jC r) (hb:qn r = true) {l:List (List Int)} (hl:zfg r l = true) (who i:Int):zfQ (r,l,who,i,()) = some (zcU r who && (zbe r i && zvu r l who i),()):=by
  rw [zR]
  have ok:=j9 hb
  have hg:=ok.guilds
  simp only [zfQ,zAR,zUJ hr,hb,hl,qdW,Option.bind_some,Bool.and_self,cond_true]
  rw [show decide (0 ≤ who ∧ who < (r.2.2.1.length:Int)) = zcU r who from rfl,show decide (0 ≤ i ∧ i < (r.1.length:Int)) = zbe r i from rfl]
  cases hw:zcU r who with
  | false=>rfl
  | true =>
    cases hi:zbe r i with
    | false=>rfl
    | true =>
      have hw':=hw
      have hi':=hi
      simp only [zcU,zbe,decide_eq_true_eq] at hw' hi'
      have hrl:=zYq hl
      have hc1:∀ g ∈ zqo r i,zbt (g,some l,some who,()) = some (zlI l g.toNat who == 0,()):=by
        intro g hg'
        obtain ⟨m,hm,hm2⟩:=List.mem_filterMap.1 hg'
        cases hh:hasB (r.1.getD i.toNat qm).2.1 (r.2.2.2.1.getD m qj).1.toNat with
        | false=>rw [hh] at hm2; cases hm2
        | true =>
          rw [hh] at hm2
          cases hm2
          have hm':m < r.2.2.2.1.length:=by simpa using hm
          rw [zR]
          simp only [zbt,zvi,Option.bind_some,Int.toNat_natCast]
          rw [zn (by omega),ixR (by rw [hrl.2 m hm']; exact hw')]
          rfl
      rw [ixR hw',ixR hi',z3j hr i hi,hb]
      simp only [Option.bind_some,cond_true,Bool.true_and]
      have hlen:(zqo r i).length ≤ Go.maxLen:=by
        have:=List.length_filterMap_le (fun g=>bif hasB (r.1.getD i.toNat qm).2.1 (r.2.2.2.1.getD g qj).1.toNat then some (g:Int) else none) (List.range r.2.2.2.1.length)
        rw [List.length_range] at this
        unfold zqo Go.maxLen
        omega
      have hcf:zQ (zqo r i,some fun z=>zbt (z.1,some l,some who,()),()) = some ((zqo r i).any fun g=>zlI l g.toNat who == 0,()):=zed (p:=fun g=>zlI l g.toNat who == 0) hlen hc1
      rw [hcf,Option.bind_some]
      have key:((zqo r i).any fun g=>zlI l g.toNat who == 0) = !ql (fun g=>!hasB (r.1.getD i.toNat qm).2.1 (r.2.2.2.1.getD g qj).1.toNat || zlI l g who != 0) 0 r.2.2.2.1.length:=by
        rw [Bool.eq_iff_iff,List.any_eq_true]
        constructor
        · rintro ⟨g,hg1,hg2⟩
          obtain ⟨m,hm,hm2⟩:=List.mem_filterMap.1 hg1
          have hm':m < r.2.2.2.1.length:=by simpa using hm
          cases hh:hasB (r.1.getD i.toNat qm).2.1 (r.2.2.2.1.getD m qj).1.toNat with
          | false=>rw [hh] at hm2; cases hm2
          | true =>
            rw [hh] at hm2
            cases hm2
            cases ha:ql (fun g=>!hasB (r.1.getD i.toNat qm).2.1 (r.2.2.2.1.getD g qj).1.toNat || zlI l g who != 0) 0 r.2.2.2.1.length with
            | false=>rfl
            | true =>
              have:=ju.1 ha m (Nat.zero_le _) (by omega)
              rw [hh] at this
              simp at this
              rw [Int.toNat_natCast] at hg2
              exact absurd (eq_of_beq hg2) this
        · intro ha
          rw [Bool.not_eq_true',← Bool.not_eq_true,ju] at ha
          simp only [Classical.not_forall] at ha
          obtain ⟨m,h1,h2,h3⟩:=ha
          simp only [Bool.or_eq_true,Bool.not_eq_true',bne_iff_ne,ne_eq,not_or,Bool.not_eq_false,Classical.not_not] at h3
          refine ⟨(m:Int),List.mem_filterMap.2 ⟨m,by simp; omega,by rw [h3.1]; rfl⟩,?_⟩
          rw [Int.toNat_natCast,h3.2]; rfl
      rw [key]
      unfold zvu
      rw [show (ix jG r.2.2.1 who) = r.2.2.1.getD who.toNat jG from rfl,show ix qm r.1 i = r.1.getD i.toNat qm from rfl]
      generalize ql (fun g=>!hasB (r.1.getD i.toNat qm).2.1 (r.2.2.2.1.getD g qj).1.toNat || zlI l g who != 0) 0 r.2.2.2.1.length = u
      grind
theorem z1d {r:zd} (hr:jC r) (hb:qn r = true) {l:List (List Int)} (hl:zfg r l = true) (who i:Int):zew (r,l,who,i,()) = some (zcU r who && (zbe r i && zvu r l who i),()):=by
  rw [zR]
  have ok:=j9 hb
  have hg:=ok.guilds
  have hrl:=zYq hl
  simp only [zew,zo4]
  cases hw:zcU r who with
  | false =>
    simp only [zcU,decide_eq_false_iff_not] at hw
    grind
  | true =>
    cases hi:zbe r i with
    | false =>
      simp only [zcU,zbe,decide_eq_false_iff_not,decide_eq_true_eq] at hw hi
      grind
    | true =>
      have hc:=zPd hr i hi
      simp only [zcU,zbe,decide_eq_true_eq] at hw hi
      have hbits:=qdX hb
      rw [decide_eq_false (by omega),decide_eq_false (by omega),decide_eq_false (by omega),decide_eq_false (by omega)]
      simp only [cond_false,Bool.true_and]
      have hloop:=qG (B:=zff j4) (i0:=0) (n:=r.2.2.2.1.length) (by unfold Go.maxLen; omega) (Nat.zero_le _) (p:=fun g=>!hasB (r.1.getD i.toNat qm).2.1 (r.2.2.2.1.getD g qj).1.toNat || zlI l g who != 0)
        (fin:=bif decide ((r.1.getD i.toNat qm).1 ≤ (r.2.2.1.getD who.toNat jG).2.2.1) then some (true,()) else some (false,())) (bad:=some (false,())) (fun g=>(l,who,i,g,r)) (fun k g _ hgg=>by
          simp only [zff]
          rw [ltT hgg,ixR hi,zn hgg,zS,zBr _ _ hc.1 (hbits _ (qg hgg))]
          simp only [cond_true,Option.bind_some]
          cases hasB (r.1.getD i.toNat qm).2.1 (r.2.2.2.1.getD g qj).1.toNat with
          | false=>rfl
          | true =>
            rw [zn (by omega),Int.toNat_natCast,ixR (by rw [hrl.2 g hgg]; exact hw)]
            simp only [cond_true,Bool.not_true,Bool.false_or]
            show (bif zlI l g who == 0 then _ else _) = bif !(zlI l g who == 0) then _ else _
            cases zlI l g who == 0 <;> rfl) (fun k=>by
          simp only [zff]
          rw [ltF,cond_false,ixR hi,ixR hw])
      refine Eq.trans hloop ?_
      unfold zvu
      rw [Nat.sub_zero]
      cases ql (fun g=>!hasB (r.1.getD i.toNat qm).2.1 (r.2.2.2.1.getD g qj).1.toNat || zlI l g who != 0) 0 r.2.2.2.1.length <;> rfl
def meV (r:zd) (s:ze) (line:Int):pMe × Int × Unit:=bif s.2.2.2.2.2.1.getD line.toNat 0 == -1 then ((0,0,0,()),10,()) else bif zvu r s.2.2.1 (s.2.2.2.2.2.1.getD line.toNat 0) (r.2.1.getD line.toNat 0) then ((line,r.2.1.getD line.toNat 0,s.2.2.2.2.2.1.getD line.toNat 0,()),0,()) else ((0,0,0,()),5,())
theorem zBu {r:zd} {s:ze} (h:zcy r s = true):qn r = true ∧ zlF r s = true ∧ zdD r s = true:=by
  simp only [zcy,Bool.and_eq_true] at h
  exact ⟨h.1,h.2.1,h.2.2.1⟩
theorem qbe {r:zd} {s:ze} (h:zcy r s = true) {i:Nat} (hi:i < s.2.2.2.2.2.1.length):s.2.2.2.2.2.1.getD i 0 = -1 ∨ zcU r (s.2.2.2.2.2.1.getD i 0) = true:=by
  have hp:=(zBu h).2.2
  simp only [zdD,Bool.and_eq_true,List.all_eq_true] at hp
  have:=hp.2.2.2.2.2.2 _ (qg (d:=(0:Int)) hi)
  simp only [zA4,Bool.or_eq_true,beq_iff_eq] at this
  exact this
theorem qbf {r:zd} (hb:qn r = true) {i:Nat} (hi:i < r.2.1.length):zbe r (r.2.1.getD i 0) = true:=by
  simp only [qn,zBZ,Bool.and_eq_true,List.all_eq_true,decide_eq_true_eq] at hb
  have:=hb.2.1.2 _ (qg (d:=(0:Int)) hi)
  simp only [zbe,decide_eq_true_eq]
  exact this
theorem z1e {r:zd} {s:ze} (hr:jC r) (hs:zdC s) (line:Int):zco (r,s,line,()) = some (bif zcy r s && decide (0 ≤ line ∧ line < (r.2.1.length:Int)) then meV r s line else ((0,0,0,()),1,())):=by
  simp only [zco,zQr,ztA hr hs,Option.bind_some]
  cases h:zcy r s with
  | false=>rfl
  | true =>
    obtain ⟨hb,hz,hp⟩:=zBu h
    have sz:=zB1 hb hz
    have hl:=sz.people
    have hh:zfg r s.2.2.1 = true:=by simp only [zdD,Bool.and_eq_true] at hp; exact hp.1
    by_cases hi:0 ≤ line ∧ line < (r.2.1.length:Int)
    · rw [decide_eq_true hi,decide_eq_false (by omega),decide_eq_false (by omega),ixR hi,ixR (by omega)]
      simp only [cond_true,cond_false,Bool.and_self]
      rw [show ix (0:Int) s.2.2.2.2.2.1 line = s.2.2.2.2.2.1.getD line.toNat 0 from rfl,show ix (0:Int) r.2.1 line = r.2.1.getD line.toNat 0 from rfl,z3k hr hb hh]
      unfold meV
      rcases qbe h (i:=line.toNat) (by omega) with e | e
      · rw [e]; rfl
      · rw [e,qbf hb (by omega)]
        simp only [Option.bind_some,Bool.true_and]
        generalize zvu r s.2.2.1 (s.2.2.2.2.2.1.getD line.toNat 0) (r.2.1.getD line.toNat 0) = u
        cases s.2.2.2.2.2.1.getD line.toNat 0 == -1 <;> cases u <;> rfl
    · rw [decide_eq_false hi]
      simp only [Bool.and_false,cond_true,cond_false]
      by_cases h1:line < 0
      · rw [decide_eq_true h1]; rfl
      · rw [decide_eq_false h1,decide_eq_true (by omega)]; rfl
theorem qcG {r:zd} {s:ze} (hr:jC r) (h:zcy r s = true) {line:Int} (hi:0 ≤ line ∧ line < (r.2.1.length:Int)):zq3 (r,s,line,()) = some (meV r s line):=by
  obtain ⟨hb,hz,hp⟩:=zBu h
  have sz:=zB1 hb hz
  have hl:=sz.people
  have hh:zfg r s.2.2.1 = true:=by simp only [zdD,Bool.and_eq_true] at hp; exact hp.1
  simp only [zq3,zQs]
  rw [ixR hi,ixR (x:=line) (n:=s.2.2.2.2.2.1.length) (by omega),ixR (x:=line) (n:=s.2.2.2.2.2.1.length) (by omega),show ix (0:Int) s.2.2.2.2.2.1 line = s.2.2.2.2.2.1.getD line.toNat 0 from rfl,show ix (0:Int) r.2.1 line = r.2.1.getD line.toNat 0 from rfl,z1d hr hb hh]
  unfold meV
  rcases qbe h (i:=line.toNat) (by omega) with e | e
  · rw [e]; rfl
  · rw [e,qbf hb (by omega)]
    have h0:0 ≤ s.2.2.2.2.2.1.getD line.toNat 0:=by simp only [zcU,decide_eq_true_eq] at e; exact e.1
    have h1:(s.2.2.2.2.2.1.getD line.toNat 0 == -1) = false:=by
      rw [beq_eq_false_iff_ne]; omega
    rw [decide_eq_false (by omega),h1]
    simp only [Option.bind_some,Bool.true_and,cond_false]
    generalize zvu r s.2.2.1 (s.2.2.2.2.2.1.getD line.toNat 0) (r.2.1.getD line.toNat 0) = u
    cases u <;> simp [ixR hi,ixR (x:=line) (n:=s.2.2.2.2.2.1.length) (y:=_) (by omega)]
end Go.Proofs.YtaokpakfhdeiiaaGreatDoor
end
section
namespace Go.Proofs.YtaokpakfhdeiiaaGreatDoor
open Go.Ev
theorem z3l {α β:Type} (f:α→β) (d:α) (l:List α):(List.range l.length).map (fun i=>f (l.getD i d)) = l.map f:=by
  apply List.ext_getElem
  · simp
  · intro i h1 h2
    simp at h1 h2
    simp [List.getD,h2]
theorem qdY (n:Nat) (h:Int) (hh:0 ≤ h ∧ h < (n:Int)):(List.range n).map (fun k:Nat=>if h = (k:Int) then (2:Int) else 0) = (List.replicate n 0).set h.toNat 2:=by
  apply List.ext_getElem
  · simp
  · intro i h1 h2
    simp at h1 h2
    rw [List.getElem_map,List.getElem_range,List.getElem_set]
    by_cases e:h = (i:Int)
    · rw [if_pos e,if_pos (by omega)]
    · rw [if_neg e,if_neg (by omega)]; simp
theorem zFK {σ β ρ:Type} {B:(σ→Option ρ)→σ→Option ρ} {n:Nat} (hn:n ≤ Go.maxLen) (f:Nat→β) (st:Int→List β→σ) (fin:List β→Option ρ)
    (hin:∀ k (i:Nat) o,i < n→o.length = i→B k (st i o) = k (st (wI (i + 1)) (o ++ [f i]))) (hout:∀ k o,o.length = n→B k (st n o) = fin o):iter B K0 (st 0 []) = fin ((List.range n).map f):=by
  have:=zhx (B:=B) hn st (fun i o=>fin (o ++ (List.range' i (n - i)).map f)) (fun i o=>o.length = i) (fun k i o hi hI h=>?_) (fun k o hI=>?_) [] rfl
  · rw [List.range_eq_range']; simpa using this
  · rw [hin k i o hi hI,h _ (by rw [List.length_append,hI]; rfl),List.append_assoc,show n - i = (n - (i + 1)) + 1 by omega,List.range'_succ]; rfl
  · rw [hout _ _ hI]; simp
theorem qaQ {r:zd} (ok:zlE r):zsV (r,()) = some (r.2.2.2.1.map (z9 r),()):=by
  have ha:=ok.accounts
  have hg:=ok.guilds
  have inner:∀ k0 (i:Nat) (o:List (List Int)),i < r.2.2.2.1.length→zni K0 k0 ((i:Int),0,r,o,o.length,[]) = bif decide (o.length + 1 ≤ lim) then k0 (wI ((i:Int) + 1),r,o ++ [z9 r (r.2.2.2.1.getD i qj)],o.length + (0 + 1)) else none:=fun k0 i o hi=>by
    have:=zFK (B:=fun k1=>znh k0 k1) (n:=r.2.2.1.length) (by unfold Go.maxLen; omega) (fun k:Nat=>if (r.2.2.2.1.getD i qj).2.1 = (k:Int) then (2:Int) else 0) (fun j e=>((i:Int),j,r,o,o.length,e)) (fun e=>bif decide (o.length + 1 ≤ lim) then k0 (wI ((i:Int) + 1),r,o ++ [e],o.length + (0 + 1)) else none) (fun k j e hj hI=>by
      simp only [znh]
      rw [ltT hj,zn hi,zS,set1,set1,zcv (by simp; omega),zcv (by simp; omega)]
      simp only [cond_true]
      by_cases e1:(r.2.2.2.1.getD i qj).2.1 = (j:Int)
      · rw [if_pos e1,e1,beq_self_eq_true]; rfl
      · rw [if_neg e1,beq_eq_false_iff_ne.2 e1]; rfl) (fun k e hI=>by
      simp only [znh]
      rw [ltF]
      simp only [cond_false,decide_true,cond_true]
      rfl)
    rw [qdY _ _ (ok.heads i hi)] at this
    exact this
  have:=zFK (B:=fun k0=>zhS (zni K0 k0) k0) (n:=r.2.2.2.1.length) (by unfold Go.maxLen; omega) (fun i=>z9 r (r.2.2.2.1.getD i qj)) (fun i o=>(i,r,o,o.length)) (fun o=>some (o,())) (fun k i o hi hI=>by
    simp only [zhS]
    rw [ltT hi,inner k i o hi,zcv (by omega),List.length_append]
    rfl) (fun k o hI=>by
    simp only [zhS]
    rw [ltF]; simp)
  rw [z3l] at this
  exact this
theorem zB4 {σ β ρ:Type} {B:(σ→Option ρ)→σ→Option ρ} {n:Int} (hn:0 ≤ n ∧ n ≤ 1000) (d:β) (st:Int→List β→σ) (fin:List β→Option ρ)
    (hin:∀ k (i:Nat) o,(i:Int) < n→o.length = i→decide ((i:Int) < n) = true→B k (st i o) = k (st (wI (i + 1)) (o ++ [d]))) (hout:∀ k o,decide (n < n) = false→B k (st n o) = fin o):iter B K0 (st 0 []) = fin (List.replicate n.toNat d):=by
  obtain ⟨m,rfl⟩:=Int.eq_ofNat_of_zero_le hn.1
  have:=zYp (B:=B) (n:=m) (by unfold Go.maxLen; omega) d st fin [] (fun k i o hi hI=>hin k i o (by omega) (by simpa using hI) (ltT hi)) (fun k o=>hout k o (ltF m))
  rw [Int.toNat_natCast]
  exact this
theorem qaR {r:zd} (hb:qn r = true):znT (r,()) = some (zaC r,()):=by
  have ok:=j9 hb
  have ha:=ok.accounts
  have hl:=ok.labels
  have hli:=ok.lines
  have hq:=ok.quotas
  have h24:0 ≤ r.2.2.2.2.2.1 ∧ r.2.2.2.2.2.1 ≤ 1000:=by
    simp only [qn,zFE,within,Bool.and_eq_true,decide_eq_true_eq] at hb
    omega
  simp only [znT,zBq,qaQ ok,Option.bind_some]
  have l8:∀ (o:List zg) (w:List zj),znt K0 (0,r,0,0,[],0,[],0,[],[],[],o,o.length,r.2.2.2.1.map (z9 r),(r.2.2.2.1.map (z9 r)).length,w,[],[]) = some ((0,o,r.2.2.2.1.map (z9 r),w,[],List.replicate r.2.1.length (-1),()),()):=fun o w=>by
    have:=zYp (B:=zns) (n:=r.2.1.length) (by unfold Go.maxLen; omega) (-1:Int) (fun i (e:List Int)=>(i,r,0,0,[],0,[],0,[],[],[],o,o.length,r.2.2.2.1.map (z9 r),(r.2.2.2.1.map (z9 r)).length,w,[],e)) (fun e=>some ((0,o,r.2.2.2.1.map (z9 r),w,[],e,()),())) [] (fun k i e hi hI=>by
      simp only [zns]
      rw [ltT hi,set1,zcv (by simp at hI ⊢; omega)]
      rfl) (fun k e=>by
      simp only [zns]
      rw [ltF]
      simp)
    exact this
  have l7:∀ (o:List zg),znv K0 (0,r,0,0,[],0,[],0,[],[],[],o,o.length,r.2.2.2.1.map (z9 r),(r.2.2.2.1.map (z9 r)).length,[],[],[]) = some ((0,o,r.2.2.2.1.map (z9 r),List.replicate r.2.2.2.2.2.1.toNat zP,[],List.replicate r.2.1.length (-1),()),()):=fun o=>by
    exact zB4 (B:=fun k7=>zhU (znt K0) k7) h24 zP (fun i (e:List zj)=>(i,r,0,0,[],0,[],0,[],[],[],o,o.length,r.2.2.2.1.map (z9 r),(r.2.2.2.1.map (z9 r)).length,e,[],[])) (fun e=>some ((0,o,r.2.2.2.1.map (z9 r),e,[],List.replicate r.2.1.length (-1),()),())) (fun k i e hi hI hd=>by
      simp only [zhU]
      rw [hd,set1,zcv (by simp; omega)]
      rfl) (fun k e hd=>by
      simp only [zhU]
      rw [hd]
      exact l8 o e)
  let z:=(([0,0,0,0]:List Int),([0,0,0,0]:List Int))
  have l6:∀ k0 (i:Nat) (o:List zg) rooms exits items mails trades,i < r.1.length→o.length = i →
      znr K0 k0 ((i:Int),0,r,0,0,[0,0,0,0],[0,0,0,0],[],0,[],0,[],[],[],o,o.length,r.2.2.2.1.map (z9 r),(r.2.2.2.1.map (z9 r)).length,[],[],[],rooms,exits,items,mails,trades,[],[]) =
      k0 (wI ((i:Int) + 1),r,0,0,[],0,[],0,[],[],[],o ++ [(rooms,exits,items,mails,trades,List.replicate r.2.2.1.length [0,0,0,0],List.replicate r.2.2.1.length zki,[0,0,0,0],[0,0,0,0],())],o.length + (0 + 1),r.2.2.2.1.map (z9 r),(r.2.2.2.1.map (z9 r)).length,[],[],[]):=fun k0 i o rooms exits items mails trades hi hI=>by
    have:=zhx (B:=fun k6=>znq k0 k6) (len:=r.2.2.1.length) (by unfold Go.maxLen; omega) (fun j (_:Unit)=>((i:Int),j,r,0,0,[0,0,0,0],[0,0,0,0],[],0,[],0,[],[],[],o,o.length,r.2.2.2.1.map (z9 r),(r.2.2.2.1.map (z9 r)).length,[],[],[],rooms,exits,items,mails,trades,List.replicate j.toNat [0,0,0,0],List.replicate j.toNat zki))
      (fun j _=>k0 (wI ((i:Int) + 1),r,0,0,[],0,[],0,[],[],[],o ++ [(rooms,exits,items,mails,trades,List.replicate r.2.2.1.length [0,0,0,0],List.replicate r.2.2.1.length zki,[0,0,0,0],[0,0,0,0],())],o.length + (0 + 1),r.2.2.2.1.map (z9 r),(r.2.2.2.1.map (z9 r)).length,[],[],[])) (fun _ _=>True) (fun k j _ hj _ h=>by
        simp only [znq]
        have f1:zk (List.replicate 1 (zb (Ty.arr 4 tU))) 0 (zb (Ty.arr 4 tU)) = [zb (Ty.arr 4 tU)]:=rfl
        have f2:zk (List.replicate 1 (zb zY)) 0 (zb zY) = [zb zY]:=rfl
        rw [f1,f2,ltT hj,zcv (by simp; omega),zcv (by simp; omega)]
        simp only [cond_true]
        have hw:wI ((j:Int) + 1) = ((j + 1:Nat):Int):=z6l (len:=r.2.2.1.length) (by omega) (by unfold Go.maxLen; omega)
        have h':=h () trivial
        rw [hw,Int.toNat_natCast] at h'
        rw [hw,Int.toNat_natCast]
        have e1:List.replicate j ([0,0,0,0]:List Int) ++ [zb (.arr 4 tU)] = List.replicate (j + 1) [0,0,0,0]:=by rw [List.replicate_succ']; rfl
        have e2:List.replicate j zki ++ [zb zY] = List.replicate (j + 1) zki:=by rw [List.replicate_succ']
        rw [e1,e2]
        exact h') (fun k _ _=>by
        simp only [znq]
        have f0:decide (o.length + 1 ≤ lim) = true:=zcv (by omega)
        rw [ltF,Int.toNat_natCast]
        simp [f0]) () trivial
    exact this
  have hall:=zQG hb
  have l5:∀ k0 (i:Nat) (o:List zg) rooms exits items mails,i < r.1.length→o.length = i →
      znu K0 k0 ((i:Int),0,r,0,0,r.2.2.2.2.1.getD i zD,[0,0,0,0],[0,0,0,0],[],0,[],0,[],[],[],o,o.length,r.2.2.2.1.map (z9 r),(r.2.2.2.1.map (z9 r)).length,[],[],[],rooms,exits,items,mails,[],[],[]) =
      k0 (wI ((i:Int) + 1),r,0,0,[],0,[],0,[],[],[],o ++ [(rooms,exits,items,mails,List.replicate (r.2.2.2.2.1.getD i zD).2.2.2.2.1.toNat qb,List.replicate r.2.2.1.length [0,0,0,0],List.replicate r.2.2.1.length zki,[0,0,0,0],[0,0,0,0],())],o.length + (0 + 1),r.2.2.2.1.map (z9 r),(r.2.2.2.1.map (z9 r)).length,[],[],[]):=fun k0 i o rooms exits items mails hi hI=>by
    have hsl:=zvt (hall _ (qg (d:=zD) (show i < r.2.2.2.2.1.length by omega)))
    exact zB4 (B:=fun k=>zhT (znr K0 k0) k0 k) (n:=(r.2.2.2.2.1.getD i zD).2.2.2.2.1) (by omega) qb (fun j (e:List zo)=>((i:Int),j,r,0,0,r.2.2.2.2.1.getD i zD,[0,0,0,0],[0,0,0,0],[],0,[],0,[],[],[],o,o.length,r.2.2.2.1.map (z9 r),(r.2.2.2.1.map (z9 r)).length,[],[],[],rooms,exits,items,mails,e,[],[]))
      (fun e=>k0 (wI ((i:Int) + 1),r,0,0,[],0,[],0,[],[],[],o ++ [(rooms,exits,items,mails,e,List.replicate r.2.2.1.length [0,0,0,0],List.replicate r.2.2.1.length zki,[0,0,0,0],[0,0,0,0],())],o.length + (0 + 1),r.2.2.2.1.map (z9 r),(r.2.2.2.1.map (z9 r)).length,[],[],[])) (fun k j e hj hI' hd=>by
        simp only [zhT]
        rw [hd,set1,zcv (by simp; omega)]
        rfl) (fun k e hd=>by
        simp only [zhT]
        rw [hd]
        exact l6 k0 i o rooms exits items mails e hi hI)
  have l4:∀ k0 (i:Nat) (o:List zg) rooms exits items,i < r.1.length→o.length = i →
      znw K0 k0 ((i:Int),0,r,0,0,r.2.2.2.2.1.getD i zD,[0,0,0,0],[0,0,0,0],[],0,[],0,[],[],[],o,o.length,r.2.2.2.1.map (z9 r),(r.2.2.2.1.map (z9 r)).length,[],[],[],rooms,exits,items,[],[],[],[]) =
      k0 (wI ((i:Int) + 1),r,0,0,[],0,[],0,[],[],[],o ++ [(rooms,exits,items,List.replicate (r.2.2.2.2.1.getD i zD).2.2.2.1.toNat zaE,List.replicate (r.2.2.2.2.1.getD i zD).2.2.2.2.1.toNat qb,List.replicate r.2.2.1.length [0,0,0,0],List.replicate r.2.2.1.length zki,[0,0,0,0],[0,0,0,0],())],o.length + (0 + 1),r.2.2.2.1.map (z9 r),(r.2.2.2.1.map (z9 r)).length,[],[],[]):=fun k0 i o rooms exits items hi hI=>by
    have hsl:=zvt (hall _ (qg (d:=zD) (show i < r.2.2.2.2.1.length by omega)))
    exact zB4 (B:=fun k=>zhV (znu K0 k0) k0 k) (n:=(r.2.2.2.2.1.getD i zD).2.2.2.1) (by omega) zaE (fun j (e:List qh)=>((i:Int),j,r,0,0,r.2.2.2.2.1.getD i zD,[0,0,0,0],[0,0,0,0],[],0,[],0,[],[],[],o,o.length,r.2.2.2.1.map (z9 r),(r.2.2.2.1.map (z9 r)).length,[],[],[],rooms,exits,items,e,[],[],[]))
      (fun e=>k0 (wI ((i:Int) + 1),r,0,0,[],0,[],0,[],[],[],o ++ [(rooms,exits,items,e,List.replicate (r.2.2.2.2.1.getD i zD).2.2.2.2.1.toNat qb,List.replicate r.2.2.1.length [0,0,0,0],List.replicate r.2.2.1.length zki,[0,0,0,0],[0,0,0,0],())],o.length + (0 + 1),r.2.2.2.1.map (z9 r),(r.2.2.2.1.map (z9 r)).length,[],[],[])) (fun k j e hj hI' hd=>by
        simp only [zhV]
        rw [hd,set1,zcv (by simp; omega)]
        rfl) (fun k e hd=>by
        simp only [zhV]
        rw [hd]
        exact l5 k0 i o rooms exits items e hi hI)
  have l3:∀ k0 (i:Nat) (o:List zg) rooms exits,i < r.1.length→o.length = i →
      znx K0 k0 ((i:Int),0,r,0,0,r.2.2.2.2.1.getD i zD,[0,0,0,0],[0,0,0,0],[],0,[],0,[],[],[],o,o.length,r.2.2.2.1.map (z9 r),(r.2.2.2.1.map (z9 r)).length,[],[],[],rooms,exits,[],[],[],[],[]) =
      k0 (wI ((i:Int) + 1),r,0,0,[],0,[],0,[],[],[],o ++ [(rooms,exits,List.replicate (r.2.2.2.2.1.getD i zD).2.2.1.toNat zL,List.replicate (r.2.2.2.2.1.getD i zD).2.2.2.1.toNat zaE,List.replicate (r.2.2.2.2.1.getD i zD).2.2.2.2.1.toNat qb,List.replicate r.2.2.1.length [0,0,0,0],List.replicate r.2.2.1.length zki,[0,0,0,0],[0,0,0,0],())],o.length + (0 + 1),r.2.2.2.1.map (z9 r),(r.2.2.2.1.map (z9 r)).length,[],[],[]):=fun k0 i o rooms exits hi hI=>by
    have hsl:=zvt (hall _ (qg (d:=zD) (show i < r.2.2.2.2.1.length by omega)))
    exact zB4 (B:=fun k=>zhW (znw K0 k0) k0 k) (n:=(r.2.2.2.2.1.getD i zD).2.2.1) (by omega) zL (fun j (e:List z3)=>((i:Int),j,r,0,0,r.2.2.2.2.1.getD i zD,[0,0,0,0],[0,0,0,0],[],0,[],0,[],[],[],o,o.length,r.2.2.2.1.map (z9 r),(r.2.2.2.1.map (z9 r)).length,[],[],[],rooms,exits,e,[],[],[],[]))
      (fun e=>k0 (wI ((i:Int) + 1),r,0,0,[],0,[],0,[],[],[],o ++ [(rooms,exits,e,List.replicate (r.2.2.2.2.1.getD i zD).2.2.2.1.toNat zaE,List.replicate (r.2.2.2.2.1.getD i zD).2.2.2.2.1.toNat qb,List.replicate r.2.2.1.length [0,0,0,0],List.replicate r.2.2.1.length zki,[0,0,0,0],[0,0,0,0],())],o.length + (0 + 1),r.2.2.2.1.map (z9 r),(r.2.2.2.1.map (z9 r)).length,[],[],[])) (fun k j e hj hI' hd=>by
        simp only [zhW]
        rw [hd,set1,zcv (by simp; omega)]
        rfl) (fun k e hd=>by
        simp only [zhW]
        rw [hd]
        exact l4 k0 i o rooms exits e hi hI)
  have l2:∀ k0 (i:Nat) (o:List zg) rooms,i < r.1.length→o.length = i →
      zny K0 k0 ((i:Int),0,r,0,0,r.2.2.2.2.1.getD i zD,[0,0,0,0],[0,0,0,0],[],0,[],0,[],[],[],o,o.length,r.2.2.2.1.map (z9 r),(r.2.2.2.1.map (z9 r)).length,[],[],[],rooms,[],[],[],[],[],[]) =
      k0 (wI ((i:Int) + 1),r,0,0,[],0,[],0,[],[],[],o ++ [(rooms,(vl r (r.2.2.2.2.1.getD i zD)).2)],o.length + (0 + 1),r.2.2.2.1.map (z9 r),(r.2.2.2.1.map (z9 r)).length,[],[],[]):=fun k0 i o rooms hi hI=>by
    have hsl:=zvt (hall _ (qg (d:=zD) (show i < r.2.2.2.2.1.length by omega)))
    exact zB4 (B:=fun k=>zhX (znx K0 k0) k0 k) (n:=(r.2.2.2.2.1.getD i zD).2.1) (by omega) qQ (fun j (e:List z5)=>((i:Int),j,r,0,0,r.2.2.2.2.1.getD i zD,[0,0,0,0],[0,0,0,0],[],0,[],0,[],[],[],o,o.length,r.2.2.2.1.map (z9 r),(r.2.2.2.1.map (z9 r)).length,[],[],[],rooms,e,[],[],[],[],[]))
      (fun e=>k0 (wI ((i:Int) + 1),r,0,0,[],0,[],0,[],[],[],o ++ [(rooms,e,(vl r (r.2.2.2.2.1.getD i zD)).2.2)],o.length + (0 + 1),r.2.2.2.1.map (z9 r),(r.2.2.2.1.map (z9 r)).length,[],[],[])) (fun k j e hj hI' hd=>by
        simp only [zhX]
        rw [hd,set1,zcv (by simp; omega)]
        rfl) (fun k e hd=>by
        simp only [zhX]
        rw [hd]
        exact l3 k0 i o rooms e hi hI)
  let f:Nat→Nat→qP:=fun i j=>(decide (i = 0 ∧ j = 0),ByteArray.mk #[],())
  have l1:∀ k0 (i:Nat) (o:List zg),i < r.1.length→o.length = i →
      znz K0 k0 ((i:Int),0,r,0,0,r.2.2.2.2.1.getD i zD,[0,0,0,0],[0,0,0,0],[],0,[],0,[],[],[],o,o.length,r.2.2.2.1.map (z9 r),(r.2.2.2.1.map (z9 r)).length,[],[],[],[],[],[],[],[],[],[]) =
      k0 (wI ((i:Int) + 1),r,0,0,[],0,[],0,[],[],[],o ++ [((List.range (r.2.2.2.2.1.getD i zD).1.toNat).map (f i),(vl r (r.2.2.2.2.1.getD i zD)).2)],o.length + (0 + 1),r.2.2.2.1.map (z9 r),(r.2.2.2.1.map (z9 r)).length,[],[],[]):=fun k0 i o hi hI=>by
    have hsl:=zvt (hall _ (qg (d:=zD) (show i < r.2.2.2.2.1.length by omega)))
    obtain ⟨n,hn⟩:=Int.eq_ofNat_of_zero_le hsl.1.1
    have hn12:n ≤ 12:=by omega
    have := zFK (B:=fun k=>zhY (zny K0 k0) (ztx K0 k0 k) k0 k) (n:=n) (by unfold Go.maxLen; omega) (f i) (fun j (e:List qP)=>((i:Int),j,r,0,0,r.2.2.2.2.1.getD i zD,[0,0,0,0],[0,0,0,0],[],0,[],0,[],[],[],o,o.length,r.2.2.2.1.map (z9 r),(r.2.2.2.1.map (z9 r)).length,[],[],[],e,[],[],[],[],[],[]))
      (fun e=>k0 (wI ((i:Int) + 1),r,0,0,[],0,[],0,[],[],[],o ++ [(e,(vl r (r.2.2.2.2.1.getD i zD)).2)],o.length + (0 + 1),r.2.2.2.1.map (z9 r),(r.2.2.2.1.map (z9 r)).length,[],[],[])) (fun k j e hj hI'=>by
        simp only [zhY]
        rw [hn,ltT hj,set1,set1,zcv (by simp; omega),zcv (by simp; omega)]
        simp only [cond_true]
        by_cases h1:i = 0
        · by_cases h2:j = 0
          · subst h1; subst h2; rfl
          · have e1:((i:Int) == 0) = true:=by subst h1; rfl
            have e2:((j:Int) == 0) = false:=by rw [beq_eq_false_iff_ne]; omega
            have e3:f i j = (false,(zb zX).2):=by simp only [f,decide_eq_false (p:=i = 0 ∧ j = 0) (by omega)]; rfl
            rw [e1,e2,e3]; rfl
        · have e1:((i:Int) == 0) = false:=by rw [beq_eq_false_iff_ne]; omega
          have e3:f i j = (false,(zb zX).2):=by simp only [f,decide_eq_false (p:=i = 0 ∧ j = 0) (by omega)]; rfl
          rw [e1,e3]; rfl) (fun k e hI'=>by
        simp only [zhY]
        rw [hn,ltF]
        exact l2 k0 i o e hi hI)
    rw [hn,Int.toNat_natCast]
    exact this
  have l0:=zFK (B:=fun k0=>zhZ (znz K0 k0) (znv K0) k0) (n:=r.1.length) (by unfold Go.maxLen; omega) (fun i=>((List.range (r.2.2.2.2.1.getD i zD).1.toNat).map (f i),(vl r (r.2.2.2.2.1.getD i zD)).2)) (fun i (o:List zg)=>(i,r,0,0,[],0,[],0,[],[],[],o,o.length,r.2.2.2.1.map (z9 r),(r.2.2.2.1.map (z9 r)).length,[],[],[]))
    (fun o=>bif decide (0 < o.length) && decide (0 < (o.getD 0 za).1.length) then some ((0,o.set 0 ((o.getD 0 za).1.set 0 (((o.getD 0 za).1.getD 0 zbh).1,zQF,()),(o.getD 0 za).2),r.2.2.2.1.map (z9 r),List.replicate r.2.2.2.2.2.1.toNat zP,[],List.replicate r.2.1.length (-1),()),()) else none) (fun k i o hi hI=>by
      simp only [zhZ]
      rw [ltT hi,zn (by omega),zS,l1 k i o hi hI,List.length_append]
      rfl) (fun k o hI=>by
      simp only [zhZ]
      rw [ltF,cond_false]
      have e1:decide (0 < ((List.length o:Nat):Int)) = true:=decide_eq_true (by omega)
      have e2:decide (o.length ≤ Int.toNat 0) = false:=decide_eq_false (by show ¬ o.length ≤ 0; omega)
      rw [e1,e2,decide_eq_true (show 0 < o.length by omega),z26]
      simp only [cond_true,cond_false,Bool.true_and]
      by_cases h1:0 < (o.getD 0 za).1.length
      · have e3:decide (0 < ((List.length (o.getD 0 za).1:Nat):Int)) = true:=decide_eq_true (by omega)
        rw [e3,decide_eq_true h1]
        simp only [cond_true]
        have:=l7 (o.set 0 ((o.getD 0 za).1.set 0 (((o.getD 0 za).1.getD 0 zbh).1,zQF,()),(o.getD 0 za).2))
        rw [List.length_set] at this
        exact this
      · have e3:decide (0 < ((List.length (o.getD 0 za).1:Nat):Int)) = false:=decide_eq_false (by omega)
        rw [e3,decide_eq_false h1]; rfl)
  refine Eq.trans l0 ?_
  have hrm:=qcA hb
  obtain ⟨n,hn⟩:=Int.eq_ofNat_of_zero_le (show 0 ≤ (r.2.2.2.2.1.getD 0 zD).1 by omega)
  have hlen:((List.range r.1.length).map fun i=>((List.range (r.2.2.2.2.1.getD i zD).1.toNat).map (f i),(vl r (r.2.2.2.2.1.getD i zD)).2)).length = r.1.length:=by simp
  have hget:∀ i,i < r.1.length→((List.range r.1.length).map fun i=>((List.range (r.2.2.2.2.1.getD i zD).1.toNat).map (f i),(vl r (r.2.2.2.2.1.getD i zD)).2)).getD i za = ((List.range (r.2.2.2.2.1.getD i zD).1.toNat).map (f i),(vl r (r.2.2.2.2.1.getD i zD)).2):=fun i hi=>by
    simp [List.getD,hi]
  generalize ((List.range r.1.length).map fun i=>((List.range (r.2.2.2.2.1.getD i zD).1.toNat).map (f i),(vl r (r.2.2.2.2.1.getD i zD)).2)) = L at hlen hget
  have h0:=hget 0 (by omega)
  have hr0:(L.getD 0 za).1.length = n:=by rw [h0,hn,Int.toNat_natCast]; simp
  have hf0:(L.getD 0 za).1.getD 0 zbh = (true,ByteArray.mk #[],()):=by
    rw [h0,hn,Int.toNat_natCast]
    have:0 < n:=by omega
    simp [List.getD,this,f]
  rw [decide_eq_true (show 0 < L.length by omega),decide_eq_true (show 0 < (L.getD 0 za).1.length by omega),hf0]
  simp only [Bool.true_and,cond_true]
  have key:L.set 0 ((L.getD 0 za).1.set 0 (true,zQF,()),(L.getD 0 za).2) = zcz r:=by
    have hsl:(zcz r).length = r.1.length:=by
      have:=zql r
      rw [show (zaC r).2.1 = zcz r from rfl] at this
      omega
    apply List.ext_getElem
    · rw [List.length_set,hsl,hlen]
    · intro i h1 h2
      have hi:i < r.1.length:=by rw [hsl] at h2; exact h2
      have e2:=zFS (r:=r) (i:=i) (by omega)
      rw [List.getD_eq_getElem?_getD,List.getElem?_eq_getElem h2] at e2
      have e2:(zcz r)[i] = _:=e2
      rw [e2,List.getElem_set]
      by_cases e:i = 0
      · subst e
        rw [if_pos rfl,h0]
        refine Prod.ext ?_ rfl
        show ((List.range _).map (f 0)).set 0 (true,zQF,()) = zf2 r 0
        unfold zf2
        rw [if_pos rfl,hn,Int.toNat_natCast]
        apply List.ext_getElem
        · simp
        · intro j g1 g2
          rw [List.getElem_set,List.getElem_set]
          by_cases ej:0 = j
          · rw [if_pos ej,if_pos ej]
          · rw [if_neg ej,if_neg ej]
            have:decide (0 = 0 ∧ j = 0) = false:=decide_eq_false (by omega)
            rw [List.getElem_map,List.getElem_range,List.getElem_replicate]
            show (decide (0 = 0 ∧ j = 0),ByteArray.mk #[],()) = zbh
            rw [this]; rfl
      · rw [if_neg (by omega)]
        have e3:=hget i hi
        have h1':i < L.length:=by omega
        rw [List.getD_eq_getElem?_getD,List.getElem?_eq_getElem h1'] at e3
        have e3:L[i] = _:=e3
        rw [e3]
        refine Prod.ext ?_ rfl
        show (List.range _).map (f i) = zf2 r i
        unfold zf2
        rw [if_neg e]
        apply List.ext_getElem
        · simp
        · intro j g1 g2
          have:decide (i = 0 ∧ j = 0) = false:=decide_eq_false (by omega)
          rw [List.getElem_map,List.getElem_range,List.getElem_replicate]
          show (decide (i = 0 ∧ j = 0),ByteArray.mk #[],()) = zbh
          rw [this]; rfl
  rw [key]
  rfl
end Go.Proofs.YtaokpakfhdeiiaaGreatDoor
end
section
namespace Go.Proofs.YtaokpakfhdeiiaaGreatDoor
open Go.Ev
theorem zFZ:∀ {τ:Ty},τ.eqIn = true→∀ x:τ.I,eqI τ x x = true:=by
  intro τ
  induction τ with
  | unit=>intro _ _; rfl
  | bool=>intro _ x; exact beq_self_eq_true x
  | int k=>intro _ x; exact beq_self_eq_true (α:=Int) x
  | str=>intro _ x; exact beq_self_eq_true _
  | pair a b iha ihb =>
    intro h x
    simp only [Ty.eqIn,Bool.and_eq_true] at h
    simp only [eqI,iha h.1,ihb h.2,cond_true]
  | st a ih=>intro h x; exact ih h x
  | arr n a ih =>
    intro h x
    simp only [eqI,List.all_eq_true]
    intro p hp
    have:p.1 = p.2:=by
      obtain ⟨i,hi,rfl⟩:=List.mem_iff_getElem.1 hp
      rw [List.getElem_zip]
    rw [this]
    exact ih h _
  | _=>intro h; cases h
theorem zYr {α:Type} {p:α→α→Bool} (h:∀ x,p x x = true) (l:List α):eqW p l l = true:=by
  simp only [eqW,decide_true,Bool.true_and,List.all_eq_true]
  intro q hq
  have:q.1 = q.2:=by
    obtain ⟨i,hi,rfl⟩:=List.mem_iff_getElem.1 hq
    rw [List.getElem_zip]
  rw [this]; exact h _
theorem zgY {τ:Ty} (h:τ.eqIn = true) (l:List τ.I):eqL τ l l = true:=zYr (zFZ h) l
theorem z82 (x:zg):znW x x = true:=by
  simp only [znW,Bool.and_eq_true]
  exact ⟨zgY (τ:=zX) rfl _,zgY (τ:=zV) rfl _,zgY (τ:=zI) rfl _,zgY (τ:=zZ) rfl _,zgY (τ:=zu) rfl _,zgY (τ:=.arr 4 tU) rfl _,zgY (τ:=zY) rfl _,zFZ (τ:=.arr 4 tU) rfl _,zFZ (τ:=.arr 4 tU) rfl _⟩
theorem z1f (s:ze):z6p s s = true:=by
  simp only [z6p,Bool.and_eq_true]
  exact ⟨beq_self_eq_true (α:=Int) _,zYr z82 _,zYr (zgY (τ:=tI) rfl) _,zgY (τ:=zi) rfl _,zgY (τ:=zl) rfl _,zgY (τ:=tI) rfl _⟩
theorem qfu {r:zd} {s:ze} (h:zcy r s = true):qeK s:=by
  obtain ⟨hb,hz,hp⟩:=zBu h
  have ok:=j9 hb
  have sz:=zB1 hb hz
  have hmm:1000000 ≤ Go.maxLen:=by unfold Go.maxLen; omega
  have h1:=ok.labels
  have h2:=ok.lines
  have h3:=ok.accounts
  have h4:=sz.shelves
  have h5:=sz.orders
  have h6:=sz.entries
  have h7:=sz.people
  have h8:=ok.guilds
  have hh:zfg r s.2.2.1 = true:=by simp only [zdD,Bool.and_eq_true] at hp; exact hp.1
  have hr:=zYq hh
  refine ⟨by omega,by omega,by omega,by omega,by omega,fun x hx=>?_,fun l hl=>?_⟩
  · have:=sz.shelf x hx
    exact ⟨by omega,by omega,by omega,by omega,by omega,by omega,by omega⟩
  · obtain ⟨i,hi,rfl⟩:=List.mem_iff_getElem.1 hl
    have:=hr.2 i (by omega)
    rw [List.getD_eq_getElem?_getD,List.getElem?_eq_getElem hi] at this
    have this:(s.2.2.1[i]).length = _:=this
    omega
theorem qeM:qeK (0,[],[],[],[],[],()):=⟨Nat.zero_le _,Nat.zero_le _,Nat.zero_le _,Nat.zero_le _,Nat.zero_le _,fun x hx=>(by cases hx),fun x hx=>(by cases hx)⟩
theorem neS (x:Int):(x != x) = false:=by simp
theorem qgd (x:pMe):eqI tMe x x = true:=zFZ (τ:=tMe) rfl x
theorem z83 {r:zd} {s:ze} {a:jI} {c line:Int} (hr:jC r) (hc:z8V r) (hs:zdC s) (sh:zFJ s):zjk (r,s,a,c,line,()) = some (true,()):=by
  simp only [zjk,zqn]
  rw [qaN hr,zEM r hr]
  have hme:∀ (x:pMe × Int × Unit),x = (x.1,x.2.1,()):=fun x=>rfl
  cases hb:qn r with
  | false =>
    have hR:zcy r s = false:=by simp [zcy,hb]
    simp only [Option.bind_some,cond_false]
    rw [zR8 hr hs,hR]
    have hS:zcu ((0,[],[],[],[],[],()),zb zW,()) = some (true,()):=by
      rw [zUN qeM]
      exact congrArg (fun b=>some (b,())) (z1f (0,[],[],[],[],[],()))
    rw [zJH hs sh,zJI hs sh,zJK hs sh,zJL hs sh,ztA hr hs,hR,zPe hr hs,hR,z1e hr hs,hR,qbc]
    simp only [Option.bind_some,cond_false,cond_true,Bool.false_and,neS]
    rw [hS]
    rfl
  | true =>
    simp only [Option.bind_some,cond_true]
    rw [qaR hb]
    have hS:zcu ((zaC r),(zaC r),()) = some (true,()):=by
      rw [zUN (qfu (qcF hb hc)),z1f]
    have hS':zcu (((zaC r).1,(zaC r).2.1,(zaC r).2.2.1,(zaC r).2.2.2.1,(zaC r).2.2.2.2.1,(zaC r).2.2.2.2.2.1,()),((zaC r).1,(zaC r).2.1,(zaC r).2.2.1,(zaC r).2.2.2.1,(zaC r).2.2.2.2.1,(zaC r).2.2.2.2.2.1,()),()) = some (true,()):=hS
    simp only [Option.bind_some]
    rw [hS']
    simp only [Option.bind_some]
    rw [zR8 hr hs,zJH hs sh,zJI hs sh,zJK hs sh,zJL hs sh,ztA hr hs,zPe hr hs,zEQ,z1e hr hs,qbc]
    simp only [Option.bind_some,neS,cond_false]
    cases hR:zcy r s with
    | false=>rfl
    | true =>
      simp only [Bool.true_and,cond_true]
      by_cases hi:0 ≤ line ∧ line < (r.2.1.length:Int)
      · have e:=qcG hr hR hi
        rw [e,decide_eq_true hi,decide_eq_false (show ¬ line < 0 by omega),decide_eq_false (show ¬ line ≥ (r.2.1.length:Int) by omega)]
        simp only [Option.bind_some,cond_true,cond_false,qgd]
        cases zjj s a <;> simp
      · rw [decide_eq_false hi]
        by_cases h1:line < 0
        · rw [decide_eq_true h1]
          cases zjj s a <;> rfl
        · rw [decide_eq_false h1,decide_eq_true (show line ≥ (r.2.1.length:Int) by omega)]
          cases zjj s a <;> rfl
theorem zUQ {τ:Ty} (h:∀ x:τ.I,1 ≤ bkI τ x):∀ l:List τ.I,l.length ≤ (l.map (bkI τ)).sum
  | []=>Nat.zero_le _
  | x :: l=>by
    have h1:=h x
    have h2:=zUQ h l
    simp only [List.length_cons,List.map_cons,List.sum_cons]
    omega
theorem qdZ {τ:Ty} {x:τ.I}:∀ {l:List τ.I},x ∈ l→bkI τ x ≤ (l.map (bkI τ)).sum
  | y :: l,h=>by
    simp only [List.map_cons,List.sum_cons]
    rcases List.mem_cons.1 h with rfl | h
    · omega
    · have:=qdZ h
      omega
theorem z84 (x:zg):x.2.2.2.2.1.length ≤ bkI zh x ∧ 1 + x.2.2.2.2.2.1.length ≤ bkI zh x:=by
  have h1:=zUQ (τ:=zu) (fun _=>by show 1 ≤ _ + 1; omega) x.2.2.2.2.1
  have h2:=zUQ (τ:=.arr 4 tU) (fun _=>by show 1 ≤ _ + 1; omega) x.2.2.2.2.2.1
  have e:bkI zh x = (bkI (.sl zX) x.1 + (bkI (.sl zV) x.2.1 + (bkI (.sl zI) x.2.2.1 + (bkI (.sl zZ) x.2.2.2.1 + (((x.2.2.2.2.1.map (bkI zu)).sum + 1) + (((x.2.2.2.2.2.1.map (bkI (.arr 4 tU))).sum + 1) + (bkI (.sl zY) x.2.2.2.2.2.2.1 + (bkI (.arr 4 tU) x.2.2.2.2.2.2.2.1 + (bkI (.arr 4 tU) x.2.2.2.2.2.2.2.2.1 + 0))))))))) + 1:=rfl
  omega
theorem qd0:∀ l:List zg,wts l ≤ (l.map (bkI zh)).sum
  | []=>Nat.zero_le _
  | x :: l=>by
    have h1:=z84 x
    have h2:=qd0 l
    simp only [wts,List.map_cons,List.sum_cons]
    omega
theorem qeN {s:ze} {n:Nat} (h:bkI zW s ≤ n) (hn:n ≤ 2000000):zFJ s:=by
  have e:bkI zW s = (1 + (((s.2.1.map (bkI zh)).sum + 1) + (bkI (.sl (.sl tI)) s.2.2.1 + (((s.2.2.2.1.map (bkI zi)).sum + 1) + (bkI (.sl zl) s.2.2.2.2.1 + (bkI (.sl tI) s.2.2.2.2.2.1 + 0)))))) + 1:=rfl
  have h1:=zUQ (τ:=zh) (fun _=>by show 1 ≤ _ + 1; omega) s.2.1
  have h2:=zUQ (τ:=zi) (fun _=>by show 1 ≤ _ + 1; omega) s.2.2.2.1
  have h3:=qd0 s.2.1
  refine ⟨by omega,by omega,fun x hx=>?_,by omega⟩
  have h4:=z84 x
  have h5:=qdZ (τ:=zh) hx
  omega
theorem qaS {r:zd} {s:ze} {a:jI} {c line:Int} {n:Nat} (h:bkI zby (r,s,a,c,line,()) ≤ n) (hn:n ≤ 2000000):zFJ s:=by
  have e:bkI zby (r,s,a,c,line,()) = bkI zC r + (bkI zW s + (bkI zY a + (1 + (1 + 0)))):=rfl
  exact qeN (n:=n) (by omega) hn
end Go.Proofs.YtaokpakfhdeiiaaGreatDoor
end
