import Derived.Test.YtejbgeokcpillaaGreatDoorGtd
set_option linter.unusedVariables false
set_option linter.unusedSimpArgs false
section
namespace Go.Proofs.YtejbgeokcpillaaGreatDoor
open Go.Ev
noncomputable section
abbrev zeE:Type:=ByteArray × Int
abbrev zD5:zeE→St:=fun (v0,v3)=>St.mk [(0,.dat .str v0),(3,.dat tI v3)] []
def zhH (k0:zeE→Option (Bool × Unit)):zeE→Option (Bool × Unit):=fun (v0,v3) =>
  bif decide (v3 < (↑(ByteArray.size v0):Int)) then inR v3 (↑(ByteArray.size v0):Int) (Option.bind (zmu ((↑(UInt8.toNat (List.getD (Array.toList (ByteArray.data v0)) (Int.toNat v3) 0)):Int),())) fun q0=>bif q0.1 then k0 (v0,wI (v3 + 1)) else some (false,())) else some (true,())
abbrev zl2 (K:Nat):zeE→Option (Bool × Unit):=zg zhH K
theorem zD6 (K:Nat):∀ n,evV Es1 K Tryz.f307 0 (ch [.bool]) [1,1,0,1,0] [] zD5 n = zg zhH n:=zq fun n0 (v0,v3)=>by kernel_rfl
def zkA (L0:zeE→Option (Bool × Unit)):(ByteArray × Unit)→Option (Bool × Unit):=fun (x0,()) =>
  bif (↑(ByteArray.size x0):Int) == 0 then some (false,()) else bif decide ((↑(ByteArray.size x0):Int) > 40) then some (false,()) else bif decide (0 < (↑(ByteArray.size x0):Int)) then bif (↑(UInt8.toNat (List.getD (Array.toList (ByteArray.data x0)) (Int.toNat 0) 0)):Int) == 32 then some (false,()) else inR (wI ((↑(ByteArray.size x0):Int) - 1)) (↑(ByteArray.size x0):Int) (bif (↑(UInt8.toNat (List.getD (Array.toList (ByteArray.data x0)) (Int.toNat (wI ((↑(ByteArray.size x0):Int) - 1))) 0)):Int) == 32 then some (false,()) else L0 (x0,0)) else none
def zkB:(ByteArray × Unit)→Option (Bool × Unit):=zkA (zl2 K0)
abbrev zwX:Fun:=⟨307,(ch [.str]),(ch [.bool]),0,zkB⟩
theorem zIS:Sq zwX:=ml1 (d:=false) (S:=fun K=>zkA (zl2 K)) Tryz.func307 (by kernel_rfl) (fun K=>tr1 (T:=zkA) (zD6 K K) fun (x0,())=>by kernel_rfl) rfl
def zkC:(zx × Unit)→Option (Bool × Unit):=fun (x0,()) =>
  bif decide (x0.2.2.2.1.2.1 > 0) then Option.bind (jx (x0.2.1,())) fun q0=>bif q0.1 then Option.bind (jx (x0.2.2.1,())) fun q1=>bif q1.1 then bif x0.2.1 != x0.2.2.1 then Option.bind (jy (x0.2.2.2.1,())) fun q2=>bif q2.1 then Option.bind (jy (x0.2.2.2.2.1,())) fun q3=>bif q3.1 then some (true,()) else some (false,()) else some (false,()) else some (false,()) else some (false,()) else some (false,()) else bif decide (x0.2.2.2.1.2.2.1 ≥ 0) then Option.bind (jx (x0.2.1,())) fun q4=>bif q4.1 then Option.bind (jx (x0.2.2.1,())) fun q5=>bif q5.1 then bif x0.2.1 != x0.2.2.1 then Option.bind (jy (x0.2.2.2.1,())) fun q6=>bif q6.1 then Option.bind (jy (x0.2.2.2.2.1,())) fun q7=>bif q7.1 then some (true,()) else some (false,()) else some (false,()) else some (false,()) else some (false,()) else some (false,()) else bif decide (x0.2.2.2.2.1.2.1 > 0) then Option.bind (jx (x0.2.1,())) fun q8=>bif q8.1 then Option.bind (jx (x0.2.2.1,())) fun q9=>bif q9.1 then bif x0.2.1 != x0.2.2.1 then Option.bind (jy (x0.2.2.2.1,())) fun q10=>bif q10.1 then Option.bind (jy (x0.2.2.2.2.1,())) fun q11=>bif q11.1 then some (true,()) else some (false,()) else some (false,()) else some (false,()) else some (false,()) else some (false,()) else bif decide (x0.2.2.2.2.1.2.2.1 ≥ 0) then Option.bind (jx (x0.2.1,())) fun q12=>bif q12.1 then Option.bind (jx (x0.2.2.1,())) fun q13=>bif q13.1 then bif x0.2.1 != x0.2.2.1 then Option.bind (jy (x0.2.2.2.1,())) fun q14=>bif q14.1 then Option.bind (jy (x0.2.2.2.2.1,())) fun q15=>bif q15.1 then some (true,()) else some (false,()) else some (false,()) else some (false,()) else some (false,()) else some (false,()) else Option.bind (jx (x0.2.1,())) fun q16=>bif q16.1 then Option.bind (jx (x0.2.2.1,())) fun q17=>bif q17.1 then bif x0.2.1 != x0.2.2.1 then Option.bind (jy (x0.2.2.2.1,())) fun q18=>bif q18.1 then Option.bind (jy (x0.2.2.2.2.1,())) fun q19=>bif q19.1 then some (false,()) else some (false,()) else some (false,()) else some (false,()) else some (false,()) else some (false,())
abbrev zwY:Fun:=⟨308,(ch [zz]),(ch [.bool]),0,zkC⟩
theorem zIT:Sq zwY:=ms1 (d:=false) (K:=0) Tryz.func308 (by kernel_rfl) (funext fun (x0,())=>by kernel_rfl)
abbrev zf2:Type:=Int × zC × zC
abbrev zGi:zf2→St:=fun (v5,o0,o1)=>St.mk [(2,.bp 0 []),(3,.bp 1 []),(5,.dat tI v5)] [.bx (.dat zt o0) false,.bx (.dat zt o1) false]
def zf3 (k0:zf2→Option (Bool × Unit)):zf2→Option (Bool × Unit):=fun (v5,o0,o1) =>
  bif decide (v5 < 64) then Option.bind (zgg (o0,v5,())) fun q0=>bif q0.1 then Option.bind (zgg (o1,v5,())) fun q1=>bif q1.1 then k0 (wI (v5 + 1),o0,o1) else some (false,()) else k0 (wI (v5 + 1),o0,o1) else bif decide (o0.1 ≤ o1.1) then some (true,()) else some (false,())
abbrev zuN (K:Nat):zf2→Option (Bool × Unit):=zg zf3 K
theorem zGj (K:Nat):∀ n,evV Es1 K Tryz.f93 0 (ch [.bool]) [1,0,1,0] [] zGi n = zg zf3 n:=zq fun n0 (v5,o0,o1)=>by kernel_rfl
def zrL (L0:zf2→Option (Bool × Unit)):(zC × (zC × Unit))→Option (Bool × Unit):=fun (x0,x1,()) =>
  L0 (0,x0,x1)
def zrM:(zC × zC × Unit)→Option (Bool × Unit):=zrL (zuN K0)
abbrev zyW:Fun:=⟨93,(ch [zt,zt]),(ch [.bool]),0,zrM⟩
theorem zLc:Sq zyW:=ml1 (d:=false) (S:=fun K=>zrL (zuN K)) Tryz.func93 (by kernel_rfl) (fun K=>tr1 (T:=zrL) (zGj K K) fun (x0,x1,())=>by kernel_rfl) rfl
def zkD:(ze × (zp × (Int × Unit)))→Option (Bool × Unit):=fun (x0,x1,x2,()) =>
  inR x2 ((List.length x1.2.2.2.2.1):Int) (bif (ix zR x1.2.2.2.2.1 x2).1 then Option.bind (jY (x0,(ix zR x1.2.2.2.2.1 x2).2.1,())) fun q0=>bif q0.1 then Option.bind (jY (x0,(ix zR x1.2.2.2.2.1 x2).2.2.1,())) fun q1=>bif q1.1 then bif decide ((ix zR x1.2.2.2.2.1 x2).2.2.2.1.2.2.1 ≥ ((List.length x1.2.2.1):Int)) then some (false,()) else bif decide ((ix zR x1.2.2.2.2.1 x2).2.2.2.2.1.2.2.1 ≥ ((List.length x1.2.2.1):Int)) then some (false,()) else bif decide ((ix zR x1.2.2.2.2.1 x2).2.2.2.1.2.2.1 < 0) then some (true,()) else inR (ix zR x1.2.2.2.2.1 x2).2.2.2.1.2.2.1 ((List.length x1.2.2.1):Int) (bif (List.getD x1.2.2.1 (Int.toNat (ix zR x1.2.2.2.2.1 x2).2.2.2.1.2.2.1) (zd zi)).1 then bif (List.getD x1.2.2.1 (Int.toNat (ix zR x1.2.2.2.2.1 x2).2.2.2.1.2.2.1) (zd zi)).2.2.1 == 3 then bif (List.getD x1.2.2.1 (Int.toNat (ix zR x1.2.2.2.2.1 x2).2.2.2.1.2.2.1) (zd zi)).2.2.2.1 == x2 then some (true,()) else some (false,()) else some (false,()) else some (false,())) else some (false,()) else some (false,()) else some (true,()))
abbrev zwZ:Fun:=⟨247,(ch [zw,zy,tI]),(ch [.bool]),0,zkD⟩
theorem zIU:Sq zwZ:=ms1 (d:=false) (K:=0) Tryz.func247 (by kernel_rfl) (funext fun (x0,x1,x2,())=>by kernel_rfl)
abbrev zeF:Type:=(List zu) × Int × Int × Int
abbrev zD7:zeF→St:=fun (v0,v1,v6,v7)=>St.mk [(0,.dat (.sl zr) v0),(1,.dat tI v1),(6,.dat tU v6),(7,.dat tI v7)] []
def zeG (k0:zeF→Option (Int × (Int × Unit))):zeF→Option (Int × (Int × Unit)):=fun (v0,v1,v6,v7) =>
  bif decide (v7 < ((List.length v0):Int)) then inR v7 ((List.length v0):Int) (Option.bind (zi0 (ix zK v0 v7,v1,())) fun q0=>Option.bind (vY (v6,q0.1,())) fun q1=>bif q1.2.1 != 0 then some (0,q1.2.1,()) else k0 (v0,v1,q1.1,wI (v7 + 1))) else some (v6,0,())
abbrev zsK (K:Nat):zeF→Option (Int × (Int × Unit)):=zg zeG K
theorem zD8 (K:Nat):∀ n,evV Es1 K Tryz.f248 0 (ch [tU,tI]) [1,1,1,0,1,0] [] zD7 n = zg zeG n:=zq fun n0 (v0,v1,v6,v7)=>by kernel_rfl
def zkE (L0:zeF→Option (Int × (Int × Unit))):((List zu) × (Int × Unit))→Option (Int × (Int × Unit)):=fun (x0,x1,()) =>
  bif decide (x1 < 0) then some (0,1,()) else bif decide (x1 > 3) then some (0,1,()) else L0 (x0,x1,0,0)
def zkF:((List zu) × Int × Unit)→Option (Int × Int × Unit):=zkE (zsK K0)
abbrev zw0:Fun:=⟨248,(ch [(.sl zr),tI]),(ch [tU,tI]),0,zkF⟩
theorem zIV:Sq zw0:=ml1 (d:=false) (S:=fun K=>zkE (zsK K)) Tryz.func248 (by kernel_rfl) (fun K=>tr1 (T:=zkE) (zD8 K K) fun (x0,x1,())=>by kernel_rfl) rfl
abbrev zeH:Type:=(List zx) × Int × Int × Int
abbrev zD9:zeH→St:=fun (v0,v1,v6,v7)=>St.mk [(0,.dat (.sl zz) v0),(1,.dat tI v1),(6,.dat tU v6),(7,.dat tI v7)] []
def zeI (k0:zeH→Option (Int × (Int × Unit))):zeH→Option (Int × (Int × Unit)):=fun (v0,v1,v6,v7) =>
  bif decide (v7 < ((List.length v0):Int)) then inR v7 ((List.length v0):Int) (bif (ix zR v0 v7).1 then inR v7 ((List.length v0):Int) (bif (ix zR v0 v7).2.2.2.1.1 == v1 then inR v7 ((List.length v0):Int) (Option.bind (vY (v6,(ix zR v0 v7).2.2.2.1.2.1,())) fun q0=>bif q0.2.1 != 0 then some (0,q0.2.1,()) else k0 (v0,v1,q0.1,wI (v7 + 1))) else k0 (v0,v1,v6,wI (v7 + 1))) else k0 (v0,v1,v6,wI (v7 + 1))) else some (v6,0,())
abbrev zsL (K:Nat):zeH→Option (Int × (Int × Unit)):=zg zeI K
theorem zEa (K:Nat):∀ n,evV Es1 K Tryz.f249 0 (ch [tU,tI]) [1,1,1,0,1,0] [] zD9 n = zg zeI n:=zq fun n0 (v0,v1,v6,v7)=>by kernel_rfl
def zkG (L0:zeH→Option (Int × (Int × Unit))):((List zx) × (Int × Unit))→Option (Int × (Int × Unit)):=fun (x0,x1,()) =>
  bif decide (x1 < 0) then some (0,1,()) else bif decide (x1 > 3) then some (0,1,()) else L0 (x0,x1,0,0)
def zkH:((List zx) × Int × Unit)→Option (Int × Int × Unit):=zkG (zsL K0)
abbrev zw1:Fun:=⟨249,(ch [(.sl zz),tI]),(ch [tU,tI]),0,zkH⟩
theorem zIW:Sq zw1:=ml1 (d:=false) (S:=fun K=>zkG (zsL K)) Tryz.func249 (by kernel_rfl) (fun K=>tr1 (T:=zkG) (zEa K K) fun (x0,x1,())=>by kernel_rfl) rfl
abbrev zeJ:Type:=Int × Int × Int × Int × Int × zb
abbrev zsM:zeJ→St:=fun (v1,v6,v7,v8,v10,o0)=>St.mk [(1,.dat tI v1),(2,.bp 0 []),(6,.dat tU v6),(7,.dat tU v7),(8,.dat tI v8),(10,.dat tI v10)] [.bx (.dat zn o0) false]
abbrev zeK:Type:=Int × Int × Int × Int × Int × zb
abbrev zEb:zeK→St:=fun (v1,v6,v7,v8,v9,o0)=>St.mk [(1,.dat tI v1),(2,.bp 0 []),(6,.dat tU v6),(7,.dat tU v7),(8,.dat tI v8),(9,.dat tI v9)] [.bx (.dat zn o0) false]
def zeL (k1:zeJ→Option (Int × (Int × Unit))):zeJ→Option (Int × (Int × Unit)):=fun (v1,v6,v7,v8,v10,o0) =>
  bif decide (v10 < ((List.length o0.2.1):Int)) then bif v8 == 0 then inR v10 ((List.length o0.2.1):Int) (inR v1 (↑4:Int) (Option.bind (vY (v7,List.getD (ix zf o0.2.1 v10).2.2.2.2.2.2.2.2.1 (Int.toNat v1) (0:Int),())) fun q1=>k1 (v1,v6,q1.1,q1.2.1,wI (v10 + 1),o0))) else bif v8 != 0 then some (0,v8,()) else Option.bind (zf1 (v6,v7,())) fun q2=>some (q2.1,q2.2.1,()) else bif v8 != 0 then some (0,v8,()) else Option.bind (zf1 (v6,v7,())) fun q3=>some (q3.1,q3.2.1,())
abbrev zba (K:Nat):zeJ→Option (Int × (Int × Unit)):=zg zeL K
theorem zEc (K:Nat):∀ n,evV Es1 K Tryz.f165 0 (ch [tU,tI]) [1,1,1,1,1,1,0,1,0] [] zsM n = zg zeL n:=zq fun n1 (v1,v6,v7,v8,v10,o0)=>by kernel_rfl
def zbb (L1:zeJ→Option (Int × (Int × Unit))) (k0:zeK→Option (Int × (Int × Unit))):zeK→Option (Int × (Int × Unit)):=fun (v1,v6,v7,v8,v9,o0) =>
  bif decide (v9 < ((List.length o0.2.1):Int)) then bif v8 == 0 then inR v9 ((List.length o0.2.1):Int) (inR v1 (↑4:Int) (Option.bind (vY (v6,List.getD (ix zf o0.2.1 v9).2.2.2.2.2.2.2.1 (Int.toNat v1) (0:Int),())) fun q0=>k0 (v1,q0.1,v7,q0.2.1,wI (v9 + 1),o0))) else L1 (v1,v6,v7,v8,0,o0) else L1 (v1,v6,v7,v8,0,o0)
abbrev zsN (K:Nat):zeK→Option (Int × (Int × Unit)):=zg (fun k0=>zbb (zba K) k0) K
theorem zEd (K:Nat):∀ n,evV Es1 K Tryz.f165 0 (ch [tU,tI]) [1,1,1,1,1,0,1,0] [] zEb n = zg (fun k0=>zbb (zba K) k0) n:=qu (B:=fun L1 k0=>zbb L1 k0) (V1:=fun n0=>evV Es1 K Tryz.f165 0 (ch [tU,tI]) [1,1,1,1,1,1,0,1,0] [] zsM K) (W1:=fun k0=>(zba K)) (fun n0=>zEc K K) fun n0 (v1,v6,v7,v8,v9,o0)=>by kernel_rfl
def zkI (L0:zeK→Option (Int × (Int × Unit))):(zb × (Int × Unit))→Option (Int × (Int × Unit)):=fun (x0,x1,()) =>
  bif decide (x1 < 0) then some (0,1,()) else bif decide (x1 > 3) then some (0,1,()) else L0 (x1,0,0,0,0,x0)
def zkJ:(zb × Int × Unit)→Option (Int × Int × Unit):=zkI (zsN K0)
abbrev zw2:Fun:=⟨165,(ch [zn,tI]),(ch [tU,tI]),0,zkJ⟩
theorem zIX:Sq zw2:=ml1 (d:=false) (S:=fun K=>zkI (zsN K)) Tryz.func165 (by kernel_rfl) (fun K=>tr1 (T:=zkI) (zEd K K) fun (x0,x1,())=>by kernel_rfl) rfl
def zkK:(ze × (pMe × Unit))→Option (Bool × Unit):=fun (x0,x1,()) =>
  bif decide (x1.1 ≥ 0) then bif decide (x1.1 < ((List.length x0.2.1):Int)) then inR x1.1 ((List.length x0.2.1):Int) (bif x1.2.1 == ix (0:Int) x0.2.1 x1.1 then Option.bind (jY (x0,x1.2.2.1,())) fun q0=>bif q0.1 then some (true,()) else some (false,()) else some (false,())) else some (false,()) else some (false,())
abbrev zw3:Fun:=⟨83,(ch [zw,tMe]),(ch [.bool]),0,zkK⟩
theorem zIY:Sq zw3:=ms1 (d:=false) (K:=0) Tryz.func83 (by kernel_rfl) (funext fun (x0,x1,())=>by kernel_rfl)
abbrev zcP:Type:=(List zh) × Int × Int × qS × List Int
abbrev zB2:zcP→St:=fun (v8,v9,v10,o0,o1)=>St.mk [(3,.bp 0 []),(5,.ow 1),(8,.dat (.sl zi) v8),(9,.dat tI v9),(10,.dat tI v10)] [.bx (.dat qm o0) false,.row tI o1 false]
def zcQ (k0:zcP→Option ((List Int) × Unit)):zcP→Option ((List Int) × Unit):=fun (v8,v9,v10,o0,o1) =>
  bif decide (v10 < v9) then inR v10 ((List.length v8):Int) (bif (ix zj v8 v10).1 then Option.bind (zhv (ix zj v8 v10,())) fun q0=>bif eqI qm q0.1 o0 then bif decide (List.length o1 + List.length (zm (List.replicate 1 (0:Int)) 0 v10) ≤ lim) then k0 (v8,v9,wI (v10 + 1),o0,o1 ++ zm (List.replicate 1 (0:Int)) 0 v10) else none else k0 (v8,v9,wI (v10 + 1),o0,o1) else k0 (v8,v9,wI (v10 + 1),o0,o1)) else some (o1,())
abbrev zqG (K:Nat):zcP→Option ((List Int) × Unit):=zg zcQ K
theorem zB3 (K:Nat):∀ n,evV Es1 K Tryz.f89 0 (ch [(.sl tI)]) [1,1,0,1,0] [] zB2 n = zg zcQ n:=zq fun n0 (v8,v9,v10,o0,o1)=>by kernel_rfl
def znn (L0:zcP→Option ((List Int) × Unit)):((List zh) × (qS × Unit))→Option ((List Int) × Unit):=fun (x0,x1,()) =>
  L0 (x0,((List.length x0):Int),0,x1,[])
def zi2:((List zh) × qS × Unit)→Option ((List Int) × Unit):=znn (zqG K0)
abbrev zuO:Fun:=⟨89,(ch [(.sl zi),qm]),(ch [(.sl tI)]),0,zi2⟩
theorem zGk:Sq zuO:=ml1 (d:=false) (S:=fun K=>znn (zqG K)) Tryz.func89 (by kernel_rfl) (fun K=>tr1 (T:=znn) (zB3 K K) fun (x0,x1,())=>by kernel_rfl) rfl
abbrev zeM:Type:=(List zh) × Int × Int × List Int
abbrev zEe:zeM→St:=fun (v0,v1,v6,o0)=>St.mk [(0,.dat (.sl zi) v0),(1,.dat tI v1),(5,.ow 0),(6,.dat tI v6)] [.row tI o0 false]
def zeN (k0:zeM→Option ((List Int) × Unit)):zeM→Option ((List Int) × Unit):=fun (v0,v1,v6,o0) =>
  bif decide (v6 < ((List.length v0):Int)) then Option.bind (vH (v0,v6,v1,())) fun q0=>bif q0.1 then inR v6 ((List.length v0):Int) (bif eqI zv (ix zj v0 v6).2.2.2.2.1 (zd zv) then bif decide (List.length o0 + List.length (zm (List.replicate 1 (0:Int)) 0 v6) ≤ lim) then k0 (v0,v1,wI (v6 + 1),o0 ++ zm (List.replicate 1 (0:Int)) 0 v6) else none else k0 (v0,v1,wI (v6 + 1),o0)) else k0 (v0,v1,wI (v6 + 1),o0) else some (o0,())
abbrev zsO (K:Nat):zeM→Option ((List Int) × Unit):=zg zeN K
theorem zEf (K:Nat):∀ n,evV Es1 K Tryz.f51 0 (ch [(.sl tI)]) [1,1,0,1,0] [] zEe n = zg zeN n:=zq fun n0 (v0,v1,v6,o0)=>by kernel_rfl
def zpg (L0:zeM→Option ((List Int) × Unit)):((List zh) × (Int × Unit))→Option ((List Int) × Unit):=fun (x0,x1,()) =>
  L0 (x0,x1,0,[])
def zph:((List zh) × Int × Unit)→Option ((List Int) × Unit):=zpg (zsO K0)
abbrev zw4:Fun:=⟨51,(ch [(.sl zi),tI]),(ch [(.sl tI)]),0,zph⟩
theorem zIZ:Sq zw4:=ml1 (d:=false) (S:=fun K=>zpg (zsO K)) Tryz.func51 (by kernel_rfl) (fun K=>tr1 (T:=zpg) (zEf K K) fun (x0,x1,())=>by kernel_rfl) rfl
abbrev yH:Type:=Int × zp × zp
abbrev zlJ:yH→St:=fun (v6,o0,o1)=>St.mk [(2,.bp 0 []),(3,.bp 1 []),(6,.dat tI v6)] [.bx (.dat zy o0) false,.bx (.dat zy o1) false]
abbrev yI:Type:=Int × zp × zp
abbrev zvJ:yI→St:=fun (v5,o0,o1)=>St.mk [(2,.bp 0 []),(3,.bp 1 []),(5,.dat tI v5)] [.bx (.dat zy o0) false,.bx (.dat zy o1) false]
def yJ (k1:yH→Option (Bool × Unit)):yH→Option (Bool × Unit):=fun (v6,o0,o1) =>
  bif decide (v6 < ((List.length o0.2.2.2.2.2.2.1):Int)) then inR v6 ((List.length o0.2.2.2.2.2.2.1):Int) (inR v6 ((List.length o1.2.2.2.2.2.2.1):Int) (bif !eqI zv (ix zzE o0.2.2.2.2.2.2.1 v6) (ix zzE o1.2.2.2.2.2.2.1 v6) then some (false,()) else k1 (wI (v6 + 1),o0,o1))) else some (true,())
abbrev zb0 (K:Nat):yH→Option (Bool × Unit):=zg yJ K
theorem zvK (K:Nat):∀ n,evV Es1 K Tryz.f61 0 (ch [.bool]) [1,1,1,1,0,1,0] [] zlJ n = zg yJ n:=zq fun n1 (v6,o0,o1)=>by kernel_rfl
def vf (L1:yH→Option (Bool × Unit)) (k0:yI→Option (Bool × Unit)):yI→Option (Bool × Unit):=fun (v5,o0,o1) =>
  bif decide (v5 < ((List.length o0.2.2.2.2.2.1):Int)) then inR v5 ((List.length o0.2.2.2.2.2.1):Int) (inR v5 ((List.length o1.2.2.2.2.2.1):Int) (bif !eqI (.arr 4 tU) (List.getD o0.2.2.2.2.2.1 (Int.toNat v5) (zd (.arr 4 tU))) (List.getD o1.2.2.2.2.2.1 (Int.toNat v5) (zd (.arr 4 tU))) then some (false,()) else k0 (wI (v5 + 1),o0,o1))) else L1 (0,o0,o1)
abbrev zgv (K:Nat):yI→Option (Bool × Unit):=zg (fun k0=>vf (zb0 K) k0) K
theorem zvL (K:Nat):∀ n,evV Es1 K Tryz.f61 0 (ch [.bool]) [1,1,1,0,1,0] [] zvJ n = zg (fun k0=>vf (zb0 K) k0) n:=qu (B:=fun L1 k0=>vf L1 k0) (V1:=fun n0=>evV Es1 K Tryz.f61 0 (ch [.bool]) [1,1,1,1,0,1,0] [] zlJ K) (W1:=fun k0=>(zb0 K)) (fun n0=>zvK K K) fun n0 (v5,o0,o1)=>by kernel_rfl
def zd4 (L0:yI→Option (Bool × Unit)):(zp × (zp × Unit))→Option (Bool × Unit):=fun (x0,x1,()) =>
  Option.bind (zic (x0.1,x1.1,())) fun q0=>bif q0.1 then Option.bind (zie (x0.2.1,x1.2.1,())) fun q1=>bif q1.1 then Option.bind (zoW (x0.2.2.1,x1.2.2.1,())) fun q2=>bif q2.1 then Option.bind (zoY (x0.2.2.2.1,x1.2.2.2.1,())) fun q3=>bif q3.1 then Option.bind (zo0 (x0.2.2.2.2.1,x1.2.2.2.2.1,())) fun q4=>bif q4.1 then bif ((List.length x0.2.2.2.2.2.1):Int) != ((List.length x1.2.2.2.2.2.1):Int) then some (false,()) else bif ((List.length x0.2.2.2.2.2.2.1):Int) != ((List.length x1.2.2.2.2.2.2.1):Int) then some (false,()) else bif !eqI (.arr 4 tU) x0.2.2.2.2.2.2.2.1 x1.2.2.2.2.2.2.2.1 then some (false,()) else bif !eqI (.arr 4 tU) x0.2.2.2.2.2.2.2.2.1 x1.2.2.2.2.2.2.2.2.1 then some (false,()) else L0 (0,x0,x1) else some (false,()) else some (false,()) else some (false,()) else some (false,()) else some (false,())
def zd5:(zp × zp × Unit)→Option (Bool × Unit):=zd4 (zgv K0)
abbrev znW:Fun:=⟨61,(ch [zy,zy]),(ch [.bool]),0,zd5⟩
theorem zyi:Sq znW:=ml1 (d:=false) (S:=fun K=>zd4 (zgv K)) Tryz.func61 (by kernel_rfl) (fun K=>tr1 (T:=zd4) (zvL K K) fun (x0,x1,())=>by kernel_rfl) rfl
abbrev L2:List Fun:=zuJ :: zo3 :: zh4 :: znV :: zkw :: zqx :: zjV :: ziy :: zsB :: zgC :: zlI :: zo4 :: zwO :: zh5 :: ziz :: zwP :: zwQ :: ziA :: zm1 :: ziB :: zsC :: zsD :: zh6 :: zyU :: zwS :: zo5 :: zh7 :: zo6 :: zh8 :: zo7 :: zyV :: ziE :: zjW :: zo8 :: zo9 :: zpa :: zqy :: zpb :: zqz :: zBU :: zqA :: zpc :: zsF :: zsG :: zsH :: zpd :: zsI :: zsJ :: zwW :: zuK :: zuL :: zuM :: zwX :: zwY :: zyW :: zwZ :: zw0 :: zw1 :: zw2 :: zw3 :: zuO :: zw4 :: znW :: L1
theorem h2:Sds Tryz.prog E0 L2:=⟨zGe,zzO,zpV,zyh,ztY,zBR,zsA,zrG,zDX,zoa,zvI,zzP,zIL,zpW,zrH,zIM,zIN,zrI,zwR,zrJ,zDY,zDZ,zpX,zLa,zIO,zzQ,zpY,zzR,zpZ,zzS,zLb,zrK,zsE,zzT,zzU,zzV,zBS,zzW,zBT,zNg,zBV,zzX,zD0,zD1,zD2,zz0,zD3,zD4,zIR,zGf,zGg,zGh,zIS,zIT,zLc,zIU,zIV,zIW,zIX,zIY,zGk,zIZ,zyi,h1⟩
theorem ms2 {d:Bool} {F:Fun} {f:Go.Func} {K:Nat} (hf:Tryz.prog.funcs[F.id]? = some f) (ho:jq f = true) (h:evF (En E0 d L2) K f F.md F.a F.r = F.spec):Sd Tryz.prog E0 F:=mkS h2 hf ho h
theorem ml2 {d:Bool} {F:Fun} {f:Go.Func} {S:Nat→F.a.I→Option F.r.I} (hf:Tryz.prog.funcs[F.id]? = some f) (ho:jq f = true) (h:∀ K,evF (En E0 d L2) K f F.md F.a F.r = S K) (e:S K0 = F.spec):Sd Tryz.prog E0 F:=mkS h2 hf ho ((h K0).trans e)
abbrev Es2:Env:=En E0 false L2
def zmv:(zC × (zC × Unit))→Option (Int × Unit):=fun (x0,x1,()) =>
  Option.bind (zaM (x0.1,x1.1,())) fun q0=>Option.bind (ya (x0.2.1,x1.2.1,())) fun q1=>Option.bind (zeg (zm (zm (List.replicate 2 (0:Int)) 0 q0.1) 1 q1.1,())) fun q2=>some (q2.1,())
abbrev zyX:Fun:=⟨254,(ch [zt,zt]),(ch [tI]),0,zmv⟩
theorem zLd:Sq zyX:=ms2 (d:=false) (K:=0) Tryz.func254 (by kernel_rfl) (funext fun (x0,x1,())=>by kernel_rfl)
def yr:(ze × Unit)→Option (Bool × Unit):=fun (x0,()) =>
  Option.bind (qw (((List.length x0.2.1):Int),1,8,())) fun q0=>bif q0.1 then Option.bind (qN (x0.2.1,some fun z=>zcF (z.1,some x0,()),())) fun q1=>bif q1.1 then some (false,()) else some (true,()) else some (false,())
abbrev zuP:Fun:=⟨171,(ch [zw]),(ch [.bool]),0,yr⟩
theorem zGl:Sq zuP:=ms2 (d:=false) (K:=0) Tryz.func171 (by kernel_rfl) (funext fun (x0,())=>by kernel_rfl)
def zob:(ByteArray × ((Option ((Int × Unit)→Option (Bool × Unit))) × Unit))→Option (Bool × Unit):=fun (x0,x1,()) =>
  Option.bind (vo (List.map (fun b=>(↑(UInt8.toNat b):Int)) (Array.toList (ByteArray.data x0)),some fun z=>zkf (z.1,some x1,()),())) fun q0=>bif q0.1 then some (false,()) else some (true,())
abbrev zB4:Fun:=⟨225,(ch [.str,(.fn (ch [(.int .u8)]) (ch [.bool]))]),(ch [.bool]),0,zob⟩
theorem zNh:Sq zB4:=ms2 (d:=false) (K:=0) Tryz.func225 (by kernel_rfl) (funext fun (x0,x1,())=>by kernel_rfl)
abbrev zbw:Type:=Int × (List zE) × Int × Int × ze × Int
abbrev zz7:zbw→St:=fun (v4,v11,v12,v13,o0,o1)=>St.mk [(1,.bp 0 []),(3,.bp 1 []),(4,.dat tI v4),(11,.dat (.sl jt) v11),(12,.dat tI v12),(13,.dat tI v13)] [.bx (.dat zw o0) false,.bx (.dat tU o1) false]
def zbx (k0:zbw→Option (Bool × Unit)):zbw→Option (Bool × Unit):=fun (v4,v11,v12,v13,o0,o1) =>
  bif decide (v13 < v12) then inR v13 ((List.length v11):Int) (Option.bind (zkh ((ix qB v11 v13).1,())) fun q0=>bif q0.2.1 != 0 then some (false,()) else bif decide ((ix qB v11 v13).1 ≤ v4) then some (false,()) else Option.bind (qw ((ix qB v11 v13).2.1,0,wI (((List.length o0.2.2.1):Int) - 1),())) fun q1=>bif q1.1 then Option.bind (zbZ (o0.1,q0.1,())) fun q2=>bif q2.1 then k0 ((ix qB v11 v13).1,v11,v12,wI (v13 + 1),o0,wU (↑(BitVec.toNat (BitVec.ofInt (IntKind.bits IntKind.u64) o1 ||| BitVec.ofInt (IntKind.bits IntKind.u64) q0.1.2.1)):Int)) else some (false,()) else some (false,())) else bif decide (((List.length o0.2.2.2.1):Int) ≤ 8) then Option.bind (yu (o0.1,some fun z=>zjt (z.1,some o1,()),())) fun q3=>bif q3.1 then some (false,()) else some (true,()) else some (false,())
abbrev zpi (K:Nat):zbw→Option (Bool × Unit):=zg zbx K
theorem zz8 (K:Nat):∀ n,evV Es2 K Tryz.f173 0 (ch [.bool]) [1,1,1,0,1,0] [] zz7 n = zg zbx n:=zq fun n0 (v4,v11,v12,v13,o0,o1)=>by kernel_rfl
def zl3 (L0:zbw→Option (Bool × Unit)):(ze × Unit)→Option (Bool × Unit):=fun (x0,()) =>
  L0 ((-1),x0.2.2.2.1,((List.length x0.2.2.2.1):Int),0,x0,0)
def vJ:(ze × Unit)→Option (Bool × Unit):=zl3 (zpi K0)
abbrev zsP:Fun:=⟨173,(ch [zw]),(ch [.bool]),0,vJ⟩
theorem zEg:Sq zsP:=ml2 (d:=false) (S:=fun K=>zl3 (zpi K)) Tryz.func173 (by kernel_rfl) (fun K=>tr1 (T:=zl3) (zz8 K K) fun (x0,())=>by kernel_rfl) rfl
abbrev zby:Type:=Int × (List zbm) × Int × Int
abbrev zz9:zby→St:=fun (v3,v23,v24,v25)=>St.mk [(3,.dat tU v3),(23,.dat (.sl zcl) v23),(24,.dat tI v24),(25,.dat tI v25)] []
def zfK (k0:zby→Option (Bool × Unit)):zby→Option (Bool × Unit):=fun (v3,v23,v24,v25) =>
  bif decide (v25 < v24) then inR v25 ((List.length v23):Int) (bif decide ((ix qt v23 v25).2.2.2.2.2.1 > v3) then some (false,()) else Option.bind (zki (ix qt v23 v25,())) fun q0=>Option.bind (qN (q0.1,some zfD,())) fun q1=>bif q1.1 then some (false,()) else k0 (wU (v3 - (ix qt v23 v25).2.2.2.2.2.1),v23,v24,wI (v25 + 1))) else some (true,())
abbrev zjA (K:Nat):zby→Option (Bool × Unit):=zg zfK K
theorem zAa (K:Nat):∀ n,evV Es2 K Tryz.f174 0 (ch [.bool]) [1,1,1,0,1,0] [] zz9 n = zg zfK n:=zq fun n0 (v3,v23,v24,v25)=>by kernel_rfl
def zhI (L0:zby→Option (Bool × Unit)):(ze × Unit)→Option (Bool × Unit):=fun (x0,()) =>
  bif ((List.length x0.2.2.2.2.1):Int) != ((List.length x0.1):Int) then some (false,()) else bif decide (0 < ((List.length x0.2.2.2.2.1):Int)) then bif decide ((ix qt x0.2.2.2.2.1 0).1 < 1) then some (false,()) else L0 (4611686018427387904,x0.2.2.2.2.1,((List.length x0.2.2.2.2.1):Int),0) else none
def vK:(ze × Unit)→Option (Bool × Unit):=zhI (zjA K0)
abbrev zsQ:Fun:=⟨174,(ch [zw]),(ch [.bool]),0,vK⟩
theorem zEh:Sq zsQ:=ml2 (d:=false) (S:=fun K=>zhI (zjA K)) Tryz.func174 (by kernel_rfl) (fun K=>tr1 (T:=zhI) (zAa K K) fun (x0,())=>by kernel_rfl) rfl
def zif:((List zp) × ((Option ((zp × Unit)→Option (Bool × Unit))) × Unit))→Option (Bool × Unit):=fun (x0,x1,()) =>
  Option.bind (j8 (x0,some fun z=>zbT (z.1,some x1,()),())) fun q0=>bif q0.1 then some (false,()) else some (true,())
abbrev znX:Fun:=⟨102,(ch [(.sl zy),(.fn (ch [zy]) (ch [.bool]))]),(ch [.bool]),0,zif⟩
theorem zyj:Sq znX:=ms2 (d:=false) (K:=0) Tryz.func102 (by kernel_rfl) (funext fun (x0,x1,())=>by kernel_rfl)
abbrev zeO:Type:=(List qe) × (List qe) × Int × Int
abbrev zEi:zeO→St:=fun (v0,v5,v6,v7)=>St.mk [(0,.dat (.sl zU) v0),(5,.dat (.sl zU) v5),(6,.dat tI v6),(7,.dat tI v7)] []
def zeP (k0:zeO→Option (Bool × Unit)):zeO→Option (Bool × Unit):=fun (v0,v5,v6,v7) =>
  bif decide (v7 < v6) then inR v7 ((List.length v5):Int) (Option.bind (zkx (ix qh v5 v7,())) fun q0=>bif q0.1 then some (false,()) else bif (ix qh v5 v7).1 then Option.bind (zky (v0,(ix qh v5 v7).2.1,(ix qh v5 v7).2.2.2.1,())) fun q1=>bif q1.1 != v7 then some (false,()) else k0 (v0,v5,v6,wI (v7 + 1)) else k0 (v0,v5,v6,wI (v7 + 1))) else some (true,())
abbrev zsR (K:Nat):zeO→Option (Bool × Unit):=zg zeP K
theorem zEj (K:Nat):∀ n,evV Es2 K Tryz.f105 0 (ch [.bool]) [1,0,1,0] [] zEi n = zg zeP n:=zq fun n0 (v0,v5,v6,v7)=>by kernel_rfl
def zpj (L0:zeO→Option (Bool × Unit)):((List qe) × Unit)→Option (Bool × Unit):=fun (x0,()) =>
  L0 (x0,x0,((List.length x0):Int),0)
def zpk:((List qe) × Unit)→Option (Bool × Unit):=zpj (zsR K0)
abbrev zw5:Fun:=⟨105,(ch [(.sl zU)]),(ch [.bool]),0,zpk⟩
theorem zI0:Sq zw5:=ml2 (d:=false) (S:=fun K=>zpj (zsR K)) Tryz.func105 (by kernel_rfl) (fun K=>tr1 (T:=zpj) (zEj K K) fun (x0,())=>by kernel_rfl) rfl
def zmw:(zx × Unit)→Option (Bool × Unit):=fun (x0,()) =>
  Option.bind (zhw (x0.2.1,())) fun q0=>bif q0.1 then Option.bind (zhw (x0.2.2.1,())) fun q1=>bif q1.1 then bif x0.2.1 != x0.2.2.1 then Option.bind (ziC (x0.2.2.2.1,())) fun q2=>bif q2.1 then Option.bind (ziC (x0.2.2.2.2.1,())) fun q3=>bif q3.1 then Option.bind (zg1 (x0.2.2.2.1,())) fun q4=>bif q4.1 then Option.bind (zg1 (x0.2.2.2.2.1,())) fun q5=>bif q5.1 then some (false,()) else some (true,()) else some (true,()) else some (false,()) else some (false,()) else some (false,()) else some (false,()) else some (false,())
abbrev zyY:Fun:=⟨188,(ch [zz]),(ch [.bool]),0,zmw⟩
theorem zLe:Sq zyY:=ms2 (d:=false) (K:=0) Tryz.func188 (by kernel_rfl) (funext fun (x0,())=>by kernel_rfl)
def ziF:(Int × (Int × (Int × Unit)))→Option (Int × (Int × Unit)):=fun (x0,x1,x2,()) =>
  bif x0 != 1 then bif x0 != 2 then some (0,1,()) else bif x1 == 0 then some (0,1,()) else bif x2 == 0 then some (0,1,()) else Option.bind (zg4 (x1,x2,())) fun q0=>bif q0.2.1 != 0 then some (0,q0.2.1,()) else bif x0 == 2 then some (x1,0,()) else some (q0.1,0,()) else bif x1 == 0 then some (0,1,()) else bif x2 == 0 then some (0,1,()) else Option.bind (zg4 (x1,x2,())) fun q1=>bif q1.2.1 != 0 then some (0,q1.2.1,()) else bif x0 == 2 then some (x1,0,()) else some (q1.1,0,())
abbrev zyZ:Fun:=⟨279,(ch [tI,tU,tU]),(ch [tU,tI]),0,ziF⟩
theorem zLf:Sq zyZ:=ms2 (d:=false) (K:=0) Tryz.func279 (by kernel_rfl) (funext fun (x0,x1,x2,())=>by kernel_rfl)
def zi3:(zJ × (zJ × Unit))→Option (Int × Unit):=fun (x0,x1,()) =>
  Option.bind (ya (x0.1,x1.1,())) fun q0=>Option.bind (zaM (x0.2.1,x1.2.1,())) fun q1=>Option.bind (zeg (zm (zm (List.replicate 2 (0:Int)) 0 q0.1) 1 q1.1,())) fun q2=>some (q2.1,())
abbrev zuQ:Fun:=⟨193,(ch [zA,zA]),(ch [tI]),0,zi3⟩
theorem zGm:Sq zuQ:=ms2 (d:=false) (K:=0) Tryz.func193 (by kernel_rfl) (funext fun (x0,x1,())=>by kernel_rfl)
def zig:((List zu) × ((Option ((zu × Unit)→Option (Bool × Unit))) × Unit))→Option (Bool × Unit):=fun (x0,x1,()) =>
  Option.bind (j9 (x0,some fun z=>zbW (z.1,some x1,()),())) fun q0=>bif q0.1 then some (false,()) else some (true,())
abbrev znY:Fun:=⟨113,(ch [(.sl zr),(.fn (ch [zr]) (ch [.bool]))]),(ch [.bool]),0,zig⟩
theorem zyk:Sq znY:=ms2 (d:=false) (K:=0) Tryz.func113 (by kernel_rfl) (funext fun (x0,x1,())=>by kernel_rfl)
def zd6:((List zJ) × ((Option ((zJ × Unit)→Option (Bool × Unit))) × Unit))→Option (Bool × Unit):=fun (x0,x1,()) =>
  Option.bind (va (x0,some fun z=>zbX (z.1,some x1,()),())) fun q0=>bif q0.1 then some (false,()) else some (true,())
abbrev znZ:Fun:=⟨117,(ch [(.sl zA),(.fn (ch [zA]) (ch [.bool]))]),(ch [.bool]),0,zd6⟩
theorem zyl:Sq znZ:=ms2 (d:=false) (K:=0) Tryz.func117 (by kernel_rfl) (funext fun (x0,x1,())=>by kernel_rfl)
def zat:((List Int) × ((Option ((Int × Unit)→Option (Bool × Unit))) × Unit))→Option (Bool × Unit):=fun (x0,x1,()) =>
  Option.bind (qN (x0,some fun z=>zd2 (z.1,some x1,()),())) fun q0=>bif q0.1 then some (false,()) else some (true,())
abbrev zqH:Fun:=⟨119,(ch [(.sl tI),(.fn (ch [tI]) (ch [.bool]))]),(ch [.bool]),0,zat⟩
theorem zB5:Sq zqH:=ms2 (d:=false) (K:=0) Tryz.func119 (by kernel_rfl) (funext fun (x0,x1,())=>by kernel_rfl)
def yd:(zE × ((Option qW) × ((Option Int) × Unit)))→Option (Bool × Unit):=fun (x0,x1,x2,()) =>
  Option.bind x1 fun q0=>Option.bind (zfV (q0.2.1,x0,())) fun q1=>bif q1.1 then Option.bind x1 fun q2=>Option.bind x2 fun q3=>Option.bind (ziD (q2,x0.1,q3,())) fun q4=>bif q4.1 then some (true,()) else some (false,()) else some (false,())
abbrev zqI:Fun:=⟨199,(ch [zv,(.ptr qp),(.ptr tI)]),(ch [.bool]),0,yd⟩
theorem zB6:Sq zqI:=ms2 (d:=false) (K:=0) Tryz.func199 (by kernel_rfl) (funext fun (x0,x1,x2,())=>by kernel_rfl)
def zjB:((List qe) × ((Option ((qe × Unit)→Option (Bool × Unit))) × Unit))→Option (Bool × Unit):=fun (x0,x1,()) =>
  Option.bind (vp (x0,some fun z=>zcq (z.1,some x1,()),())) fun q0=>bif q0.1 then some (false,()) else some (true,())
abbrev zpl:Fun:=⟨122,(ch [(.sl zU),(.fn (ch [zU]) (ch [.bool]))]),(ch [.bool]),0,zjB⟩
theorem zAb:Sq zpl:=ms2 (d:=false) (K:=0) Tryz.func122 (by kernel_rfl) (funext fun (x0,x1,())=>by kernel_rfl)
def yV:((List zh) × ((Option ((zh × Unit)→Option (Bool × Unit))) × Unit))→Option (Bool × Unit):=fun (x0,x1,()) =>
  Option.bind (jz (x0,some fun z=>zcs (z.1,some x1,()),())) fun q0=>bif q0.1 then some (false,()) else some (true,())
abbrev zpm:Fun:=⟨124,(ch [(.sl zi),(.fn (ch [zi]) (ch [.bool]))]),(ch [.bool]),0,yV⟩
theorem zAc:Sq zpm:=ms2 (d:=false) (K:=0) Tryz.func124 (by kernel_rfl) (funext fun (x0,x1,())=>by kernel_rfl)
def zkL:((List zE) × ((Option ((zE × Unit)→Option (Bool × Unit))) × Unit))→Option (Bool × Unit):=fun (x0,x1,()) =>
  Option.bind (vI (x0,some fun z=>zd3 (z.1,some x1,()),())) fun q0=>bif q0.1 then some (false,()) else some (true,())
abbrev zqJ:Fun:=⟨126,(ch [(.sl zv),(.fn (ch [zv]) (ch [.bool]))]),(ch [.bool]),0,zkL⟩
theorem zB7:Sq zqJ:=ms2 (d:=false) (K:=0) Tryz.func126 (by kernel_rfl) (funext fun (x0,x1,())=>by kernel_rfl)
def vv:(qr × ((Option qW) × ((Option Int) × Unit)))→Option (Bool × Unit):=fun (x0,x1,x2,()) =>
  bif x0.1 then Option.bind x1 fun q0=>Option.bind x2 fun q1=>Option.bind (ziD (q0,x0.2.1,q1,())) fun q2=>bif q2.1 then Option.bind x1 fun q3=>Option.bind (qX (q3,x0.2.2.1,())) fun q4=>bif q4.1 then Option.bind x1 fun q5=>Option.bind (qX (q5,x0.2.2.2.1,())) fun q6=>bif q6.1 then some (true,()) else some (false,()) else some (false,()) else some (false,()) else some (true,())
abbrev zpn:Fun:=⟨129,(ch [zY,(.ptr qp),(.ptr tI)]),(ch [.bool]),0,vv⟩
theorem zAd:Sq zpn:=ms2 (d:=false) (K:=0) Tryz.func129 (by kernel_rfl) (funext fun (x0,x1,x2,())=>by kernel_rfl)
def yW:((List qr) × ((Option ((qr × Unit)→Option (Bool × Unit))) × Unit))→Option (Bool × Unit):=fun (x0,x1,()) =>
  Option.bind (jA (x0,some fun z=>zcu (z.1,some x1,()),())) fun q0=>bif q0.1 then some (false,()) else some (true,())
abbrev zpo:Fun:=⟨128,(ch [(.sl zY),(.fn (ch [zY]) (ch [.bool]))]),(ch [.bool]),0,yW⟩
theorem zAe:Sq zpo:=ms2 (d:=false) (K:=0) Tryz.func128 (by kernel_rfl) (funext fun (x0,x1,())=>by kernel_rfl)
def qO:((List zx) × ((Option ((zx × Unit)→Option (Bool × Unit))) × Unit))→Option (Bool × Unit):=fun (x0,x1,()) =>
  Option.bind (jl (x0,some fun z=>zbY (z.1,some x1,()),())) fun q0=>bif q0.1 then some (false,()) else some (true,())
abbrev zn0:Fun:=⟨131,(ch [(.sl zz),(.fn (ch [zz]) (ch [.bool]))]),(ch [.bool]),0,qO⟩
theorem zym:Sq zn0:=ms2 (d:=false) (K:=0) Tryz.func131 (by kernel_rfl) (funext fun (x0,x1,())=>by kernel_rfl)
abbrev yK:Type:=(Option zcm) × Int × Int × List Int
abbrev zvM:yK→St:=fun (v0,v12,v13,o0)=>St.mk [(0,.dat (.ptr vU) v0),(3,.ow 0),(12,.dat tI v12),(13,.dat tI v13)] [.row tI o0 false]
def yL (k0:yK→Option ((List Int) × Unit)):yK→Option ((List Int) × Unit):=fun (v0,v12,v13,o0) =>
  bif decide (v13 < v12) then Option.bind (yb (v0,v13,())) fun q2=>bif q2.1 then bif decide (List.length o0 + List.length (zm (List.replicate 1 (0:Int)) 0 v13) ≤ lim) then k0 (v0,v12,wI (v13 + 1),o0 ++ zm (List.replicate 1 (0:Int)) 0 v13) else none else k0 (v0,v12,wI (v13 + 1),o0) else some (o0,())
abbrev zlK (K:Nat):yK→Option ((List Int) × Unit):=zg yL K
theorem zvN (K:Nat):∀ n,evV Es2 K Tryz.f136 0 (ch [(.sl tI)]) [1,1,1,0,1,0] [] zvM n = zg yL n:=zq fun n0 (v0,v12,v13,o0)=>by kernel_rfl
def zih (L0:yK→Option ((List Int) × Unit)):((Option zcm) × Unit)→Option ((List Int) × Unit):=fun (x0,()) =>
  Option.bind (zfz (x0,())) fun q0=>bif q0.1 then Option.bind x0 fun q1=>L0 (x0,((List.length q1.1):Int),0,[]) else some ([],())
def zd7:((Option zcm) × Unit)→Option ((List Int) × Unit):=zih (zlK K0)
abbrev zn1:Fun:=⟨136,(ch [(.ptr vU)]),(ch [(.sl tI)]),0,zd7⟩
theorem zyn:Sq zn1:=ml2 (d:=false) (S:=fun K=>zih (zlK K)) Tryz.func136 (by kernel_rfl) (fun K=>tr1 (T:=zih) (zvN K K) fun (x0,())=>by kernel_rfl) rfl
def zoc:((List zu) × Unit)→Option ((Option zfn) × Unit):=fun (x0,()) =>
  Option.bind (zjv (x0,some zkq,())) fun q0=>some (q0.1,())
abbrev zB8:Fun:=⟨319,(ch [(.sl zr)]),(ch [(.ptr y7)]),0,zoc⟩
theorem zNi:Sq zB8:=ms2 (d:=false) (K:=0) Tryz.func319 (by kernel_rfl) (funext fun (x0,())=>by kernel_rfl)
abbrev yM:Type:=(Option zfn) × Int × Int × List Int
abbrev zvO:yM→St:=fun (v0,v12,v13,o0)=>St.mk [(0,.dat (.ptr y7) v0),(3,.ow 0),(12,.dat tI v12),(13,.dat tI v13)] [.row tI o0 false]
def yN (k0:yM→Option ((List Int) × Unit)):yM→Option ((List Int) × Unit):=fun (v0,v12,v13,o0) =>
  bif decide (v13 < v12) then Option.bind (zgD (v0,v13,())) fun q2=>bif q2.1 then bif decide (List.length o0 + List.length (zm (List.replicate 1 (0:Int)) 0 v13) ≤ lim) then k0 (v0,v12,wI (v13 + 1),o0 ++ zm (List.replicate 1 (0:Int)) 0 v13) else none else k0 (v0,v12,wI (v13 + 1),o0) else some (o0,())
abbrev zlL (K:Nat):yM→Option ((List Int) × Unit):=zg yN K
theorem zvP (K:Nat):∀ n,evV Es2 K Tryz.f320 0 (ch [(.sl tI)]) [1,1,1,0,1,0] [] zvO n = zg yN n:=zq fun n0 (v0,v12,v13,o0)=>by kernel_rfl
def zii (L0:yM→Option ((List Int) × Unit)):((Option zfn) × Unit)→Option ((List Int) × Unit):=fun (x0,()) =>
  Option.bind (zfA (x0,())) fun q0=>bif q0.1 then Option.bind x0 fun q1=>L0 (x0,((List.length q1.1):Int),0,[]) else some ([],())
def zij:((Option zfn) × Unit)→Option ((List Int) × Unit):=zii (zlL K0)
abbrev zn2:Fun:=⟨320,(ch [(.ptr y7)]),(ch [(.sl tI)]),0,zij⟩
theorem zyo:Sq zn2:=ml2 (d:=false) (S:=fun K=>zii (zlL K)) Tryz.func320 (by kernel_rfl) (fun K=>tr1 (T:=zii) (zvP K K) fun (x0,())=>by kernel_rfl) rfl
def zmx:((List zx) × Unit)→Option ((Option zcm) × Unit):=fun (x0,()) =>
  Option.bind (yS (x0,some ziT,())) fun q0=>some (q0.1,())
abbrev zy0:Fun:=⟨290,(ch [(.sl zz)]),(ch [(.ptr vU)]),0,zmx⟩
theorem zLg:Sq zy0:=ms2 (d:=false) (K:=0) Tryz.func290 (by kernel_rfl) (funext fun (x0,())=>by kernel_rfl)
abbrev zbz:Type:=Int × (Option ((zp × Unit)→Option ((List Int) × Unit))) × (List zp) × Int × Int × List Int
abbrev zAf:zbz→St:=fun (v1,v2,v12,v13,v14,o0)=>St.mk [(1,.dat tI v1),(2,.dat (.fn (.pair zy .unit) (.pair (.arr 4 tU) .unit)) v2),(8,.ow 0),(12,.dat (.sl zy) v12),(13,.dat tI v13),(14,.dat tI v14)] [.row tU o0 false]
def zbA (k0:zbz→Option (Int × (Int × Unit))):zbz→Option (Int × (Int × Unit)):=fun (v1,v2,v12,v13,v14,o0) =>
  bif decide (v14 < v13) then inR v14 ((List.length v12):Int) (Option.bind v2 fun q0=>Option.bind (q0 (ix zf v12 v14,())) fun q1=>inR v1 (↑4:Int) (bif decide (List.length o0 + List.length (zm (List.replicate 1 (0:Int)) 0 (ix (0:Int) q1.1 v1)) ≤ lim) then k0 (v1,v2,v12,v13,wI (v14 + 1),o0 ++ zm (List.replicate 1 (0:Int)) 0 (ix (0:Int) q1.1 v1)) else none)) else Option.bind (zhB (o0,())) fun q2=>some (q2.1,q2.2.1,())
abbrev zpp (K:Nat):zbz→Option (Int × (Int × Unit)):=zg zbA K
theorem zAg (K:Nat):∀ n,evV Es2 K Tryz.f212 0 (ch [tU,tI]) [1,1,0,1,0] [] zAf n = zg zbA n:=zq fun n0 (v1,v2,v12,v13,v14,o0)=>by kernel_rfl
def zl4 (L0:zbz→Option (Int × (Int × Unit))):(zb × (Int × ((Option ((zp × Unit)→Option ((List Int) × Unit))) × Unit)))→Option (Int × (Int × Unit)):=fun (x0,x1,x2,()) =>
  L0 (x1,x2,x0.2.1,((List.length x0.2.1):Int),0,[])
def zhJ:(zb × (Int × ((Option ((zp × Unit)→Option ((List Int) × Unit))) × Unit)))→Option (Int × Int × Unit):=zl4 (zpp K0)
abbrev zsS:Fun:=⟨212,(ch [zn,tI,(.fn (ch [zy]) (ch [(.arr 4 tU)]))]),(ch [tU,tI]),0,zhJ⟩
theorem zEk:Sq zsS:=ml2 (d:=false) (S:=fun K=>zl4 (zpp K)) Tryz.func212 (by kernel_rfl) (fun K=>tr1 (T:=zl4) (zAg K K) fun (x0,x1,x2,())=>by kernel_rfl) rfl
def zdS:((List zh) × Unit)→Option ((Option zcn) × Unit):=fun (x0,()) =>
  Option.bind (zkz (x0,some qT,())) fun q0=>some (q0.1,())
abbrev zy1:Fun:=⟨155,(ch [(.sl zi)]),(ch [(.ptr ym)]),0,zdS⟩
theorem zLh:Sq zy1:=ms2 (d:=false) (K:=0) Tryz.func155 (by kernel_rfl) (funext fun (x0,())=>by kernel_rfl)
def zhK:((Option zcn) × (zh × Unit))→Option ((List zh) × (Int × (Int × Unit))):=fun (x0,x1,()) =>
  Option.bind (zfF (x0,())) fun q0=>bif q0.2.1 != 0 then some ([],0,q0.2.1,()) else Option.bind (za9 (x0,q0.1,x1,())) fun q1=>some (q1.1,q0.1,q1.2.1,())
abbrev zsT:Fun:=⟨156,(ch [(.ptr ym),zi]),(ch [(.sl zi),tI,tI]),0,zhK⟩
theorem zEl:Sq zsT:=ms2 (d:=false) (K:=0) Tryz.func156 (by kernel_rfl) (funext fun (x0,x1,())=>by kernel_rfl)
abbrev zcR:Type:=Int × ze
abbrev zB9:zcR→St:=fun (v3,o0)=>St.mk [(1,.bp 0 []),(3,.dat tI v3)] [.bx (.dat zw o0) false]
def zgE (k0:zcR→Option (Bool × Unit)):zcR→Option (Bool × Unit):=fun (v3,o0) =>
  bif decide (v3 < ((List.length o0.2.1):Int)) then inR v3 ((List.length o0.2.1):Int) (bif decide (ix (0:Int) o0.2.1 v3 < 0) then some (false,()) else inR v3 ((List.length o0.2.1):Int) (bif decide (ix (0:Int) o0.2.1 v3 ≥ ((List.length o0.1):Int)) then some (false,()) else k0 (wI (v3 + 1),o0))) else bif ((List.length o0.2.2.2.2.1):Int) != ((List.length o0.1):Int) then some (false,()) else Option.bind (zl1 (o0.2.2.2.2.1,())) fun q3=>bif q3.1 then bif decide (o0.2.2.2.2.2.1 ≥ 0) then bif decide (o0.2.2.2.2.2.1 ≤ 24) then bif decide (o0.2.2.2.2.2.2.1 ≥ 0) then bif decide (o0.2.2.2.2.2.2.1 ≤ 48) then bif decide (o0.2.2.2.2.2.2.2.1 ≥ 1) then bif decide (o0.2.2.2.2.2.2.2.1 ≤ 4) then bif decide (o0.2.2.2.2.2.2.2.2.1 ≥ 1) then bif decide (o0.2.2.2.2.2.2.2.2.1 ≤ 16) then some (true,()) else some (false,()) else some (false,()) else some (false,()) else some (false,()) else some (false,()) else some (false,()) else some (false,()) else some (false,()) else some (false,())
abbrev zkM (K:Nat):zcR→Option (Bool × Unit):=zg zgE K
theorem zCa (K:Nat):∀ n,evV Es2 K Tryz.f160 0 (ch [.bool]) [1,1,0,1,0] [] zB9 n = zg zgE n:=zq fun n0 (v3,o0)=>by kernel_rfl
def zi4 (L0:zcR→Option (Bool × Unit)):(ze × Unit)→Option (Bool × Unit):=fun (x0,()) =>
  Option.bind (zhE (x0.1,())) fun q0=>bif q0.1 then bif decide (((List.length x0.2.1):Int) < 1) then some (false,()) else bif decide (((List.length x0.2.1):Int) > 8) then some (false,()) else Option.bind (zfI (x0.2.2.1,())) fun q1=>bif q1.1 then Option.bind (zhG (x0.2.2.2.1,x0.1,((List.length x0.2.2.1):Int),())) fun q2=>bif q2.1 then L0 (0,x0) else some (false,()) else some (false,()) else some (false,())
def zf4:(ze × Unit)→Option (Bool × Unit):=zi4 (zkM K0)
abbrev zuR:Fun:=⟨160,(ch [zw]),(ch [.bool]),0,zf4⟩
theorem zGn:Sq zuR:=ml2 (d:=false) (S:=fun K=>zi4 (zkM K)) Tryz.func160 (by kernel_rfl) (fun K=>tr1 (T:=zi4) (zCa K K) fun (x0,())=>by kernel_rfl) rfl
def ziG:(zu × Unit)→Option (Bool × Unit):=fun (x0,()) =>
  Option.bind (zg8 (x0.2.2.2.1,x0.2.2.2.2.2.2.2.1,x0.2.2.2.2.2.2.1,())) fun q0=>bif decide (x0.2.2.2.2.1 ≥ 0) then bif decide (x0.2.2.2.2.1 < 4) then bif decide (x0.2.2.2.2.2.1 ≥ 0) then bif decide (x0.2.2.2.2.2.1 < 4) then bif x0.2.2.2.2.1 != x0.2.2.2.2.2.1 then bif q0.2.1 == 0 then bif x0.2.2.2.2.2.2.2.2.1 == q0.1 then Option.bind (zix (x0.2.1,())) fun q1=>bif q1.1 then Option.bind (zix (x0.2.2.1,())) fun q2=>bif q2.1 then bif decide (x0.2.2.2.2.2.2.2.2.2.1 ≥ 0) then some (true,()) else some (false,()) else some (false,()) else some (false,()) else some (false,()) else some (false,()) else bif q0.2.1 == 0 then bif x0.2.2.2.2.2.2.2.2.1 == q0.1 then some (false,()) else some (false,()) else some (false,()) else bif q0.2.1 == 0 then bif x0.2.2.2.2.2.2.2.2.1 == q0.1 then some (false,()) else some (false,()) else some (false,()) else bif q0.2.1 == 0 then bif x0.2.2.2.2.2.2.2.2.1 == q0.1 then some (false,()) else some (false,()) else some (false,()) else bif q0.2.1 == 0 then bif x0.2.2.2.2.2.2.2.2.1 == q0.1 then some (false,()) else some (false,()) else some (false,()) else bif q0.2.1 == 0 then bif x0.2.2.2.2.2.2.2.2.1 == q0.1 then some (false,()) else some (false,()) else some (false,())
abbrev zy2:Fun:=⟨302,(ch [zr]),(ch [.bool]),0,ziG⟩
theorem zLi:Sq zy2:=ms2 (d:=false) (K:=0) Tryz.func302 (by kernel_rfl) (funext fun (x0,())=>by kernel_rfl)
def zmy:(zJ × Unit)→Option (Bool × Unit):=fun (x0,()) =>
  bif decide (x0.1 > 4611686018427387904) then some (false,()) else Option.bind (zdQ (x0.2.1,())) fun q0=>bif q0.1 then Option.bind (zdQ (x0.2.2.1,())) fun q1=>bif q1.1 then Option.bind (zdQ (x0.2.2.2.1,())) fun q2=>bif q2.1 then bif x0.2.2.2.2.1 == 3 then Option.bind (zdQ (x0.2.2.2.2.2.2.2.2.2.1,())) fun q3=>bif q3.1 then bif x0.2.2.2.2.2.1 == 0 then bif x0.2.2.2.2.2.2.1 == 0 then bif x0.2.2.2.2.2.2.2.1 == 0 then bif x0.2.2.2.2.2.2.2.2.1 == 0 then some (true,()) else some (false,()) else some (false,()) else some (false,()) else some (false,()) else some (false,()) else Option.bind (zg8 (x0.2.2.2.2.1,x0.2.2.2.2.2.2.2.1,x0.2.2.2.2.2.2.2.2.1,())) fun q4=>bif q4.2.1 == 0 then bif x0.2.2.2.2.2.2.2.2.2.1 == 0 then bif decide (x0.2.2.2.2.2.1 ≥ 0) then bif decide (x0.2.2.2.2.2.1 < 4) then bif decide (x0.2.2.2.2.2.2.1 ≥ 0) then bif decide (x0.2.2.2.2.2.2.1 < 4) then bif x0.2.2.2.2.2.1 != x0.2.2.2.2.2.2.1 then some (true,()) else some (false,()) else some (false,()) else some (false,()) else some (false,()) else some (false,()) else some (false,()) else some (false,()) else some (false,()) else some (false,()) else some (false,())
abbrev zy3:Fun:=⟨304,(ch [zA]),(ch [.bool]),0,zmy⟩
theorem zLj:Sq zy3:=ms2 (d:=false) (K:=0) Tryz.func304 (by kernel_rfl) (funext fun (x0,())=>by kernel_rfl)
abbrev zcS:Type:=(List qr) × Int
abbrev zCb:zcS→St:=fun (v0,v3)=>St.mk [(0,.dat (.sl zY) v0),(3,.dat tI v3)] []
def zcT (k0:zcS→Option (Bool × Unit)):zcS→Option (Bool × Unit):=fun (v0,v3) =>
  bif decide (v3 < ((List.length v0):Int)) then inR v3 ((List.length v0):Int) (bif (ix zaR v0 v3).1 then Option.bind (zgh ((ix zaR v0 v3).2.1,())) fun q0=>bif q0.1 then Option.bind (zgh ((ix zaR v0 v3).2.2.1,())) fun q1=>bif q1.1 then Option.bind (zgh ((ix zaR v0 v3).2.2.2.1,())) fun q2=>bif q2.1 then Option.bind (zkB ((ix zaR v0 v3).2.2.2.2.1,())) fun q3=>bif q3.1 then bif (ix zaR v0 v3).1 then k0 (v0,wI (v3 + 1)) else bif !eqI zY (ix zaR v0 v3) (zd zY) then some (false,()) else k0 (v0,wI (v3 + 1)) else some (false,()) else some (false,()) else some (false,()) else some (false,()) else bif (ix zaR v0 v3).1 then k0 (v0,wI (v3 + 1)) else bif !eqI zY (ix zaR v0 v3) (zd zY) then some (false,()) else k0 (v0,wI (v3 + 1))) else some (true,())
abbrev zqK (K:Nat):zcS→Option (Bool × Unit):=zg zcT K
theorem zCc (K:Nat):∀ n,evV Es2 K Tryz.f243 0 (ch [.bool]) [1,0,1,0] [] zCb n = zg zcT n:=zq fun n0 (v0,v3)=>by kernel_rfl
def zno (L0:zcS→Option (Bool × Unit)):((List qr) × Unit)→Option (Bool × Unit):=fun (x0,()) =>
  L0 (x0,0)
def znp:((List qr) × Unit)→Option (Bool × Unit):=zno (zqK K0)
abbrev zuS:Fun:=⟨243,(ch [(.sl zY)]),(ch [.bool]),0,znp⟩
theorem zGo:Sq zuS:=ml2 (d:=false) (S:=fun K=>zno (zqK K)) Tryz.func243 (by kernel_rfl) (fun K=>tr1 (T:=zno) (zCc K K) fun (x0,())=>by kernel_rfl) rfl
end
end Go.Proofs.YtejbgeokcpillaaGreatDoor
end
section
namespace Go.Proofs.YtejbgeokcpillaaGreatDoor
open Go.Ev
noncomputable section
abbrev zcU:Type:=(List zx) × Int
abbrev zCd:zcU→St:=fun (v0,v3)=>St.mk [(0,.dat (.sl zz) v0),(3,.dat tI v3)] []
def zcV (k0:zcU→Option (Bool × Unit)):zcU→Option (Bool × Unit):=fun (v0,v3) =>
  bif decide (v3 < ((List.length v0):Int)) then inR v3 ((List.length v0):Int) (bif (ix zR v0 v3).1 then inR v3 ((List.length v0):Int) (Option.bind (zkC (ix zR v0 v3,())) fun q0=>bif q0.1 then inR v3 ((List.length v0):Int) (bif (ix zR v0 v3).1 then k0 (v0,wI (v3 + 1)) else inR v3 ((List.length v0):Int) (bif !eqI zz (ix zR v0 v3) (zd zz) then some (false,()) else k0 (v0,wI (v3 + 1)))) else some (false,())) else inR v3 ((List.length v0):Int) (bif (ix zR v0 v3).1 then k0 (v0,wI (v3 + 1)) else inR v3 ((List.length v0):Int) (bif !eqI zz (ix zR v0 v3) (zd zz) then some (false,()) else k0 (v0,wI (v3 + 1))))) else some (true,())
abbrev zqL (K:Nat):zcU→Option (Bool × Unit):=zg zcV K
theorem zCe (K:Nat):∀ n,evV Es2 K Tryz.f244 0 (ch [.bool]) [1,0,1,0] [] zCd n = zg zcV n:=zq fun n0 (v0,v3)=>by kernel_rfl
def znq (L0:zcU→Option (Bool × Unit)):((List zx) × Unit)→Option (Bool × Unit):=fun (x0,()) =>
  L0 (x0,0)
def znr:((List zx) × Unit)→Option (Bool × Unit):=znq (zqL K0)
abbrev zuT:Fun:=⟨244,(ch [(.sl zz)]),(ch [.bool]),0,znr⟩
theorem zGp:Sq zuT:=ml2 (d:=false) (S:=fun K=>znq (zqL K)) Tryz.func244 (by kernel_rfl) (fun K=>tr1 (T:=znq) (zCe K K) fun (x0,())=>by kernel_rfl) rfl
def zgi:(ze × (Int × (Int × Unit)))→Option (Bool × Unit):=fun (x0,x1,x2,()) =>
  bif decide (x1 ≥ 0) then bif decide (x2 ≥ 0) then bif decide (x1 < ((List.length x0.1):Int)) then bif decide (x2 < ((List.length x0.1):Int)) then inR x1 ((List.length x0.1):Int) (inR x2 ((List.length x0.1):Int) (Option.bind (zrM (ix ji x0.1 x1,ix ji x0.1 x2,())) fun q0=>bif q0.1 then some (true,()) else some (false,()))) else some (false,()) else some (false,()) else some (false,()) else some (false,())
abbrev zy4:Fun:=⟨55,(ch [zw,tI,tI]),(ch [.bool]),0,zgi⟩
theorem zLk:Sq zy4:=ms2 (d:=false) (K:=0) Tryz.func55 (by kernel_rfl) (funext fun (x0,x1,x2,())=>by kernel_rfl)
abbrev zeQ:Type:=Int × Int × Int × Int × zb
abbrev zsU:zeQ→St:=fun (v1,v6,v8,v11,o0)=>St.mk [(1,.dat tI v1),(2,.bp 0 []),(6,.dat tU v6),(8,.dat tI v8),(11,.dat tI v11)] [.bx (.dat zn o0) false]
abbrev yX:Type:=Int × Int × Int × zb
abbrev zsV:yX→St:=fun (v1,v6,v8,o0)=>St.mk [(1,.dat tI v1),(2,.bp 0 []),(6,.dat tU v6),(8,.dat tI v8)] [.bx (.dat zn o0) false]
def zeR (k0:yX→Option (Int × (Int × Unit))) (k1:zeQ→Option (Int × (Int × Unit))):zeQ→Option (Int × (Int × Unit)):=fun (v1,v6,v8,v11,o0) =>
  inR v8 ((List.length o0.2.1):Int) (bif decide (v11 < ((List.length (ix zf o0.2.1 v8).2.2.2.2.2.1):Int)) then inR v8 ((List.length o0.2.1):Int) (inR v11 ((List.length (ix zf o0.2.1 v8).2.2.2.2.2.1):Int) (inR v1 (↑4:Int) (Option.bind (vY (v6,List.getD (List.getD (ix zf o0.2.1 v8).2.2.2.2.2.1 (Int.toNat v11) (zd (.arr 4 tU))) (Int.toNat v1) (0:Int),())) fun q3=>bif q3.2.1 != 0 then some (0,q3.2.1,()) else k1 (v1,q3.1,v8,wI (v11 + 1),o0)))) else k0 (v1,v6,wI (v8 + 1),o0))
abbrev zeS (K:Nat) (k0:yX→Option (Int × (Int × Unit))):zeQ→Option (Int × (Int × Unit)):=zg (fun k1=>zeR k0 k1) K
theorem zEm (K:Nat) (n0:Nat):∀ n,evV Es2 K Tryz.f164 0 (ch [tU,tI]) [1,1,1,0,1,0,0,1,0,0,1,1,1,1,1,0] [n0] zsU n = zg (fun k1=>zeR (evV Es2 K Tryz.f164 0 (ch [tU,tI]) [1,1,1,0,1,0] [] zsV n0) k1) n:=zq fun n1 (v1,v6,v8,v11,o0)=>by kernel_rfl
def zbc (L1:zeQ→Option (Int × (Int × Unit))) (k0:yX→Option (Int × (Int × Unit))):yX→Option (Int × (Int × Unit)):=fun (v1,v6,v8,o0) =>
  bif decide (v8 < ((List.length o0.2.1):Int)) then inR v8 ((List.length o0.2.1):Int) (Option.bind (zkH ((ix zf o0.2.1 v8).2.2.2.2.1,v1,())) fun q1=>bif q1.2.1 != 0 then some (0,q1.2.1,()) else Option.bind (vY (v6,q1.1,())) fun q2=>bif q2.2.1 != 0 then some (0,q2.2.1,()) else L1 (v1,q2.1,v8,0,o0)) else some (v6,0,())
abbrev zsW (K:Nat):yX→Option (Int × (Int × Unit)):=zg (fun k0=>zbc (zeS K k0) k0) K
theorem zEn (K:Nat):∀ n,evV Es2 K Tryz.f164 0 (ch [tU,tI]) [1,1,1,0,1,0] [] zsV n = zg (fun k0=>zbc (zeS K k0) k0) n:=qu (B:=fun L1 k0=>zbc L1 k0) (V1:=fun n0=>evV Es2 K Tryz.f164 0 (ch [tU,tI]) [1,1,1,0,1,0,0,1,0,0,1,1,1,1,1,0] [n0] zsU K) (W1:=fun k0=>(zeS K k0)) (fun n0=>zEm K n0 K) fun n0 (v1,v6,v8,o0)=>by kernel_rfl
def zkN (L0:yX→Option (Int × (Int × Unit))):(zb × (Int × Unit))→Option (Int × (Int × Unit)):=fun (x0,x1,()) =>
  Option.bind (zkF (x0.2.2.2.1,x1,())) fun q0=>bif q0.2.1 != 0 then some (0,q0.2.1,()) else L0 (x1,q0.1,0,x0)
def zkO:(zb × Int × Unit)→Option (Int × Int × Unit):=zkN (zsW K0)
abbrev zw6:Fun:=⟨164,(ch [zn,tI]),(ch [tU,tI]),0,zkO⟩
theorem zI1:Sq zw6:=ml2 (d:=false) (S:=fun K=>zkN (zsW K)) Tryz.func164 (by kernel_rfl) (fun K=>tr1 (T:=zkN) (zEn K K) fun (x0,x1,())=>by kernel_rfl) rfl
abbrev zeT:Type:=(List zh) × ByteArray × Int × Int
abbrev zEo:zeT→St:=fun (v0,v1,v2,v9)=>St.mk [(0,.dat (.sl zi) v0),(1,.dat .str v1),(2,.dat tI v2),(9,.dat tI v9)] []
def zeU (k0:zeT→Option ((List zh) × (Int × (Int × Unit)))):zeT→Option ((List zh) × (Int × (Int × Unit))):=fun (v0,v1,v2,v9) =>
  bif decide (v9 < ((List.length v0):Int)) then inR v9 ((List.length v0):Int) (bif (ix zj v0 v9).1 then k0 (v0,v1,v2,wI (v9 + 1)) else Option.bind (za4 (v0,v9,(true,v1,1,v2,(zd zi).2.2.2.2),())) fun q3=>some (q3.1,v9,0,())) else some ([],0,8,())
abbrev zsX (K:Nat):zeT→Option ((List zh) × (Int × (Int × Unit))):=zg zeU K
theorem zEp (K:Nat):∀ n,evV Es2 K Tryz.f41 0 (ch [(.sl zi),tI,tI]) [1,1,1,0,1,0] [] zEo n = zg zeU n:=zq fun n0 (v0,v1,v2,v9)=>by kernel_rfl
def zkP (L0:zeT→Option ((List zh) × (Int × (Int × Unit)))):((List zh) × (ByteArray × (Int × Unit)))→Option ((List zh) × (Int × (Int × Unit))):=fun (x0,x1,x2,()) =>
  Option.bind (yq (x0,())) fun q0=>bif q0.1 then Option.bind (vn (x2,())) fun q1=>bif q1.1 then Option.bind (zH (x1,())) fun q2=>bif q2.1 then L0 (x0,x1,x2,0) else some ([],0,2,()) else some ([],0,1,()) else some ([],0,1,())
def zkQ:((List zh) × ByteArray × Int × Unit)→Option ((List zh) × Int × Int × Unit):=zkP (zsX K0)
abbrev zw7:Fun:=⟨41,(ch [(.sl zi),.str,tI]),(ch [(.sl zi),tI,tI]),0,zkQ⟩
theorem zI2:Sq zw7:=ml2 (d:=false) (S:=fun K=>zkP (zsX K)) Tryz.func41 (by kernel_rfl) (fun K=>tr1 (T:=zkP) (zEp K K) fun (x0,x1,x2,())=>by kernel_rfl) rfl
def zi5:((List zh) × (Int × (Int × Unit)))→Option ((List zh) × (Int × Unit)):=fun (x0,x1,x2,()) =>
  Option.bind (yq (x0,())) fun q0=>bif q0.1 then Option.bind (vn (x2,())) fun q1=>bif q1.1 then Option.bind (vH (x0,x1,x2,())) fun q2=>bif q2.1 then Option.bind (za4 (x0,x1,zd zi,())) fun q3=>some (q3.1,0,()) else some ([],3,()) else some ([],1,()) else some ([],1,())
abbrev zuU:Fun:=⟨42,(ch [(.sl zi),tI,tI]),(ch [(.sl zi),tI]),0,zi5⟩
theorem zGq:Sq zuU:=ms2 (d:=false) (K:=0) Tryz.func42 (by kernel_rfl) (funext fun (x0,x1,x2,())=>by kernel_rfl)
def zkR:((List zh) × (Int × (Int × (zE × Unit))))→Option ((List zh) × (Int × Unit)):=fun (x0,x1,x2,x3,()) =>
  Option.bind (yq (x0,())) fun q0=>bif q0.1 then Option.bind (vn (x2,())) fun q1=>bif q1.1 then Option.bind (qx (x3,())) fun q2=>bif q2.1 then Option.bind (vH (x0,x1,x2,())) fun q3=>bif q3.1 then inR x1 ((List.length x0):Int) (Option.bind (za4 (x0,x1,(true,(ix zj x0 x1).2.1,2,(zd zi).2.2.2.1,x3,(zd zi).2.2.2.2.2),())) fun q4=>some (q4.1,0,())) else some ([],3,()) else some ([],1,()) else some ([],1,()) else some ([],1,())
abbrev zw8:Fun:=⟨43,(ch [(.sl zi),tI,tI,zv]),(ch [(.sl zi),tI]),0,zkR⟩
theorem zI3:Sq zw8:=ms2 (d:=false) (K:=0) Tryz.func43 (by kernel_rfl) (funext fun (x0,x1,x2,x3,())=>by kernel_rfl)
def zkS:((List zh) × (Int × (Int × (zE × Unit))))→Option ((List zh) × (Int × Unit)):=fun (x0,x1,x2,x3,()) =>
  Option.bind (yq (x0,())) fun q0=>bif q0.1 then Option.bind (vn (x2,())) fun q1=>bif q1.1 then Option.bind (qx (x3,())) fun q2=>bif q2.1 then bif decide (x1 < 0) then some ([],3,()) else bif decide (x1 ≥ ((List.length x0):Int)) then some ([],3,()) else inR x1 ((List.length x0):Int) (bif (ix zj x0 x1).1 then inR x1 ((List.length x0):Int) (bif (ix zj x0 x1).2.2.1 != 2 then some ([],3,()) else inR x1 ((List.length x0):Int) (bif !eqI zv (ix zj x0 x1).2.2.2.2.1 x3 then some ([],3,()) else inR x1 ((List.length x0):Int) (Option.bind (za4 (x0,x1,(true,(ix zj x0 x1).2.1,1,x2,(zd zi).2.2.2.2),())) fun q3=>some (q3.1,0,())))) else some ([],3,())) else some ([],1,()) else some ([],1,()) else some ([],1,())
abbrev zw9:Fun:=⟨45,(ch [(.sl zi),tI,tI,zv]),(ch [(.sl zi),tI]),0,zkS⟩
theorem zI4:Sq zw9:=ms2 (d:=false) (K:=0) Tryz.func45 (by kernel_rfl) (funext fun (x0,x1,x2,x3,())=>by kernel_rfl)
def zkT:((List zh) × (Int × (Int × (Int × (Int × Unit)))))→Option ((List zh) × (Int × Unit)):=fun (x0,x1,x2,x3,x4,()) =>
  Option.bind (yq (x0,())) fun q0=>bif q0.1 then Option.bind (vn (x2,())) fun q1=>bif q1.1 then Option.bind (vn (x4,())) fun q2=>bif q2.1 then Option.bind (vH (x0,x1,x2,())) fun q3=>bif q3.1 then inR x1 ((List.length x0):Int) (Option.bind (za4 (x0,x1,(true,(ix zj x0 x1).2.1,x3,x4,(zd zi).2.2.2.2),())) fun q4=>some (q4.1,0,())) else some ([],3,()) else some ([],1,()) else some ([],1,()) else some ([],1,())
abbrev zxa:Fun:=⟨47,(ch [(.sl zi),tI,tI,tI,tI]),(ch [(.sl zi),tI]),0,zkT⟩
theorem zI5:Sq zxa:=ms2 (d:=false) (K:=0) Tryz.func47 (by kernel_rfl) (funext fun (x0,x1,x2,x3,x4,())=>by kernel_rfl)
def zkU:((List zh) × (Int × Unit))→Option ((List Int) × Unit):=fun (x0,x1,()) =>
  Option.bind (j4 (x1,())) fun q0=>Option.bind (zi2 (x0,q0.1,())) fun q1=>some (q1.1,())
abbrev zxb:Fun:=⟨49,(ch [(.sl zi),tI]),(ch [(.sl tI)]),0,zkU⟩
theorem zI6:Sq zxb:=ms2 (d:=false) (K:=0) Tryz.func49 (by kernel_rfl) (funext fun (x0,x1,())=>by kernel_rfl)
def zi6:((List zh) × (zE × Unit))→Option ((List Int) × Unit):=fun (x0,x1,()) =>
  Option.bind (zeo (x1,())) fun q0=>Option.bind (zi2 (x0,q0.1,())) fun q1=>some (q1.1,())
abbrev zuV:Fun:=⟨53,(ch [(.sl zi),zv]),(ch [(.sl tI)]),0,zi6⟩
theorem zGr:Sq zuV:=ms2 (d:=false) (K:=0) Tryz.func53 (by kernel_rfl) (funext fun (x0,x1,())=>by kernel_rfl)
abbrev zeV:Type:=Int × zb × zb
abbrev zsY:zeV→St:=fun (v6,o0,o1)=>St.mk [(2,.bp 0 []),(3,.bp 1 []),(6,.dat tI v6)] [.bx (.dat zn o0) false,.bx (.dat zn o1) false]
abbrev zeW:Type:=Int × zb × zb
abbrev zEq:zeW→St:=fun (v5,o0,o1)=>St.mk [(2,.bp 0 []),(3,.bp 1 []),(5,.dat tI v5)] [.bx (.dat zn o0) false,.bx (.dat zn o1) false]
def zeX (k1:zeV→Option (Bool × Unit)):zeV→Option (Bool × Unit):=fun (v6,o0,o1) =>
  bif decide (v6 < ((List.length o0.2.2.2.2.2.1):Int)) then inR v6 ((List.length o0.2.2.2.2.2.1):Int) (inR v6 ((List.length o1.2.2.2.2.2.1):Int) (bif ix (0:Int) o0.2.2.2.2.2.1 v6 != ix (0:Int) o1.2.2.2.2.2.1 v6 then some (false,()) else k1 (wI (v6 + 1),o0,o1))) else some (true,())
abbrev zhL (K:Nat):zeV→Option (Bool × Unit):=zg zeX K
theorem zEr (K:Nat):∀ n,evV Es2 K Tryz.f14 0 (ch [.bool]) [1,1,1,0,1,0] [] zsY n = zg zeX n:=zq fun n1 (v6,o0,o1)=>by kernel_rfl
def zbd (L1:zeV→Option (Bool × Unit)) (k0:zeW→Option (Bool × Unit)):zeW→Option (Bool × Unit):=fun (v5,o0,o1) =>
  bif decide (v5 < ((List.length o0.2.1):Int)) then inR v5 ((List.length o0.2.1):Int) (inR v5 ((List.length o1.2.1):Int) (Option.bind (zd5 (ix zf o0.2.1 v5,ix zf o1.2.1 v5,())) fun q3=>bif q3.1 then k0 (wI (v5 + 1),o0,o1) else some (false,()))) else L1 (0,o0,o1)
abbrev zl5 (K:Nat):zeW→Option (Bool × Unit):=zg (fun k0=>zbd (zhL K) k0) K
theorem zEs (K:Nat):∀ n,evV Es2 K Tryz.f14 0 (ch [.bool]) [1,1,0,1,0] [] zEq n = zg (fun k0=>zbd (zhL K) k0) n:=qu (B:=fun L1 k0=>zbd L1 k0) (V1:=fun n0=>evV Es2 K Tryz.f14 0 (ch [.bool]) [1,1,1,0,1,0] [] zsY K) (W1:=fun k0=>(zhL K)) (fun n0=>zEr K K) fun n0 (v5,o0,o1)=>by kernel_rfl
def zkV (L0:zeW→Option (Bool × Unit)):(zb × (zb × Unit))→Option (Bool × Unit):=fun (x0,x1,()) =>
  bif x0.1 != x1.1 then some (false,()) else bif ((List.length x0.2.1):Int) != ((List.length x1.2.1):Int) then some (false,()) else bif ((List.length x0.2.2.2.2.2.1):Int) != ((List.length x1.2.2.2.2.2.1):Int) then some (false,()) else Option.bind (zoQ (x0.2.2.1,x1.2.2.1,())) fun q0=>bif q0.1 then Option.bind (zoS (x0.2.2.2.1,x1.2.2.2.1,())) fun q1=>bif q1.1 then Option.bind (zoU (x0.2.2.2.2.1,x1.2.2.2.2.1,())) fun q2=>bif q2.1 then L0 (0,x0,x1) else some (false,()) else some (false,()) else some (false,())
def zeY:(zb × zb × Unit)→Option (Bool × Unit):=zkV (zl5 K0)
abbrev zxc:Fun:=⟨14,(ch [zn,zn]),(ch [.bool]),0,zeY⟩
theorem zI7:Sq zxc:=ml2 (d:=false) (S:=fun K=>zkV (zl5 K)) Tryz.func14 (by kernel_rfl) (fun K=>tr1 (T:=zkV) (zEs K K) fun (x0,x1,())=>by kernel_rfl) rfl
abbrev L3:List Fun:=zyX :: zuP :: zB4 :: zsP :: zsQ :: znX :: zw5 :: zyY :: zyZ :: zuQ :: znY :: znZ :: zqH :: zqI :: zpl :: zpm :: zqJ :: zpn :: zpo :: zn0 :: zn1 :: zB8 :: zn2 :: zy0 :: zsS :: zy1 :: zsT :: zuR :: zy2 :: zy3 :: zuS :: zuT :: zy4 :: zw6 :: zw7 :: zuU :: zw8 :: zw9 :: zxa :: zxb :: zuV :: zxc :: L2
theorem h3:Sds Tryz.prog E0 L3:=⟨zLd,zGl,zNh,zEg,zEh,zyj,zI0,zLe,zLf,zGm,zyk,zyl,zB5,zB6,zAb,zAc,zB7,zAd,zAe,zym,zyn,zNi,zyo,zLg,zEk,zLh,zEl,zGn,zLi,zLj,zGo,zGp,zLk,zI1,zI2,zGq,zI3,zI4,zI5,zI6,zGr,zI7,h2⟩
theorem ms3 {d:Bool} {F:Fun} {f:Go.Func} {K:Nat} (hf:Tryz.prog.funcs[F.id]? = some f) (ho:jq f = true) (h:evF (En E0 d L3) K f F.md F.a F.r = F.spec):Sd Tryz.prog E0 F:=mkS h3 hf ho h
theorem ml3 {d:Bool} {F:Fun} {f:Go.Func} {S:Nat→F.a.I→Option F.r.I} (hf:Tryz.prog.funcs[F.id]? = some f) (ho:jq f = true) (h:∀ K,evF (En E0 d L3) K f F.md F.a F.r = S K) (e:S K0 = F.spec):Sd Tryz.prog E0 F:=mkS h3 hf ho ((h K0).trans e)
abbrev Es3:Env:=En E0 false L3
abbrev zbB:Type:=Int × ze
abbrev zAh:zbB→St:=fun (v4,o0)=>St.mk [(1,.bp 0 []),(4,.dat tI v4)] [.bx (.dat zw o0) false]
def zfL (k0:zbB→Option (Bool × Unit)):zbB→Option (Bool × Unit):=fun (v4,o0) =>
  bif decide (v4 < ((List.length o0.1):Int)) then inR (wI (v4 - 1)) ((List.length o0.1):Int) (inR v4 ((List.length o0.1):Int) (Option.bind (zmv (List.getD o0.1 (Int.toNat (wI (v4 - 1))) (zd zt),ix ji o0.1 v4,())) fun q2=>bif decide (q2.1 ≥ 0) then some (false,()) else k0 (wI (v4 + 1),o0))) else some (true,())
abbrev zjC (K:Nat):zbB→Option (Bool × Unit):=zg zfL K
theorem zAi (K:Nat):∀ n,evV Es3 K Tryz.f170 0 (ch [.bool]) [1,1,1,0,1,0] [] zAh n = zg zfL n:=zq fun n0 (v4,o0)=>by kernel_rfl
def zhM (L0:zbB→Option (Bool × Unit)):(ze × Unit)→Option (Bool × Unit):=fun (x0,()) =>
  Option.bind (qw (((List.length x0.1):Int),1,8,())) fun q0=>bif q0.1 then bif decide (0 < ((List.length x0.1):Int)) then bif !eqI zt (ix ji x0.1 0) (zd zt) then some (false,()) else Option.bind (yu (x0.1,some zfC,())) fun q1=>bif q1.1 then some (false,()) else L0 (1,x0) else none else some (false,())
def vL:(ze × Unit)→Option (Bool × Unit):=zhM (zjC K0)
abbrev zsZ:Fun:=⟨170,(ch [zw]),(ch [.bool]),0,vL⟩
theorem zEt:Sq zsZ:=ml3 (d:=false) (S:=fun K=>zhM (zjC K)) Tryz.func170 (by kernel_rfl) (fun K=>tr1 (T:=zhM) (zAi K K) fun (x0,())=>by kernel_rfl) rfl
def zak:(ByteArray × Unit)→Option (Bool × Unit):=fun (x0,()) =>
  bif decide ((↑(ByteArray.size x0):Int) < 1) then some (false,()) else bif decide ((↑(ByteArray.size x0):Int) > 12) then some (false,()) else bif decide (0 < (↑(ByteArray.size x0):Int)) then Option.bind (zgX ((↑(UInt8.toNat (List.getD (Array.toList (ByteArray.data x0)) (Int.toNat 0) 0)):Int),())) fun q0=>bif q0.1 then Option.bind (zob (x0,some zhz,())) fun q1=>bif q1.1 then some (true,()) else some (false,()) else some (false,()) else none
abbrev zxd:Fun:=⟨154,(ch [.str]),(ch [.bool]),0,zak⟩
theorem zI8:Sq zxd:=ms3 (d:=false) (K:=0) Tryz.func154 (by kernel_rfl) (funext fun (x0,())=>by kernel_rfl)
def zmz:(ByteArray × Unit)→Option (Bool × Unit):=fun (x0,()) =>
  bif decide ((↑(ByteArray.size x0):Int) ≥ 1) then bif decide ((↑(ByteArray.size x0):Int) ≤ 40) then Option.bind (zob (x0,some zkl,())) fun q0=>bif q0.1 then Option.bind (zhA (x0,ByteArray.mk #[32],())) fun q1=>bif ByteArray.toList q1.1 == ByteArray.toList x0 then some (true,()) else some (false,()) else some (false,()) else some (false,()) else some (false,())
abbrev zy5:Fun:=⟨273,(ch [.str]),(ch [.bool]),0,zmz⟩
theorem zLl:Sq zy5:=ms3 (d:=false) (K:=0) Tryz.func273 (by kernel_rfl) (funext fun (x0,())=>by kernel_rfl)
def zgF:(zx × Unit)→Option (Bool × Unit):=fun (x0,()) =>
  bif x0.1 then Option.bind (zmw (x0,())) fun q0=>bif q0.1 then some (false,()) else some (true,()) else bif !eqI zz x0 (zd zz) then some (true,()) else some (false,())
abbrev zqM:Fun:=⟨187,(ch [zz]),(ch [.bool]),0,zgF⟩
theorem zCf:Sq zqM:=ms3 (d:=false) (K:=0) Tryz.func187 (by kernel_rfl) (funext fun (x0,())=>by kernel_rfl)
def zod:(zu × Unit)→Option (Bool × Unit):=fun (x0,()) =>
  Option.bind (ziF (x0.2.2.2.1,x0.2.2.2.2.2.2.2.1,x0.2.2.2.2.2.2.1,())) fun q0=>bif q0.2.1 == 0 then bif q0.1 == x0.2.2.2.2.2.2.2.2.1 then Option.bind (zmT (x0.2.1,())) fun q1=>bif q1.1 then Option.bind (zmT (x0.2.2.1,())) fun q2=>bif q2.1 then Option.bind (ju (x0.2.2.2.2.1,())) fun q3=>bif q3.1 then Option.bind (ju (x0.2.2.2.2.2.1,())) fun q4=>bif q4.1 then bif x0.2.2.2.2.1 != x0.2.2.2.2.2.1 then bif decide (x0.2.2.2.2.2.2.2.2.2.1 ≥ 0) then some (true,()) else some (false,()) else some (false,()) else some (false,()) else some (false,()) else some (false,()) else some (false,()) else some (false,()) else some (false,())
abbrev zCg:Fun:=⟨191,(ch [zr]),(ch [.bool]),0,zod⟩
theorem zNj:Sq zCg:=ms3 (d:=false) (K:=0) Tryz.func191 (by kernel_rfl) (funext fun (x0,())=>by kernel_rfl)
def zmA:(zJ × Unit)→Option (Bool × Unit):=fun (x0,()) =>
  bif decide (x0.1 > 4611686018427387904) then some (false,()) else Option.bind (zfv (x0.2.1,())) fun q0=>bif q0.1 then Option.bind (zfv (x0.2.2.1,())) fun q1=>bif q1.1 then Option.bind (zfv (x0.2.2.2.1,())) fun q2=>bif q2.1 then Option.bind (zfv (x0.2.2.2.2.2.2.2.2.2.1,())) fun q3=>bif q3.1 then bif x0.2.2.2.2.1 == 3 then bif eqI zA x0 (x0.1,x0.2.1,x0.2.2.1,x0.2.2.2.1,x0.2.2.2.2.1,(zd zA).2.2.2.2.2.1,(zd zA).2.2.2.2.2.2.1,(zd zA).2.2.2.2.2.2.2.1,(zd zA).2.2.2.2.2.2.2.2.1,x0.2.2.2.2.2.2.2.2.2.1,(zd zA).2.2.2.2.2.2.2.2.2.2) then some (true,()) else some (false,()) else Option.bind (ziF (x0.2.2.2.2.1,x0.2.2.2.2.2.2.2.1,x0.2.2.2.2.2.2.2.2.1,())) fun q4=>bif q4.2.1 == 0 then bif x0.2.2.2.2.2.2.2.2.2.1 == 0 then bif x0.2.2.2.2.2.1 != x0.2.2.2.2.2.2.1 then Option.bind (ju (x0.2.2.2.2.2.1,())) fun q5=>bif q5.1 then Option.bind (ju (x0.2.2.2.2.2.2.1,())) fun q6=>bif q6.1 then some (true,()) else some (false,()) else some (false,()) else some (false,()) else some (false,()) else some (false,()) else some (false,()) else some (false,()) else some (false,()) else some (false,())
abbrev zy6:Fun:=⟨192,(ch [zA]),(ch [.bool]),0,zmA⟩
theorem zLm:Sq zy6:=ms3 (d:=false) (K:=0) Tryz.func192 (by kernel_rfl) (funext fun (x0,())=>by kernel_rfl)
def zns:(qW × (Int × Unit))→Option ((Option ((zE × Unit)→Option (Bool × Unit))) × Unit):=fun (x0,x1,()) =>
  some (some fun z=>yd (z.1,some x0,some x1,()),())
abbrev zuW:Fun:=⟨121,(ch [qp,tI]),(ch [(.fn (ch [zv]) (ch [.bool]))]),0,zns⟩
theorem zGs:Sq zuW:=ms3 (d:=false) (K:=0) Tryz.func121 (by kernel_rfl) (funext fun (x0,x1,())=>by kernel_rfl)
abbrev vw:Type:=(List zp) × Int × Int × qW
abbrev zAj:vw→St:=fun (v10,v11,v12,o0)=>St.mk [(1,.bp 0 []),(10,.dat (.sl zy) v10),(11,.dat tI v11),(12,.dat tI v12)] [.bx (.dat qp o0) true]
abbrev zfM:Type:=(List zp) × Int × Int × qW
abbrev zAk:zfM→St:=fun (v10,v11,v12,o0)=>St.mk [(1,.bp 0 []),(10,.dat (.sl zy) v10),(11,.dat tI v11),(12,.dat tI v12)] [.bx (.dat qp o0) false]
def qY (k1:vw→Option (Bool × Unit)):vw→Option (Bool × Unit):=fun (v10,v11,v12,o0) =>
  bif decide (v12 < v11) then inR v12 ((List.length v10):Int) (Option.bind (yV ((ix zf v10 v12).2.2.1,some fun z=>zbp (z.1,some o0,()),())) fun q3=>bif q3.1 then Option.bind (yW ((ix zf v10 v12).2.2.2.1,some fun z=>vv (z.1,some o0,some v12,()),())) fun q4=>bif q4.1 then Option.bind (qO ((ix zf v10 v12).2.2.2.2.1,some fun z=>qM (z.1,some o0,()),())) fun q5=>bif q5.1 then k1 (v10,v11,wI (v12 + 1),o0) else some (false,()) else Option.bind (qO ((ix zf v10 v12).2.2.2.2.1,some fun z=>qM (z.1,some o0,()),())) fun q6=>bif q6.1 then some (false,()) else some (false,()) else Option.bind (yW ((ix zf v10 v12).2.2.2.1,some fun z=>vv (z.1,some o0,some v12,()),())) fun q7=>bif q7.1 then Option.bind (qO ((ix zf v10 v12).2.2.2.2.1,some fun z=>qM (z.1,some o0,()),())) fun q8=>bif q8.1 then some (false,()) else some (false,()) else Option.bind (qO ((ix zf v10 v12).2.2.2.2.1,some fun z=>qM (z.1,some o0,()),())) fun q9=>bif q9.1 then some (false,()) else some (false,())) else some (true,())
theorem zAl (K:Nat):∀ n,evV Es3 K Tryz.f66 0 (ch [.bool]) [1,0,1,0] [] zAj n = zg qY n:=zq fun n1 (v10,v11,v12,o0)=>by kernel_rfl
def zpq (k1:vw→Option (Bool × Unit)):zfM→Option (Bool × Unit):=fun (v10,v11,v12,o0) =>
  bif decide (v12 < v11) then inR v12 ((List.length v10):Int) (Option.bind (yV ((ix zf v10 v12).2.2.1,some fun z=>zbp (z.1,some o0,()),())) fun q0=>bif q0.1 then Option.bind (yW ((ix zf v10 v12).2.2.2.1,some fun z=>vv (z.1,some o0,some v12,()),())) fun q1=>bif q1.1 then Option.bind (qO ((ix zf v10 v12).2.2.2.2.1,some fun z=>qM (z.1,some o0,()),())) fun q2=>bif q2.1 then k1 (v10,v11,wI (v12 + 1),o0) else some (false,()) else Option.bind (qO ((ix zf v10 v12).2.2.2.2.1,some fun z=>qM (z.1,some o0,()),())) fun q10=>bif q10.1 then some (false,()) else some (false,()) else Option.bind (yW ((ix zf v10 v12).2.2.2.1,some fun z=>vv (z.1,some o0,some v12,()),())) fun q11=>bif q11.1 then Option.bind (qO ((ix zf v10 v12).2.2.2.2.1,some fun z=>qM (z.1,some o0,()),())) fun q12=>bif q12.1 then some (false,()) else some (false,()) else Option.bind (qO ((ix zf v10 v12).2.2.2.2.1,some fun z=>qM (z.1,some o0,()),())) fun q13=>bif q13.1 then some (false,()) else some (false,())) else some (true,())
abbrev zpr (K:Nat):zfM→Option (Bool × Unit):=zBq zpq qY K
theorem zAm (K:Nat):∀ n,evV Es3 K Tryz.f66 0 (ch [.bool]) [1,0,1,0] [] zAk n = zBq zpq qY n:=zOD (zAl K) fun n0 (v10,v11,v12,o0)=>by kernel_rfl
def zl6 (L0:zfM→Option (Bool × Unit)):(qW × Unit)→Option (Bool × Unit):=fun (x0,()) =>
  L0 (x0.2.1.2.1,((List.length x0.2.1.2.1):Int),0,x0)
def zbe:(qW × Unit)→Option (Bool × Unit):=zl6 (zpr K0)
abbrev zs0:Fun:=⟨66,(ch [qp]),(ch [.bool]),0,zbe⟩
theorem zEu:Sq zs0:=ml3 (d:=false) (S:=fun K=>zl6 (zpr K)) Tryz.func66 (by kernel_rfl) (fun K=>tr1 (T:=zl6) (zAm K K) fun (x0,())=>by kernel_rfl) rfl
abbrev zcW:Type:=(List zp) × Int × Int × (List Int) × Int × Int × zp
abbrev zqN:zcW→St:=fun (v14,v15,v16,v55,v56,v57,o0)=>St.mk [(4,.bp 0 []),(14,.dat (.sl zy) v14),(15,.dat tI v15),(16,.dat tI v16),(55,.dat (.sl tI) v55),(56,.dat tI v56),(57,.dat tI v57)] [.bx (.dat zy o0) false]
abbrev zcX:Type:=(Option zcm) × (List zp) × Int × Int × (List zh) × Int × Int × zp
abbrev zqO:zcX→St:=fun (v5,v14,v15,v16,v24,v25,v26,o0)=>St.mk [(4,.bp 0 []),(5,.dat (.ptr vU) v5),(14,.dat (.sl zy) v14),(15,.dat tI v15),(16,.dat tI v16),(24,.dat (.sl zi) v24),(25,.dat tI v25),(26,.dat tI v26)] [.bx (.dat zy o0) false]
abbrev jJ:Type:=(List zp) × Int × Int
abbrev zau:jJ→St:=fun (v14,v15,v16)=>St.mk [(14,.dat (.sl zy) v14),(15,.dat tI v15),(16,.dat tI v16)] []
def zcY (k0:jJ→Option (Bool × Unit)) (k2:zcW→Option (Bool × Unit)):zcW→Option (Bool × Unit):=fun (v14,v15,v16,v55,v56,v57,o0) =>
  bif decide (v57 < v56) then inR v57 ((List.length v55):Int) (inR (ix (0:Int) v55 v57) ((List.length o0.2.2.2.2.1):Int) (inR (ix (0:Int) v55 v57) ((List.length o0.2.2.2.2.1):Int) (bif decide ((List.getD o0.2.2.2.2.1 (Int.toNat (ix (0:Int) v55 v57)) (zd zz)).2.2.2.1.2.2.1 ≥ ((List.length o0.2.2.1):Int)) then some (false,()) else bif decide ((List.getD o0.2.2.2.2.1 (Int.toNat (ix (0:Int) v55 v57)) (zd zz)).2.2.2.2.1.2.2.1 ≥ ((List.length o0.2.2.1):Int)) then some (false,()) else bif decide ((List.getD o0.2.2.2.2.1 (Int.toNat (ix (0:Int) v55 v57)) (zd zz)).2.2.2.1.2.2.1 ≥ 0) then inR (List.getD o0.2.2.2.2.1 (Int.toNat (ix (0:Int) v55 v57)) (zd zz)).2.2.2.1.2.2.1 ((List.length o0.2.2.1):Int) (bif (List.getD o0.2.2.1 (Int.toNat (List.getD o0.2.2.2.2.1 (Int.toNat (ix (0:Int) v55 v57)) (zd zz)).2.2.2.1.2.2.1) (zd zi)).2.2.1 != 3 then some (false,()) else inR (List.getD o0.2.2.2.2.1 (Int.toNat (ix (0:Int) v55 v57)) (zd zz)).2.2.2.1.2.2.1 ((List.length o0.2.2.1):Int) (bif (List.getD o0.2.2.1 (Int.toNat (List.getD o0.2.2.2.2.1 (Int.toNat (ix (0:Int) v55 v57)) (zd zz)).2.2.2.1.2.2.1) (zd zi)).2.2.2.1 != ix (0:Int) v55 v57 then some (false,()) else k2 (v14,v15,v16,v55,v56,wI (v57 + 1),o0))) else k2 (v14,v15,v16,v55,v56,wI (v57 + 1),o0)))) else k0 (v14,v15,wI (v16 + 1))
abbrev zcZ (K:Nat) (k0:jJ→Option (Bool × Unit)):zcW→Option (Bool × Unit):=zg (fun k2=>zcY k0 k2) K
theorem zCh (K:Nat) (n0:Nat):∀ n,evV Es3 K Tryz.f67 0 (ch [.bool]) [1,0,1,0,0,1,1,0,0,1,1,1,1,0] [n0] zqN n = zg (fun k2=>zcY (evV Es3 K Tryz.f67 0 (ch [.bool]) [1,0,1,0] [] zau n0) k2) n:=zq fun n2 (v14,v15,v16,v55,v56,v57,o0)=>by kernel_rfl
def zav (L2:zcW→Option (Bool × Unit)) (k0:jJ→Option (Bool × Unit)) (k1:zcX→Option (Bool × Unit)):zcX→Option (Bool × Unit):=fun (v5,v14,v15,v16,v24,v25,v26,o0) =>
  bif decide (v26 < v25) then inR v26 ((List.length v24):Int) (bif (ix zj v24 v26).2.2.1 == 3 then Option.bind (yb (v5,(ix zj v24 v26).2.2.2.1,())) fun q1=>bif q1.1 then inR (ix zj v24 v26).2.2.2.1 ((List.length o0.2.2.2.2.1):Int) (bif (List.getD o0.2.2.2.2.1 (Int.toNat (ix zj v24 v26).2.2.2.1) (zd zz)).2.2.2.1.2.2.1 != v26 then some (false,()) else k1 (v5,v14,v15,v16,v24,v25,wI (v26 + 1),o0)) else some (false,()) else k1 (v5,v14,v15,v16,v24,v25,wI (v26 + 1),o0)) else Option.bind (zd7 (v5,())) fun q2=>L2 (v14,v15,v16,q2.1,((List.length q2.1):Int),0,o0)
abbrev zc0 (K:Nat) (k0:jJ→Option (Bool × Unit)):zcX→Option (Bool × Unit):=zg (fun k1=>zav (zcZ K k0) k0 k1) K
theorem zCi (K:Nat) (n0:Nat):∀ n,evV Es3 K Tryz.f67 0 (ch [.bool]) [1,0,1,0,0,1,1,0,0,1,1,0,1,0] [n0] zqO n = zg (fun k1=>zav (zcZ K (evV Es3 K Tryz.f67 0 (ch [.bool]) [1,0,1,0] [] zau n0)) (evV Es3 K Tryz.f67 0 (ch [.bool]) [1,0,1,0] [] zau n0) k1) n:=qu (B:=fun L2 k1=>zav L2 (evV Es3 K Tryz.f67 0 (ch [.bool]) [1,0,1,0] [] zau n0) k1) (V1:=fun n1=>evV Es3 K Tryz.f67 0 (ch [.bool]) [1,0,1,0,0,1,1,0,0,1,1,1,1,0] [n0] zqN K) (W1:=fun k1=>(zcZ K (evV Es3 K Tryz.f67 0 (ch [.bool]) [1,0,1,0] [] zau n0))) (fun n1=>zCh K n0 K) fun n1 (v5,v14,v15,v16,v24,v25,v26,o0)=>by kernel_rfl
def zaw (L1:zcX→Option (Bool × Unit)) (k0:jJ→Option (Bool × Unit)):jJ→Option (Bool × Unit):=fun (v14,v15,v16) =>
  bif decide (v16 < v15) then inR v16 ((List.length v14):Int) (Option.bind (yS ((ix zf v14 v16).2.2.2.2.1,some vX,())) fun q0=>L1 (q0.1,v14,v15,v16,(ix zf v14 v16).2.2.1,((List.length (ix zf v14 v16).2.2.1):Int),0,ix zf v14 v16)) else some (true,())
abbrev zqP (K:Nat):jJ→Option (Bool × Unit):=zg (fun k0=>zaw (zc0 K k0) k0) K
theorem zCj (K:Nat):∀ n,evV Es3 K Tryz.f67 0 (ch [.bool]) [1,0,1,0] [] zau n = zg (fun k0=>zaw (zc0 K k0) k0) n:=qu (B:=fun L1 k0=>zaw L1 k0) (V1:=fun n0=>evV Es3 K Tryz.f67 0 (ch [.bool]) [1,0,1,0,0,1,1,0,0,1,1,0,1,0] [n0] zqO K) (W1:=fun k0=>(zc0 K k0)) (fun n0=>zCi K n0 K) fun n0 (v14,v15,v16)=>by kernel_rfl
def znt (L0:jJ→Option (Bool × Unit)):(qW × Unit)→Option (Bool × Unit):=fun (x0,()) =>
  L0 (x0.2.1.2.1,((List.length x0.2.1.2.1):Int),0)
def zf5:(qW × Unit)→Option (Bool × Unit):=znt (zqP K0)
abbrev zuX:Fun:=⟨67,(ch [qp]),(ch [.bool]),0,zf5⟩
theorem zGt:Sq zuX:=ml3 (d:=false) (S:=fun K=>znt (zqP K)) Tryz.func67 (by kernel_rfl) (fun K=>tr1 (T:=znt) (zCj K K) fun (x0,())=>by kernel_rfl) rfl
def zkW:((List zu) × Unit)→Option ((List Int) × Unit):=fun (x0,()) =>
  Option.bind (zoc (x0,())) fun q0=>Option.bind (zij (q0.1,())) fun q1=>some (q1.1,())
abbrev zxe:Fun:=⟨288,(ch [(.sl zr)]),(ch [(.sl tI)]),0,zkW⟩
theorem zI9:Sq zxe:=ms3 (d:=false) (K:=0) Tryz.func288 (by kernel_rfl) (funext fun (x0,())=>by kernel_rfl)
abbrev zeZ:Type:=(List zx) × Int × (List Int) × Int × Int × List Int
abbrev zEv:zeZ→St:=fun (v0,v1,v14,v15,v16,o0)=>St.mk [(0,.dat (.sl zz) v0),(1,.dat tI v1),(6,.ow 0),(14,.dat (.sl tI) v14),(15,.dat tI v15),(16,.dat tI v16)] [.row tU o0 false]
def ze0 (k0:zeZ→Option (Int × (Int × Unit))):zeZ→Option (Int × (Int × Unit)):=fun (v0,v1,v14,v15,v16,o0) =>
  bif decide (v16 < v15) then inR v16 ((List.length v14):Int) (inR (ix (0:Int) v14 v16) ((List.length v0):Int) (bif (List.getD v0 (Int.toNat (ix (0:Int) v14 v16)) (zd zz)).2.2.2.1.1 == v1 then inR (ix (0:Int) v14 v16) ((List.length v0):Int) (bif decide (List.length o0 + List.length (zm (List.replicate 1 (0:Int)) 0 (List.getD v0 (Int.toNat (ix (0:Int) v14 v16)) (zd zz)).2.2.2.1.2.1) ≤ lim) then k0 (v0,v1,v14,v15,wI (v16 + 1),o0 ++ zm (List.replicate 1 (0:Int)) 0 (List.getD v0 (Int.toNat (ix (0:Int) v14 v16)) (zd zz)).2.2.2.1.2.1) else none) else k0 (v0,v1,v14,v15,wI (v16 + 1),o0))) else Option.bind (zhB (o0,())) fun q3=>some (q3.1,q3.2.1,())
abbrev zs1 (K:Nat):zeZ→Option (Int × (Int × Unit)):=zg ze0 K
theorem zEw (K:Nat):∀ n,evV Es3 K Tryz.f210 0 (ch [tU,tI]) [1,1,1,0,1,0] [] zEv n = zg ze0 n:=zq fun n0 (v0,v1,v14,v15,v16,o0)=>by kernel_rfl
def zkX (L0:zeZ→Option (Int × (Int × Unit))):((List zx) × (Int × Unit))→Option (Int × (Int × Unit)):=fun (x0,x1,()) =>
  Option.bind (ju (x1,())) fun q0=>bif q0.1 then Option.bind (zmx (x0,())) fun q1=>Option.bind (zd7 (q1.1,())) fun q2=>L0 (x0,x1,q2.1,((List.length q2.1):Int),0,[]) else some (0,1,())
def zkY:((List zx) × Int × Unit)→Option (Int × Int × Unit):=zkX (zs1 K0)
abbrev zxf:Fun:=⟨210,(ch [(.sl zz),tI]),(ch [tU,tI]),0,zkY⟩
theorem zJa:Sq zxf:=ml3 (d:=false) (S:=fun K=>zkX (zs1 K)) Tryz.func210 (by kernel_rfl) (fun K=>tr1 (T:=zkX) (zEw K K) fun (x0,x1,())=>by kernel_rfl) rfl
def zkZ:(zb × (Int × Unit))→Option (Int × (Int × Unit)):=fun (x0,x1,()) =>
  Option.bind (ju (x1,())) fun q0=>bif q0.1 then Option.bind (zhJ (x0,x1,some zlX,())) fun q1=>bif q1.2.1 != 0 then some (0,q1.2.1,()) else Option.bind (zhJ (x0,x1,some zlY,())) fun q2=>bif q2.2.1 != 0 then some (0,q2.2.1,()) else Option.bind (zkr (q1.1,q2.1,())) fun q3=>some (q3.1,q3.2.1,()) else some (0,1,())
abbrev zxg:Fun:=⟨138,(ch [zn,tI]),(ch [tU,tI]),0,zkZ⟩
theorem zJb:Sq zxg:=ms3 (d:=false) (K:=0) Tryz.func138 (by kernel_rfl) (funext fun (x0,x1,())=>by kernel_rfl)
abbrev zc1:Type:=(List (List Int)) × Int × Int × ze
abbrev zqQ:zc1→St:=fun (v1,v5,v6,o0)=>St.mk [(1,.dat (.sl (.sl tI)) v1),(2,.bp 0 []),(5,.dat tI v5),(6,.dat tI v6)] [.bx (.dat zw o0) false]
abbrev ye:Type:=(List (List Int)) × Int × ze
abbrev zqR:ye→St:=fun (v1,v5,o0)=>St.mk [(1,.dat (.sl (.sl tI)) v1),(2,.bp 0 []),(5,.dat tI v5)] [.bx (.dat zw o0) false]
def zgG (k0:ye→Option (Bool × Unit)) (k1:zc1→Option (Bool × Unit)):zc1→Option (Bool × Unit):=fun (v1,v5,v6,o0) =>
  inR v5 ((List.length v1):Int) (bif decide (v6 < ((List.length (List.getD v1 (Int.toNat v5) ([]:List Int))):Int)) then inR v5 ((List.length v1):Int) (inR v6 ((List.length (List.getD v1 (Int.toNat v5) ([]:List Int))):Int) (bif decide (List.getD (List.getD v1 (Int.toNat v5) ([]:List Int)) (Int.toNat v6) (0:Int) < 0) then some (false,()) else inR v5 ((List.length v1):Int) (inR v6 ((List.length (List.getD v1 (Int.toNat v5) ([]:List Int))):Int) (bif decide (List.getD (List.getD v1 (Int.toNat v5) ([]:List Int)) (Int.toNat v6) (0:Int) > 2) then some (false,()) else k1 (v1,v5,wI (v6 + 1),o0))))) else k0 (v1,wI (v5 + 1),o0))
abbrev zgH (K:Nat) (k0:ye→Option (Bool × Unit)):zc1→Option (Bool × Unit):=zg (fun k1=>zgG k0 k1) K
theorem zCk (K:Nat) (n0:Nat):∀ n,evV Es3 K Tryz.f237 0 (ch [.bool]) [1,1,0,1,0,0,1,0,0,1,1,0] [n0] zqQ n = zg (fun k1=>zgG (evV Es3 K Tryz.f237 0 (ch [.bool]) [1,1,0,1,0] [] zqR n0) k1) n:=zq fun n1 (v1,v5,v6,o0)=>by kernel_rfl
def zc2 (L1:zc1→Option (Bool × Unit)) (k0:ye→Option (Bool × Unit)):ye→Option (Bool × Unit):=fun (v1,v5,o0) =>
  bif decide (v5 < ((List.length v1):Int)) then inR v5 ((List.length v1):Int) (bif ((List.length (List.getD v1 (Int.toNat v5) ([]:List Int))):Int) != ((List.length o0.2.2.1):Int) then some (false,()) else inR v5 ((List.length v1):Int) (inR v5 ((List.length o0.2.2.2.1):Int) (inR (ix qB o0.2.2.2.1 v5).2.1 ((List.length (List.getD v1 (Int.toNat v5) ([]:List Int))):Int) (bif List.getD (List.getD v1 (Int.toNat v5) ([]:List Int)) (Int.toNat (ix qB o0.2.2.2.1 v5).2.1) (0:Int) != 2 then some (false,()) else L1 (v1,v5,0,o0))))) else some (true,())
abbrev zk0 (K:Nat):ye→Option (Bool × Unit):=zg (fun k0=>zc2 (zgH K k0) k0) K
theorem zCl (K:Nat):∀ n,evV Es3 K Tryz.f237 0 (ch [.bool]) [1,1,0,1,0] [] zqR n = zg (fun k0=>zc2 (zgH K k0) k0) n:=qu (B:=fun L1 k0=>zc2 L1 k0) (V1:=fun n0=>evV Es3 K Tryz.f237 0 (ch [.bool]) [1,1,0,1,0,0,1,0,0,1,1,0] [n0] zqQ K) (W1:=fun k0=>(zgH K k0)) (fun n0=>zCk K n0 K) fun n0 (v1,v5,o0)=>by kernel_rfl
def zi7 (L0:ye→Option (Bool × Unit)):(ze × ((List (List Int)) × Unit))→Option (Bool × Unit):=fun (x0,x1,()) =>
  Option.bind (zf4 (x0,())) fun q0=>bif q0.1 then bif ((List.length x1):Int) != ((List.length x0.2.2.2.1):Int) then some (false,()) else L0 (x1,0,x0) else some (false,())
def zi8:(ze × (List (List Int)) × Unit)→Option (Bool × Unit):=zi7 (zk0 K0)
abbrev zuY:Fun:=⟨237,(ch [zw,(.sl (.sl tI))]),(ch [.bool]),0,zi8⟩
theorem zGu:Sq zuY:=ml3 (d:=false) (S:=fun K=>zi7 (zk0 K)) Tryz.func237 (by kernel_rfl) (fun K=>tr1 (T:=zi7) (zCl K K) fun (x0,x1,())=>by kernel_rfl) rfl
abbrev zc3:Type:=(List zu) × Int
abbrev zCm:zc3→St:=fun (v0,v3)=>St.mk [(0,.dat (.sl zr) v0),(3,.dat tI v3)] []
def zc4 (k0:zc3→Option (Bool × Unit)):zc3→Option (Bool × Unit):=fun (v0,v3) =>
  bif decide (v3 < ((List.length v0):Int)) then inR v3 ((List.length v0):Int) (bif (ix zK v0 v3).1 then inR v3 ((List.length v0):Int) (bif (ix zK v0 v3).1 then inR v3 ((List.length v0):Int) (Option.bind (ziG (ix zK v0 v3,())) fun q0=>bif q0.1 then inR v3 ((List.length v0):Int) (Option.bind (zmt (v0,v3,(ix zK v0 v3).2.2.2.2.2.2.2.2.2.1,())) fun q1=>bif q1.1 then some (false,()) else k0 (v0,wI (v3 + 1))) else some (false,())) else k0 (v0,wI (v3 + 1))) else inR v3 ((List.length v0):Int) (bif !eqI zr (ix zK v0 v3) (zd zr) then some (false,()) else inR v3 ((List.length v0):Int) (bif (ix zK v0 v3).1 then inR v3 ((List.length v0):Int) (Option.bind (ziG (ix zK v0 v3,())) fun q2=>bif q2.1 then inR v3 ((List.length v0):Int) (Option.bind (zmt (v0,v3,(ix zK v0 v3).2.2.2.2.2.2.2.2.2.1,())) fun q3=>bif q3.1 then some (false,()) else k0 (v0,wI (v3 + 1))) else some (false,())) else k0 (v0,wI (v3 + 1))))) else some (true,())
abbrev zqS (K:Nat):zc3→Option (Bool × Unit):=zg zc4 K
theorem zCn (K:Nat):∀ n,evV Es3 K Tryz.f238 0 (ch [.bool]) [1,0,1,0] [] zCm n = zg zc4 n:=zq fun n0 (v0,v3)=>by kernel_rfl
def znu (L0:zc3→Option (Bool × Unit)):((List zu) × Unit)→Option (Bool × Unit):=fun (x0,()) =>
  L0 (x0,0)
def znv:((List zu) × Unit)→Option (Bool × Unit):=znu (zqS K0)
abbrev zuZ:Fun:=⟨238,(ch [(.sl zr)]),(ch [.bool]),0,znv⟩
theorem zGv:Sq zuZ:=ml3 (d:=false) (S:=fun K=>znu (zqS K)) Tryz.func238 (by kernel_rfl) (fun K=>tr1 (T:=znu) (zCn K K) fun (x0,())=>by kernel_rfl) rfl
abbrev zc5:Type:=(List zJ) × Int
abbrev zCo:zc5→St:=fun (v0,v3)=>St.mk [(0,.dat (.sl zA) v0),(3,.dat tI v3)] []
def zc6 (k0:zc5→Option (Bool × Unit)):zc5→Option (Bool × Unit):=fun (v0,v3) =>
  bif decide (v3 < ((List.length v0):Int)) then inR v3 ((List.length v0):Int) (Option.bind (zmy (ix vT v0 v3,())) fun q0=>bif q0.1 then bif decide (v3 > 0) then inR v3 ((List.length v0):Int) (inR (wI (v3 - 1)) ((List.length v0):Int) (Option.bind (zhx (ix vT v0 v3,List.getD v0 (Int.toNat (wI (v3 - 1))) (zd zA),())) fun q1=>bif q1.1 then k0 (v0,wI (v3 + 1)) else some (false,()))) else k0 (v0,wI (v3 + 1)) else some (false,())) else some (true,())
abbrev zqT (K:Nat):zc5→Option (Bool × Unit):=zg zc6 K
theorem zCp (K:Nat):∀ n,evV Es3 K Tryz.f239 0 (ch [.bool]) [1,0,1,0] [] zCo n = zg zc6 n:=zq fun n0 (v0,v3)=>by kernel_rfl
def znw (L0:zc5→Option (Bool × Unit)):((List zJ) × Unit)→Option (Bool × Unit):=fun (x0,()) =>
  L0 (x0,0)
def znx:((List zJ) × Unit)→Option (Bool × Unit):=znw (zqT K0)
abbrev zu0:Fun:=⟨239,(ch [(.sl zA)]),(ch [.bool]),0,znx⟩
theorem zGw:Sq zu0:=ml3 (d:=false) (S:=fun K=>znw (zqT K)) Tryz.func239 (by kernel_rfl) (fun K=>tr1 (T:=znw) (zCp K K) fun (x0,())=>by kernel_rfl) rfl
def zaF:(ze × (zb × (zE × (Int × Unit))))→Option (Bool × Unit):=fun (x0,x1,x2,x3,()) =>
  Option.bind (zf0 (x1,x2,())) fun q0=>bif q0.1 then Option.bind (zgi (x0,x2.1,x3,())) fun q1=>bif q1.1 then some (true,()) else some (false,()) else some (false,())
abbrev zu1:Fun:=⟨245,(ch [zw,zn,zv,tI]),(ch [.bool]),0,zaF⟩
theorem zGx:Sq zu1:=ms3 (d:=false) (K:=0) Tryz.func245 (by kernel_rfl) (funext fun (x0,x1,x2,x3,())=>by kernel_rfl)
abbrev L4:List Fun:=zsZ :: zxd :: zy5 :: zqM :: zCg :: zy6 :: zuW :: zs0 :: zuX :: zxe :: zxf :: zxg :: zuY :: zuZ :: zu0 :: zu1 :: L3
theorem h4:Sds Tryz.prog E0 L4:=⟨zEt,zI8,zLl,zCf,zNj,zLm,zGs,zEu,zGt,zI9,zJa,zJb,zGu,zGv,zGw,zGx,h3⟩
theorem ms4 {d:Bool} {F:Fun} {f:Go.Func} {K:Nat} (hf:Tryz.prog.funcs[F.id]? = some f) (ho:jq f = true) (h:evF (En E0 d L4) K f F.md F.a F.r = F.spec):Sd Tryz.prog E0 F:=mkS h4 hf ho h
theorem ml4 {d:Bool} {F:Fun} {f:Go.Func} {S:Nat→F.a.I→Option F.r.I} (hf:Tryz.prog.funcs[F.id]? = some f) (ho:jq f = true) (h:∀ K,evF (En E0 d L4) K f F.md F.a F.r = S K) (e:S K0 = F.spec):Sd Tryz.prog E0 F:=mkS h4 hf ho ((h K0).trans e)
abbrev Es4:Env:=En E0 false L4
def zc7:(qA × Unit)→Option (Bool × Unit):=fun (x0,()) =>
  Option.bind (zak (x0.1,())) fun q0=>bif q0.1 then Option.bind (zak (x0.2.1,())) fun q1=>bif q1.1 then Option.bind (qw (x0.2.2.1,0,3,())) fun q2=>bif q2.1 then some (false,()) else some (true,()) else some (true,()) else some (true,())
abbrev zm4:Fun:=⟨256,(ch [qD]),(ch [.bool]),0,zc7⟩
theorem zxh:Sq zm4:=ms4 (d:=false) (K:=0) Tryz.func256 (by kernel_rfl) (funext fun (x0,())=>by kernel_rfl)
def zhN:(qV × Unit)→Option (Bool × Unit):=fun (x0,()) =>
  bif x0.1 then Option.bind (zak (x0.2.1,())) fun q0=>bif q0.1 then bif x0.1 then some (false,()) else bif !ByteArray.toList x0.2.1 == ByteArray.toList (ByteArray.mk #[]) then some (true,()) else some (false,()) else some (true,()) else bif x0.1 then some (false,()) else bif !ByteArray.toList x0.2.1 == ByteArray.toList (ByteArray.mk #[]) then some (true,()) else some (false,())
abbrev zs2:Fun:=⟨179,(ch [qk]),(ch [.bool]),0,zhN⟩
theorem zEx:Sq zs2:=ms4 (d:=false) (K:=0) Tryz.func179 (by kernel_rfl) (funext fun (x0,())=>by kernel_rfl)
def zi9:(zh × Unit)→Option (Bool × Unit):=fun (x0,()) =>
  bif x0.1 then Option.bind (zak (x0.2.1,())) fun q0=>bif q0.1 then Option.bind (zhv (x0,())) fun q1=>Option.bind (jU (q1.1,())) fun q2=>bif q2.1 then some (false,()) else some (true,()) else some (true,()) else bif !eqI zi x0 (zd zi) then some (true,()) else some (false,())
abbrev zu2:Fun:=⟨183,(ch [zi]),(ch [.bool]),0,zi9⟩
theorem zGy:Sq zu2:=ms4 (d:=false) (K:=0) Tryz.func183 (by kernel_rfl) (funext fun (x0,())=>by kernel_rfl)
def zk1:(qr × Unit)→Option (Bool × Unit):=fun (x0,()) =>
  bif x0.1 then Option.bind (zlZ (x0,())) fun q0=>bif q0.1 then Option.bind (zmz (x0.2.2.2.2.1,())) fun q1=>bif q1.1 then some (false,()) else some (true,()) else some (true,()) else bif !eqI zY x0 (zd zY) then some (true,()) else some (false,())
abbrev zxi:Fun:=⟨185,(ch [zY]),(ch [.bool]),0,zk1⟩
theorem zJc:Sq zxi:=ms4 (d:=false) (K:=0) Tryz.func185 (by kernel_rfl) (funext fun (x0,())=>by kernel_rfl)
def zja:((List zx) × Unit)→Option (Bool × Unit):=fun (x0,()) =>
  Option.bind (jl (x0,some zgF,())) fun q0=>bif q0.1 then some (false,()) else some (true,())
abbrev zu3:Fun:=⟨108,(ch [(.sl zz)]),(ch [.bool]),0,zja⟩
theorem zGz:Sq zu3:=ms4 (d:=false) (K:=0) Tryz.func108 (by kernel_rfl) (funext fun (x0,())=>by kernel_rfl)
abbrev ze1:Type:=Int × (List zu) × Int × Int × List (Int × Int)
abbrev zEy:ze1→St:=fun (v4,v8,v9,v10,o0)=>St.mk [(3,.om 0),(4,.dat tI v4),(8,.dat (.sl zr) v8),(9,.dat tI v9),(10,.dat tI v10)] [.mp tI tI o0]
def ze2 (k0:ze1→Option (Bool × Unit)):ze1→Option (Bool × Unit):=fun (v4,v8,v9,v10,o0) =>
  bif decide (v10 < v9) then inR v10 ((List.length v8):Int) (bif (ix zK v8 v10).1 then Option.bind (zod (ix zK v8 v10,())) fun q0=>bif q0.1 then bif (ix zK v8 v10).1 then bif (ix zK v8 v10).1 then k0 (wI (v4 + 1),v8,v9,wI (v10 + 1),jP tI o0 (ix zK v8 v10).2.2.2.2.2.2.2.2.2.1 (wI (zaP tI (0:Int) o0 (ix zK v8 v10).2.2.2.2.2.2.2.2.2.1 + 1))) else k0 (v4,v8,v9,wI (v10 + 1),o0) else bif !eqI zr (ix zK v8 v10) (zd zr) then some (false,()) else bif (ix zK v8 v10).1 then k0 (wI (v4 + 1),v8,v9,wI (v10 + 1),jP tI o0 (ix zK v8 v10).2.2.2.2.2.2.2.2.2.1 (wI (zaP tI (0:Int) o0 (ix zK v8 v10).2.2.2.2.2.2.2.2.2.1 + 1))) else k0 (v4,v8,v9,wI (v10 + 1),o0) else some (false,()) else bif (ix zK v8 v10).1 then bif (ix zK v8 v10).1 then k0 (wI (v4 + 1),v8,v9,wI (v10 + 1),jP tI o0 (ix zK v8 v10).2.2.2.2.2.2.2.2.2.1 (wI (zaP tI (0:Int) o0 (ix zK v8 v10).2.2.2.2.2.2.2.2.2.1 + 1))) else k0 (v4,v8,v9,wI (v10 + 1),o0) else bif !eqI zr (ix zK v8 v10) (zd zr) then some (false,()) else bif (ix zK v8 v10).1 then k0 (wI (v4 + 1),v8,v9,wI (v10 + 1),jP tI o0 (ix zK v8 v10).2.2.2.2.2.2.2.2.2.1 (wI (zaP tI (0:Int) o0 (ix zK v8 v10).2.2.2.2.2.2.2.2.2.1 + 1))) else k0 (v4,v8,v9,wI (v10 + 1),o0)) else bif ((List.length o0):Int) == v4 then some (true,()) else some (false,())
abbrev zs3 (K:Nat):ze1→Option (Bool × Unit):=zg ze2 K
theorem zEz (K:Nat):∀ n,evV Es4 K Tryz.f110 0 (ch [.bool]) [1,1,1,0,1,0] [] zEy n = zg ze2 n:=zq fun n0 (v4,v8,v9,v10,o0)=>by kernel_rfl
def zps (L0:ze1→Option (Bool × Unit)):((List zu) × Unit)→Option (Bool × Unit):=fun (x0,()) =>
  L0 (0,x0,((List.length x0):Int),0,[])
def zpt:((List zu) × Unit)→Option (Bool × Unit):=zps (zs3 K0)
abbrev zxj:Fun:=⟨110,(ch [(.sl zr)]),(ch [.bool]),0,zpt⟩
theorem zJd:Sq zxj:=ml4 (d:=false) (S:=fun K=>zps (zs3 K)) Tryz.func110 (by kernel_rfl) (fun K=>tr1 (T:=zps) (zEz K K) fun (x0,())=>by kernel_rfl) rfl
abbrev zc8:Type:=(List zJ) × (List zJ) × Int × Int
abbrev zCq:zc8→St:=fun (v0,v5,v6,v7)=>St.mk [(0,.dat (.sl zA) v0),(5,.dat (.sl zA) v5),(6,.dat tI v6),(7,.dat tI v7)] []
def zc9 (k0:zc8→Option (Bool × Unit)):zc8→Option (Bool × Unit):=fun (v0,v5,v6,v7) =>
  bif decide (v7 < v6) then inR v7 ((List.length v5):Int) (Option.bind (zmA (ix vT v5 v7,())) fun q0=>bif q0.1 then bif decide (v7 > 0) then inR (wI (v7 - 1)) ((List.length v0):Int) (Option.bind (zi3 (List.getD v0 (Int.toNat (wI (v7 - 1))) (zd zA),ix vT v5 v7,())) fun q1=>bif decide (q1.1 ≥ 0) then some (false,()) else k0 (v0,v5,v6,wI (v7 + 1))) else k0 (v0,v5,v6,wI (v7 + 1)) else some (false,())) else some (true,())
abbrev zqU (K:Nat):zc8→Option (Bool × Unit):=zg zc9 K
theorem zCr (K:Nat):∀ n,evV Es4 K Tryz.f111 0 (ch [.bool]) [1,0,1,0] [] zCq n = zg zc9 n:=zq fun n0 (v0,v5,v6,v7)=>by kernel_rfl
def zny (L0:zc8→Option (Bool × Unit)):((List zJ) × Unit)→Option (Bool × Unit):=fun (x0,()) =>
  L0 (x0,x0,((List.length x0):Int),0)
def znz:((List zJ) × Unit)→Option (Bool × Unit):=zny (zqU K0)
abbrev zu4:Fun:=⟨111,(ch [(.sl zA)]),(ch [.bool]),0,znz⟩
theorem zGA:Sq zu4:=ml4 (d:=false) (S:=fun K=>zny (zqU K)) Tryz.func111 (by kernel_rfl) (fun K=>tr1 (T:=zny) (zCr K K) fun (x0,())=>by kernel_rfl) rfl
end
end Go.Proofs.YtejbgeokcpillaaGreatDoor
end
section
namespace Go.Proofs.YtejbgeokcpillaaGreatDoor
open Go.Ev
noncomputable section
abbrev zda:Type:=(List zp) × Int × Int × qW
abbrev zCs:zda→St:=fun (v10,v11,v12,o0)=>St.mk [(1,.bp 0 []),(10,.dat (.sl zy) v10),(11,.dat tI v11),(12,.dat tI v12)] [.bx (.dat qp o0) false]
def zdb (k0:zda→Option (Bool × Unit)):zda→Option (Bool × Unit):=fun (v10,v11,v12,o0) =>
  bif decide (v12 < v11) then inR v12 ((List.length v10):Int) (Option.bind (zns (o0,v12,())) fun q0=>Option.bind (zjB ((ix zf v10 v12).2.1,some fun z=>zgz (z.1,some q0.1,()),())) fun q1=>bif q1.1 then Option.bind (yV ((ix zf v10 v12).2.2.1,some fun z=>zcr (z.1,some q0.1,()),())) fun q2=>bif q2.1 then Option.bind (zkL ((ix zf v10 v12).2.2.2.2.2.2.1,q0.1,())) fun q3=>bif q3.1 then k0 (v10,v11,wI (v12 + 1),o0) else some (false,()) else some (false,()) else Option.bind (yV ((ix zf v10 v12).2.2.1,some fun z=>zcr (z.1,some q0.1,()),())) fun q4=>bif q4.1 then some (false,()) else some (false,())) else some (true,())
abbrev zqV (K:Nat):zda→Option (Bool × Unit):=zg zdb K
theorem zCt (K:Nat):∀ n,evV Es4 K Tryz.f65 0 (ch [.bool]) [1,0,1,0] [] zCs n = zg zdb n:=zq fun n0 (v10,v11,v12,o0)=>by kernel_rfl
def znA (L0:zda→Option (Bool × Unit)):(qW × Unit)→Option (Bool × Unit):=fun (x0,()) =>
  L0 (x0.2.1.2.1,((List.length x0.2.1.2.1):Int),0,x0)
def zf6:(qW × Unit)→Option (Bool × Unit):=znA (zqV K0)
abbrev zu5:Fun:=⟨65,(ch [qp]),(ch [.bool]),0,zf6⟩
theorem zGB:Sq zu5:=ml4 (d:=false) (S:=fun K=>znA (zqV K)) Tryz.func65 (by kernel_rfl) (fun K=>tr1 (T:=znA) (zCt K K) fun (x0,())=>by kernel_rfl) rfl
abbrev zf7:Type:=(List zu) × Int × (List Int) × Int × Int × List Int
abbrev zGC:zf7→St:=fun (v0,v1,v13,v14,v15,o0)=>St.mk [(0,.dat (.sl zr) v0),(1,.dat tI v1),(6,.ow 0),(13,.dat (.sl tI) v13),(14,.dat tI v14),(15,.dat tI v15)] [.row tU o0 false]
def zf8 (k0:zf7→Option (Int × (Int × Unit))):zf7→Option (Int × (Int × Unit)):=fun (v0,v1,v13,v14,v15,o0) =>
  bif decide (v15 < v14) then inR v15 ((List.length v13):Int) (inR (ix (0:Int) v13 v15) ((List.length v0):Int) (Option.bind (ziS (List.getD v0 (Int.toNat (ix (0:Int) v13 v15)) (zd zr),())) fun q2=>bif q2.1 == v1 then inR (ix (0:Int) v13 v15) ((List.length v0):Int) (bif decide (List.length o0 + List.length (zm (List.replicate 1 (0:Int)) 0 (List.getD v0 (Int.toNat (ix (0:Int) v13 v15)) (zd zr)).2.2.2.2.2.2.2.2.1) ≤ lim) then k0 (v0,v1,v13,v14,wI (v15 + 1),o0 ++ zm (List.replicate 1 (0:Int)) 0 (List.getD v0 (Int.toNat (ix (0:Int) v13 v15)) (zd zr)).2.2.2.2.2.2.2.2.1) else none) else k0 (v0,v1,v13,v14,wI (v15 + 1),o0))) else Option.bind (zhB (o0,())) fun q3=>some (q3.1,q3.2.1,())
abbrev zu6 (K:Nat):zf7→Option (Int × (Int × Unit)):=zg zf8 K
theorem zGD (K:Nat):∀ n,evV Es4 K Tryz.f209 0 (ch [tU,tI]) [1,1,1,0,1,0] [] zGC n = zg zf8 n:=zq fun n0 (v0,v1,v13,v14,v15,o0)=>by kernel_rfl
def zmB (L0:zf7→Option (Int × (Int × Unit))):((List zu) × (Int × Unit))→Option (Int × (Int × Unit)):=fun (x0,x1,()) =>
  Option.bind (ju (x1,())) fun q0=>bif q0.1 then Option.bind (zkW (x0,())) fun q1=>L0 (x0,x1,q1.1,((List.length q1.1):Int),0,[]) else some (0,1,())
def zmC:((List zu) × Int × Unit)→Option (Int × Int × Unit):=zmB (zu6 K0)
abbrev zy7:Fun:=⟨209,(ch [(.sl zr),tI]),(ch [tU,tI]),0,zmC⟩
theorem zLn:Sq zy7:=ml4 (d:=false) (S:=fun K=>zmB (zu6 K)) Tryz.func209 (by kernel_rfl) (fun K=>tr1 (T:=zmB) (zGD K K) fun (x0,x1,())=>by kernel_rfl) rfl
abbrev zbC:Type:=Int × ze × zb
abbrev zpu:zbC→St:=fun (v9,o0,o1)=>St.mk [(2,.bp 0 []),(3,.bp 1 []),(9,.dat tI v9)] [.bx (.dat zw o0) false,.bx (.dat zn o1) false]
abbrev zbD:Type:=Int × ze × zb
abbrev zpv:zbD→St:=fun (v7,o0,o1)=>St.mk [(2,.bp 0 []),(3,.bp 1 []),(7,.dat tI v7)] [.bx (.dat zw o0) false,.bx (.dat zn o1) false]
abbrev zbE:Type:=Int × ze × zb
abbrev zAn:zbE→St:=fun (v5,o0,o1)=>St.mk [(2,.bp 0 []),(3,.bp 1 []),(5,.dat tI v5)] [.bx (.dat zw o0) false,.bx (.dat zn o1) false]
def zfN (k2:zbC→Option (Bool × Unit)):zbC→Option (Bool × Unit):=fun (v9,o0,o1) =>
  bif decide (v9 < ((List.length o1.2.2.2.2.2.1):Int)) then inR v9 ((List.length o1.2.2.2.2.2.1):Int) (bif ix (0:Int) o1.2.2.2.2.2.1 v9 != -1 then inR v9 ((List.length o1.2.2.2.2.2.1):Int) (Option.bind (jY (o0,ix (0:Int) o1.2.2.2.2.2.1 v9,())) fun q6=>bif q6.1 then k2 (wI (v9 + 1),o0,o1) else some (false,())) else k2 (wI (v9 + 1),o0,o1)) else some (true,())
abbrev zbF (K:Nat):zbC→Option (Bool × Unit):=zg zfN K
theorem zAo (K:Nat):∀ n,evV Es4 K Tryz.f162 0 (ch [.bool]) [1,1,1,1,0,1,0] [] zpu n = zg zfN n:=zq fun n2 (v9,o0,o1)=>by kernel_rfl
def zbG (L2:zbC→Option (Bool × Unit)) (k1:zbD→Option (Bool × Unit)):zbD→Option (Bool × Unit):=fun (v7,o0,o1) =>
  bif decide (v7 < ((List.length o1.2.2.2.2.1):Int)) then inR v7 ((List.length o1.2.2.2.2.1):Int) (bif decide ((ix vT o1.2.2.2.2.1 v7).2.1 ≥ ((List.length o0.2.1):Int)) then some (false,()) else inR (ix vT o1.2.2.2.2.1 v7).2.1 ((List.length o0.2.1):Int) (bif (ix vT o1.2.2.2.2.1 v7).2.2.1 != List.getD o0.2.1 (Int.toNat (ix vT o1.2.2.2.2.1 v7).2.1) (0:Int) then some (false,()) else Option.bind (jY (o0,(ix vT o1.2.2.2.2.1 v7).2.2.2.1,())) fun q5=>bif q5.1 then bif decide ((ix vT o1.2.2.2.2.1 v7).1 > o1.1) then some (false,()) else k1 (wI (v7 + 1),o0,o1) else some (false,()))) else L2 (0,o0,o1)
abbrev zbH (K:Nat):zbD→Option (Bool × Unit):=zg (fun k1=>zbG (zbF K) k1) K
theorem zAp (K:Nat):∀ n,evV Es4 K Tryz.f162 0 (ch [.bool]) [1,1,1,0,1,0] [] zpv n = zg (fun k1=>zbG (zbF K) k1) n:=qu (B:=fun L2 k1=>zbG L2 k1) (V1:=fun n1=>evV Es4 K Tryz.f162 0 (ch [.bool]) [1,1,1,1,0,1,0] [] zpu K) (W1:=fun k1=>(zbF K)) (fun n1=>zAo K K) fun n1 (v7,o0,o1)=>by kernel_rfl
def zbI (L1:zbD→Option (Bool × Unit)) (k0:zbE→Option (Bool × Unit)):zbE→Option (Bool × Unit):=fun (v5,o0,o1) =>
  bif decide (v5 < ((List.length o1.2.2.2.1):Int)) then inR v5 ((List.length o1.2.2.2.1):Int) (bif (ix zK o1.2.2.2.1 v5).1 then bif decide ((ix zK o1.2.2.2.1 v5).2.1 ≥ ((List.length o0.1):Int)) then some (false,()) else Option.bind (jY (o0,(ix zK o1.2.2.2.1 v5).2.2.1,())) fun q4=>bif q4.1 then bif decide ((ix zK o1.2.2.2.1 v5).2.2.2.2.2.2.2.2.2.1 ≥ ((List.length o1.2.2.2.2.1):Int)) then some (false,()) else k0 (wI (v5 + 1),o0,o1) else some (false,()) else k0 (wI (v5 + 1),o0,o1)) else L1 (0,o0,o1)
abbrev zjD (K:Nat):zbE→Option (Bool × Unit):=zg (fun k0=>zbI (zbH K) k0) K
theorem zAq (K:Nat):∀ n,evV Es4 K Tryz.f162 0 (ch [.bool]) [1,1,0,1,0] [] zAn n = zg (fun k0=>zbI (zbH K) k0) n:=qu (B:=fun L1 k0=>zbI L1 k0) (V1:=fun n0=>evV Es4 K Tryz.f162 0 (ch [.bool]) [1,1,1,0,1,0] [] zpv K) (W1:=fun k0=>(zbH K)) (fun n0=>zAp K K) fun n0 (v5,o0,o1)=>by kernel_rfl
def zhO (L0:zbE→Option (Bool × Unit)):(ze × (zb × Unit))→Option (Bool × Unit):=fun (x0,x1,()) =>
  Option.bind (zi8 (x0,x1.2.2.1,())) fun q0=>bif q0.1 then Option.bind (znv (x1.2.2.2.1,())) fun q1=>bif q1.1 then Option.bind (znx (x1.2.2.2.2.1,())) fun q2=>bif q2.1 then Option.bind (zf0 (x1,zd zv,())) fun q3=>bif q3.1 then L0 (0,x0,x1) else some (false,()) else some (false,()) else some (false,()) else some (false,())
def zhP:(ze × zb × Unit)→Option (Bool × Unit):=zhO (zjD K0)
abbrev zs4:Fun:=⟨162,(ch [zw,zn]),(ch [.bool]),0,zhP⟩
theorem zEA:Sq zs4:=ml4 (d:=false) (S:=fun K=>zhO (zjD K)) Tryz.func162 (by kernel_rfl) (fun K=>tr1 (T:=zhO) (zAq K K) fun (x0,x1,())=>by kernel_rfl) rfl
def zk2:(ze × (zb × (Int × (Int × Unit))))→Option (Bool × Unit):=fun (x0,x1,x2,x3,()) =>
  inR x2 ((List.length x1.2.1):Int) (inR x3 ((List.length (ix zf x1.2.1 x2).2.2.1):Int) (bif (List.getD (ix zf x1.2.1 x2).2.2.1 (Int.toNat x3) (zd zi)).1 then bif (List.getD (ix zf x1.2.1 x2).2.2.1 (Int.toNat x3) (zd zi)).2.2.1 == 1 then Option.bind (jY (x0,(List.getD (ix zf x1.2.1 x2).2.2.1 (Int.toNat x3) (zd zi)).2.2.2.1,())) fun q0=>bif q0.1 then some (true,()) else some (false,()) else bif (List.getD (ix zf x1.2.1 x2).2.2.1 (Int.toNat x3) (zd zi)).2.2.1 == 2 then Option.bind (zaF (x0,x1,(List.getD (ix zf x1.2.1 x2).2.2.1 (Int.toNat x3) (zd zi)).2.2.2.2.1,x2,())) fun q1=>bif q1.1 then some (true,()) else some (false,()) else bif decide ((List.getD (ix zf x1.2.1 x2).2.2.1 (Int.toNat x3) (zd zi)).2.2.2.1 < ((List.length (ix zf x1.2.1 x2).2.2.2.2.1):Int)) then inR (List.getD (ix zf x1.2.1 x2).2.2.1 (Int.toNat x3) (zd zi)).2.2.2.1 ((List.length (ix zf x1.2.1 x2).2.2.2.2.1):Int) (bif (List.getD (ix zf x1.2.1 x2).2.2.2.2.1 (Int.toNat (List.getD (ix zf x1.2.1 x2).2.2.1 (Int.toNat x3) (zd zi)).2.2.2.1) (zd zz)).1 then inR (List.getD (ix zf x1.2.1 x2).2.2.1 (Int.toNat x3) (zd zi)).2.2.2.1 ((List.length (ix zf x1.2.1 x2).2.2.2.2.1):Int) (bif (List.getD (ix zf x1.2.1 x2).2.2.2.2.1 (Int.toNat (List.getD (ix zf x1.2.1 x2).2.2.1 (Int.toNat x3) (zd zi)).2.2.2.1) (zd zz)).2.2.2.1.2.2.1 == x3 then some (true,()) else some (false,())) else some (false,())) else some (false,()) else some (true,())))
abbrev zxk:Fun:=⟨246,(ch [zw,zn,tI,tI]),(ch [.bool]),0,zk2⟩
theorem zJe:Sq zxk:=ms4 (d:=false) (K:=0) Tryz.func246 (by kernel_rfl) (funext fun (x0,x1,x2,x3,())=>by kernel_rfl)
abbrev L5:List Fun:=zm4 :: zs2 :: zu2 :: zxi :: zu3 :: zxj :: zu4 :: zu5 :: zy7 :: zs4 :: zxk :: L4
theorem h5:Sds Tryz.prog E0 L5:=⟨zxh,zEx,zGy,zJc,zGz,zJd,zGA,zGB,zLn,zEA,zJe,h4⟩
theorem ms5 {d:Bool} {F:Fun} {f:Go.Func} {K:Nat} (hf:Tryz.prog.funcs[F.id]? = some f) (ho:jq f = true) (h:evF (En E0 d L5) K f F.md F.a F.r = F.spec):Sd Tryz.prog E0 F:=mkS h5 hf ho h
theorem ml5 {d:Bool} {F:Fun} {f:Go.Func} {S:Nat→F.a.I→Option F.r.I} (hf:Tryz.prog.funcs[F.id]? = some f) (ho:jq f = true) (h:∀ K,evF (En E0 d L5) K f F.md F.a F.r = S K) (e:S K0 = F.spec):Sd Tryz.prog E0 F:=mkS h5 hf ho ((h K0).trans e)
abbrev Es5:Env:=En E0 false L5
def jW:(ze × Unit)→Option (Bool × Unit):=fun (x0,()) =>
  Option.bind (qw (((List.length x0.2.2.1):Int),1,8,())) fun q0=>bif q0.1 then Option.bind (zaX (x0.2.2.1,some zc7,())) fun q1=>bif q1.1 then some (false,()) else Option.bind (zia (x0,())) fun q2=>Option.bind (zoI (q2.1,())) fun q3=>bif q3.1 then some (true,()) else some (false,()) else some (false,())
abbrev zpw:Fun:=⟨172,(ch [zw]),(ch [.bool]),0,jW⟩
theorem zAr:Sq zpw:=ms5 (d:=false) (K:=0) Tryz.func172 (by kernel_rfl) (funext fun (x0,())=>by kernel_rfl)
def zk3:((List qV) × Unit)→Option (Bool × Unit):=fun (x0,()) =>
  Option.bind (zdR (x0,some zhN,())) fun q0=>bif q0.1 then some (false,()) else some (true,())
abbrev zxl:Fun:=⟨104,(ch [(.sl qk)]),(ch [.bool]),0,zk3⟩
theorem zJf:Sq zxl:=ms5 (d:=false) (K:=0) Tryz.func104 (by kernel_rfl) (funext fun (x0,())=>by kernel_rfl)
def zb7:((List zh) × Unit)→Option (Bool × Unit):=fun (x0,()) =>
  Option.bind (jz (x0,some zi9,())) fun q0=>bif q0.1 then some (false,()) else some (true,())
abbrev zu7:Fun:=⟨106,(ch [(.sl zi)]),(ch [.bool]),0,zb7⟩
theorem zGE:Sq zu7:=ms5 (d:=false) (K:=0) Tryz.func106 (by kernel_rfl) (funext fun (x0,())=>by kernel_rfl)
def zk4:((List qr) × Unit)→Option (Bool × Unit):=fun (x0,()) =>
  Option.bind (jA (x0,some zk1,())) fun q0=>bif q0.1 then some (false,()) else some (true,())
abbrev zxm:Fun:=⟨107,(ch [(.sl zY)]),(ch [.bool]),0,zk4⟩
theorem zJg:Sq zxm:=ms5 (d:=false) (K:=0) Tryz.func107 (by kernel_rfl) (funext fun (x0,())=>by kernel_rfl)
abbrev ze3:Type:=Int × (List zp) × Int × Int × (List (List Int)) × Int × Int × List Int
abbrev zs5:ze3→St:=fun (v1,v31,v32,v33,v52,v53,v54,o0)=>St.mk [(1,.dat tI v1),(8,.ow 0),(31,.dat (.sl zy) v31),(32,.dat tI v32),(33,.dat tI v33),(52,.dat (.sl (.arr 4 tU)) v52),(53,.dat tI v53),(54,.dat tI v54)] [.row tU o0 false]
abbrev yY:Type:=Int × (List zp) × Int × Int × List Int
abbrev zs6:yY→St:=fun (v1,v31,v32,v33,o0)=>St.mk [(1,.dat tI v1),(8,.ow 0),(31,.dat (.sl zy) v31),(32,.dat tI v32),(33,.dat tI v33)] [.row tU o0 false]
def ze4 (k0:yY→Option (Int × (Int × Unit))) (k1:ze3→Option (Int × (Int × Unit))):ze3→Option (Int × (Int × Unit)):=fun (v1,v31,v32,v33,v52,v53,v54,o0) =>
  bif decide (v54 < v53) then inR v54 ((List.length v52):Int) (inR v1 (↑4:Int) (bif decide (List.length o0 + List.length (zm (List.replicate 1 (0:Int)) 0 (List.getD (List.getD v52 (Int.toNat v54) (zd (.arr 4 tU))) (Int.toNat v1) (0:Int))) ≤ lim) then k1 (v1,v31,v32,v33,v52,v53,wI (v54 + 1),o0 ++ zm (List.replicate 1 (0:Int)) 0 (List.getD (List.getD v52 (Int.toNat v54) (zd (.arr 4 tU))) (Int.toNat v1) (0:Int))) else none)) else k0 (v1,v31,v32,wI (v33 + 1),o0)
abbrev ze5 (K:Nat) (k0:yY→Option (Int × (Int × Unit))):ze3→Option (Int × (Int × Unit)):=zg (fun k1=>ze4 k0 k1) K
theorem zEB (K:Nat) (n0:Nat):∀ n,evV Es5 K Tryz.f137 0 (ch [tU,tI]) [1,1,1,1,1,0,1,0,0,1,1,0,0,1,1,1,1,1,0] [n0] zs5 n = zg (fun k1=>ze4 (evV Es5 K Tryz.f137 0 (ch [tU,tI]) [1,1,1,1,1,0,1,0] [] zs6 n0) k1) n:=zq fun n1 (v1,v31,v32,v33,v52,v53,v54,o0)=>by kernel_rfl
def zbf (L1:ze3→Option (Int × (Int × Unit))) (k0:yY→Option (Int × (Int × Unit))):yY→Option (Int × (Int × Unit)):=fun (v1,v31,v32,v33,o0) =>
  bif decide (v33 < v32) then inR v33 ((List.length v31):Int) (Option.bind (zkY ((ix zf v31 v33).2.2.2.2.1,v1,())) fun q2=>bif q2.2.1 != 0 then some (0,q2.2.1,()) else bif decide (List.length o0 + List.length (zm (List.replicate 1 (0:Int)) 0 q2.1) ≤ lim) then L1 (v1,v31,v32,v33,(ix zf v31 v33).2.2.2.2.2.1,((List.length (ix zf v31 v33).2.2.2.2.2.1):Int),0,o0 ++ zm (List.replicate 1 (0:Int)) 0 q2.1) else none) else Option.bind (zhB (o0,())) fun q3=>some (q3.1,q3.2.1,())
abbrev zs7 (K:Nat):yY→Option (Int × (Int × Unit)):=zg (fun k0=>zbf (ze5 K k0) k0) K
theorem zEC (K:Nat):∀ n,evV Es5 K Tryz.f137 0 (ch [tU,tI]) [1,1,1,1,1,0,1,0] [] zs6 n = zg (fun k0=>zbf (ze5 K k0) k0) n:=qu (B:=fun L1 k0=>zbf L1 k0) (V1:=fun n0=>evV Es5 K Tryz.f137 0 (ch [tU,tI]) [1,1,1,1,1,0,1,0,0,1,1,0,0,1,1,1,1,1,0] [n0] zs5 K) (W1:=fun k0=>(ze5 K k0)) (fun n0=>zEB K n0 K) fun n0 (v1,v31,v32,v33,o0)=>by kernel_rfl
def zk5 (L0:yY→Option (Int × (Int × Unit))):(zb × (Int × Unit))→Option (Int × (Int × Unit)):=fun (x0,x1,()) =>
  Option.bind (ju (x1,())) fun q0=>bif q0.1 then Option.bind (zmC (x0.2.2.2.1,x1,())) fun q1=>bif q1.2.1 != 0 then some (0,q1.2.1,()) else L0 (x1,x0.2.1,((List.length x0.2.1):Int),0,[q1.1]) else some (0,1,())
def zk6:(zb × Int × Unit)→Option (Int × Int × Unit):=zk5 (zs7 K0)
abbrev zxn:Fun:=⟨137,(ch [zn,tI]),(ch [tU,tI]),0,zk6⟩
theorem zJh:Sq zxn:=ml5 (d:=false) (S:=fun K=>zk5 (zs7 K)) Tryz.func137 (by kernel_rfl) (fun K=>tr1 (T:=zk5) (zEC K K) fun (x0,x1,())=>by kernel_rfl) rfl
abbrev zdc:Type:=Int × Int × ze × zb × zp
abbrev zqW:zdc→St:=fun (v2,v14,o0,o1,o2)=>St.mk [(2,.dat tI v2),(3,.bp 0 []),(4,.bp 1 []),(7,.bp 2 []),(14,.dat tI v14)] [.bx (.dat zw o0) false,.bx (.dat zn o1) false,.bx (.dat zy o2) false]
abbrev zdd:Type:=Int × Int × ze × zb × zp
abbrev zqX:zdd→St:=fun (v2,v12,o0,o1,o2)=>St.mk [(2,.dat tI v2),(3,.bp 0 []),(4,.bp 1 []),(7,.bp 2 []),(12,.dat tI v12)] [.bx (.dat zw o0) false,.bx (.dat zn o1) false,.bx (.dat zy o2) false]
abbrev zde:Type:=Int × Int × ze × zb × zp
abbrev zqY:zde→St:=fun (v2,v11,o0,o1,o2)=>St.mk [(2,.dat tI v2),(3,.bp 0 []),(4,.bp 1 []),(7,.bp 2 []),(11,.dat tI v11)] [.bx (.dat zw o0) false,.bx (.dat zn o1) false,.bx (.dat zy o2) false]
abbrev zdf:Type:=Int × Int × ze × zb × zp
abbrev zqZ:zdf→St:=fun (v2,v10,o0,o1,o2)=>St.mk [(2,.dat tI v2),(3,.bp 0 []),(4,.bp 1 []),(7,.bp 2 []),(10,.dat tI v10)] [.bx (.dat zw o0) false,.bx (.dat zn o1) false,.bx (.dat zy o2) false]
abbrev zdg:Type:=Int × Int × ze × zb × zp
abbrev zCu:zdg→St:=fun (v2,v8,o0,o1,o2)=>St.mk [(2,.dat tI v2),(3,.bp 0 []),(4,.bp 1 []),(7,.bp 2 []),(8,.dat tI v8)] [.bx (.dat zw o0) false,.bx (.dat zn o1) false,.bx (.dat zy o2) false]
def zgI (k4:zdc→Option (Bool × Unit)):zdc→Option (Bool × Unit):=fun (v2,v14,o0,o1,o2) =>
  bif decide (v14 < ((List.length o2.2.2.2.2.2.2.1):Int)) then inR v14 ((List.length o2.2.2.2.2.2.2.1):Int) (Option.bind (zaF (o0,o1,ix zzE o2.2.2.2.2.2.2.1 v14,v2,())) fun q12=>bif q12.1 then k4 (v2,wI (v14 + 1),o0,o1,o2) else some (false,())) else some (true,())
abbrev zdh (K:Nat):zdc→Option (Bool × Unit):=zg zgI K
theorem zCv (K:Nat):∀ n,evV Es5 K Tryz.f163 0 (ch [.bool]) [1,1,1,1,1,1,1,0,1,0] [] zqW n = zg zgI n:=zq fun n4 (v2,v14,o0,o1,o2)=>by kernel_rfl
def zdi (L4:zdc→Option (Bool × Unit)) (k3:zdd→Option (Bool × Unit)):zdd→Option (Bool × Unit):=fun (v2,v12,o0,o1,o2) =>
  bif decide (v12 < ((List.length o2.2.2.2.1):Int)) then inR v12 ((List.length o2.2.2.2.1):Int) (bif (ix zaR o2.2.2.2.1 v12).1 then Option.bind (zgi (o0,(ix zaR o2.2.2.2.1 v12).2.1,v2,())) fun q9=>bif q9.1 then Option.bind (jY (o0,(ix zaR o2.2.2.2.1 v12).2.2.1,())) fun q10=>bif q10.1 then Option.bind (jY (o0,(ix zaR o2.2.2.2.1 v12).2.2.2.1,())) fun q11=>bif q11.1 then k3 (v2,wI (v12 + 1),o0,o1,o2) else some (false,()) else some (false,()) else some (false,()) else k3 (v2,wI (v12 + 1),o0,o1,o2)) else L4 (v2,0,o0,o1,o2)
abbrev zdj (K:Nat):zdd→Option (Bool × Unit):=zg (fun k3=>zdi (zdh K) k3) K
theorem zCw (K:Nat):∀ n,evV Es5 K Tryz.f163 0 (ch [.bool]) [1,1,1,1,1,1,0,1,0] [] zqX n = zg (fun k3=>zdi (zdh K) k3) n:=qu (B:=fun L4 k3=>zdi L4 k3) (V1:=fun n3=>evV Es5 K Tryz.f163 0 (ch [.bool]) [1,1,1,1,1,1,1,0,1,0] [] zqW K) (W1:=fun k3=>(zdh K)) (fun n3=>zCv K K) fun n3 (v2,v12,o0,o1,o2)=>by kernel_rfl
def zdk (L3:zdd→Option (Bool × Unit)) (k2:zde→Option (Bool × Unit)):zde→Option (Bool × Unit):=fun (v2,v11,o0,o1,o2) =>
  bif decide (v11 < ((List.length o2.2.2.2.2.1):Int)) then Option.bind (zkD (o0,o2,v11,())) fun q8=>bif q8.1 then k2 (v2,wI (v11 + 1),o0,o1,o2) else some (false,()) else L3 (v2,0,o0,o1,o2)
abbrev zdl (K:Nat):zde→Option (Bool × Unit):=zg (fun k2=>zdk (zdj K) k2) K
theorem zCx (K:Nat):∀ n,evV Es5 K Tryz.f163 0 (ch [.bool]) [1,1,1,1,1,0,1,0] [] zqY n = zg (fun k2=>zdk (zdj K) k2) n:=qu (B:=fun L3 k2=>zdk L3 k2) (V1:=fun n2=>evV Es5 K Tryz.f163 0 (ch [.bool]) [1,1,1,1,1,1,0,1,0] [] zqX K) (W1:=fun k2=>(zdj K)) (fun n2=>zCw K K) fun n2 (v2,v11,o0,o1,o2)=>by kernel_rfl
def zdm (L2:zde→Option (Bool × Unit)) (k1:zdf→Option (Bool × Unit)):zdf→Option (Bool × Unit):=fun (v2,v10,o0,o1,o2) =>
  bif decide (v10 < ((List.length o2.2.2.1):Int)) then Option.bind (zk2 (o0,o1,v2,v10,())) fun q7=>bif q7.1 then k1 (v2,wI (v10 + 1),o0,o1,o2) else some (false,()) else L2 (v2,0,o0,o1,o2)
abbrev zdn (K:Nat):zdf→Option (Bool × Unit):=zg (fun k1=>zdm (zdl K) k1) K
theorem zCy (K:Nat):∀ n,evV Es5 K Tryz.f163 0 (ch [.bool]) [1,1,1,1,0,1,0] [] zqZ n = zg (fun k1=>zdm (zdl K) k1) n:=qu (B:=fun L2 k1=>zdm L2 k1) (V1:=fun n1=>evV Es5 K Tryz.f163 0 (ch [.bool]) [1,1,1,1,1,0,1,0] [] zqY K) (W1:=fun k1=>(zdl K)) (fun n1=>zCx K K) fun n1 (v2,v10,o0,o1,o2)=>by kernel_rfl
def zdo (L1:zdf→Option (Bool × Unit)) (k0:zdg→Option (Bool × Unit)):zdg→Option (Bool × Unit):=fun (v2,v8,o0,o1,o2) =>
  bif decide (v8 < ((List.length o2.2.1):Int)) then inR v8 ((List.length o2.2.1):Int) (bif (ix qh o2.2.1 v8).1 then Option.bind (zaF (o0,o1,(ix qh o2.2.1 v8).2.1,v2,())) fun q5=>bif q5.1 then Option.bind (zaF (o0,o1,(ix qh o2.2.1 v8).2.2.1,v2,())) fun q6=>bif q6.1 then k0 (v2,wI (v8 + 1),o0,o1,o2) else some (false,()) else some (false,()) else k0 (v2,wI (v8 + 1),o0,o1,o2)) else L1 (v2,0,o0,o1,o2)
abbrev zk7 (K:Nat):zdg→Option (Bool × Unit):=zg (fun k0=>zdo (zdn K) k0) K
theorem zCz (K:Nat):∀ n,evV Es5 K Tryz.f163 0 (ch [.bool]) [1,1,1,0,1,0] [] zCu n = zg (fun k0=>zdo (zdn K) k0) n:=qu (B:=fun L1 k0=>zdo L1 k0) (V1:=fun n0=>evV Es5 K Tryz.f163 0 (ch [.bool]) [1,1,1,1,0,1,0] [] zqZ K) (W1:=fun k0=>(zdn K)) (fun n0=>zCy K K) fun n0 (v2,v8,o0,o1,o2)=>by kernel_rfl
def zjb (L0:zdg→Option (Bool × Unit)):(ze × (zb × (Int × Unit)))→Option (Bool × Unit):=fun (x0,x1,x2,()) =>
  inR x2 ((List.length x1.2.1):Int) (Option.bind (znj ((ix zf x1.2.1 x2).1,())) fun q0=>bif q0.1 then Option.bind (znl ((ix zf x1.2.1 x2).2.1,())) fun q1=>bif q1.1 then Option.bind (yq ((ix zf x1.2.1 x2).2.2.1,())) fun q2=>bif q2.1 then Option.bind (znp ((ix zf x1.2.1 x2).2.2.2.1,())) fun q3=>bif q3.1 then Option.bind (znr ((ix zf x1.2.1 x2).2.2.2.2.1,())) fun q4=>bif q4.1 then L0 (x2,0,x0,x1,ix zf x1.2.1 x2) else some (false,()) else some (false,()) else some (false,()) else some (false,()) else some (false,()))
def zf9:(ze × zb × Int × Unit)→Option (Bool × Unit):=zjb (zk7 K0)
abbrev zu8:Fun:=⟨163,(ch [zw,zn,tI]),(ch [.bool]),0,zf9⟩
theorem zGF:Sq zu8:=ml5 (d:=false) (S:=fun K=>zjb (zk7 K)) Tryz.func163 (by kernel_rfl) (fun K=>tr1 (T:=zjb) (zCz K K) fun (x0,x1,x2,())=>by kernel_rfl) rfl
abbrev L6:List Fun:=zpw :: zxl :: zu7 :: zxm :: zxn :: zu8 :: L5
theorem h6:Sds Tryz.prog E0 L6:=⟨zAr,zJf,zGE,zJg,zJh,zGF,h5⟩
theorem ms6 {d:Bool} {F:Fun} {f:Go.Func} {K:Nat} (hf:Tryz.prog.funcs[F.id]? = some f) (ho:jq f = true) (h:evF (En E0 d L6) K f F.md F.a F.r = F.spec):Sd Tryz.prog E0 F:=mkS h6 hf ho h
theorem ml6 {d:Bool} {F:Fun} {f:Go.Func} {S:Nat→F.a.I→Option F.r.I} (hf:Tryz.prog.funcs[F.id]? = some f) (ho:jq f = true) (h:∀ K,evF (En E0 d L6) K f F.md F.a F.r = S K) (e:S K0 = F.spec):Sd Tryz.prog E0 F:=mkS h6 hf ho ((h K0).trans e)
abbrev Es6:Env:=En E0 false L6
abbrev zdp:Type:=Int × Int × ze × List (Option ((ze × Unit)→Option (Bool × Unit)))
abbrev zCA:zdp→St:=fun (v6,v7,o0,o1)=>St.mk [(1,.bp 0 []),(5,.ow 1),(6,.dat tI v6),(7,.dat tI v7)] [.bx (.dat zw o0) false,.row (.fn (.pair zw .unit) (.pair .bool .unit)) o1 false]
def zgJ (k0:zdp→Option (Bool × Unit)):zdp→Option (Bool × Unit):=fun (v6,v7,o0,o1) =>
  bif decide (v7 < v6) then inR v7 ((List.length o1):Int) (Option.bind (List.getD o1 (Int.toNat v7) (zd (.fn (.pair zw .unit) (.pair .bool .unit)))) fun q0=>Option.bind (q0 (o0,())) fun q1=>bif q1.1 then k0 (v6,wI (v7 + 1),o0,o1) else some (false,())) else some (true,())
abbrev zq0 (K:Nat):zdp→Option (Bool × Unit):=zg zgJ K
theorem zCB (K:Nat):∀ n,evV Es6 K Tryz.f94 0 (ch [.bool]) [1,0,1,0] [] zCA n = zg zgJ n:=zq fun n0 (v6,v7,o0,o1)=>by kernel_rfl
def znB (L0:zdp→Option (Bool × Unit)):(ze × Unit)→Option (Bool × Unit):=fun (x0,()) =>
  L0 (((List.length (zm (zm (zm (zm (zm (zm (List.replicate 6 (zd (.fn (.pair zw .unit) (.pair .bool .unit)))) 0 (some vL)) 1 (some yr)) 2 (some jW)) 3 (some vJ)) 4 (some vK)) 5 (some zah))):Int),0,x0,[some vL,some yr,some jW,some vJ,some vK,some zah])
def zaG:(ze × Unit)→Option (Bool × Unit):=znB (zq0 K0)
abbrev zu9:Fun:=⟨94,(ch [zw]),(ch [.bool]),0,zaG⟩
theorem zGG:Sq zu9:=ml6 (d:=false) (S:=fun K=>znB (zq0 K)) Tryz.func94 (by kernel_rfl) (fun K=>tr1 (T:=znB) (zCB K K) fun (x0,())=>by kernel_rfl) rfl
def zgK:(zp × Unit)→Option (Bool × Unit):=fun (x0,()) =>
  Option.bind (zk3 (x0.1,())) fun q0=>bif q0.1 then Option.bind (zpk (x0.2.1,())) fun q1=>bif q1.1 then Option.bind (zb7 (x0.2.2.1,())) fun q2=>bif q2.1 then Option.bind (zk4 (x0.2.2.2.1,())) fun q3=>bif q3.1 then Option.bind (zja (x0.2.2.2.2.1,())) fun q4=>bif q4.1 then some (true,()) else some (false,()) else some (false,()) else some (false,()) else some (false,()) else some (false,())
abbrev zq1:Fun:=⟨103,(ch [zy]),(ch [.bool]),0,zgK⟩
theorem zCC:Sq zq1:=ms6 (d:=false) (K:=0) Tryz.func103 (by kernel_rfl) (funext fun (x0,())=>by kernel_rfl)
abbrev zdq:Type:=Int × Int × (List zp) × Int × Int × qW
abbrev zq2:zdq→St:=fun (v3,v10,v15,v16,v17,o0)=>St.mk [(1,.bp 0 []),(3,.dat tI v3),(10,.dat tI v10),(15,.dat (.sl zy) v15),(16,.dat tI v16),(17,.dat tI v17)] [.bx (.dat qp o0) false]
abbrev yf:Type:=Int × qW
abbrev zq3:yf→St:=fun (v10,o0)=>St.mk [(1,.bp 0 []),(10,.dat tI v10)] [.bx (.dat qp o0) false]
def zdr (k0:yf→Option (Bool × Unit)) (k1:zdq→Option (Bool × Unit)):zdq→Option (Bool × Unit):=fun (v3,v10,v15,v16,v17,o0) =>
  bif decide (v17 < v16) then inR v17 ((List.length v15):Int) (inR v3 (↑4:Int) (inR v17 ((List.length o0.1.2.2.2.2.1):Int) (bif decide (List.getD (ix zf v15 v17).2.2.2.2.2.2.2.1 (Int.toNat v3) (0:Int) > (ix qt o0.1.2.2.2.2.1 v17).2.2.2.2.2.1) then some (false,()) else k1 (v3,v10,v15,v16,wI (v17 + 1),o0)))) else Option.bind (zk6 (o0.2.1,v3,())) fun q0=>Option.bind (zkZ (o0.2.1,v3,())) fun q1=>bif q0.2.1 != 0 then some (false,()) else bif q1.2.1 != 0 then some (false,()) else bif q0.1 != q1.1 then some (false,()) else k0 (wI (v10 + 1),o0)
abbrev zds (K:Nat) (k0:yf→Option (Bool × Unit)):zdq→Option (Bool × Unit):=zg (fun k1=>zdr k0 k1) K
theorem zCD (K:Nat) (n0:Nat):∀ n,evV Es6 K Tryz.f68 0 (ch [.bool]) [1,0,1,0,0,1,1,0,0,1,0,1,0] [n0] zq2 n = zg (fun k1=>zdr (evV Es6 K Tryz.f68 0 (ch [.bool]) [1,0,1,0] [] zq3 n0) k1) n:=zq fun n1 (v3,v10,v15,v16,v17,o0)=>by kernel_rfl
def zdt (L1:zdq→Option (Bool × Unit)) (k0:yf→Option (Bool × Unit)):yf→Option (Bool × Unit):=fun (v10,o0) =>
  bif decide (v10 < 4) then L1 (v10,v10,o0.2.1.2.1,((List.length o0.2.1.2.1):Int),0,o0) else some (true,())
abbrev zq4 (K:Nat):yf→Option (Bool × Unit):=zg (fun k0=>zdt (zds K k0) k0) K
theorem zCE (K:Nat):∀ n,evV Es6 K Tryz.f68 0 (ch [.bool]) [1,0,1,0] [] zq3 n = zg (fun k0=>zdt (zds K k0) k0) n:=qu (B:=fun L1 k0=>zdt L1 k0) (V1:=fun n0=>evV Es6 K Tryz.f68 0 (ch [.bool]) [1,0,1,0,0,1,1,0,0,1,0,1,0] [n0] zq2 K) (W1:=fun k0=>(zds K k0)) (fun n0=>zCD K n0 K) fun n0 (v10,o0)=>by kernel_rfl
def znC (L0:yf→Option (Bool × Unit)):(qW × Unit)→Option (Bool × Unit):=fun (x0,()) =>
  L0 (0,x0)
def zga:(qW × Unit)→Option (Bool × Unit):=znC (zq4 K0)
abbrev zva:Fun:=⟨68,(ch [qp]),(ch [.bool]),0,zga⟩
theorem zGH:Sq zva:=ml6 (d:=false) (S:=fun K=>znC (zq4 K)) Tryz.func68 (by kernel_rfl) (fun K=>tr1 (T:=znC) (zCE K K) fun (x0,())=>by kernel_rfl) rfl
def zk8:((List zh) × (ByteArray × (Int × Unit)))→Option ((List zh) × (Int × (Int × Unit))):=fun (x0,x1,x2,()) =>
  Option.bind (zb7 (x0,())) fun q0=>bif q0.1 then Option.bind (jU ((1,x2,(zd qm).2.2),())) fun q1=>bif q1.1 then Option.bind (zak (x1,())) fun q2=>bif q2.1 then Option.bind (zdS (x0,())) fun q3=>Option.bind (zn9 ((true,x1,(zd zi).2.2),(1,x2,(zd qm).2.2),())) fun q4=>Option.bind (zhK (q3.1,q4.1,())) fun q5=>some q5 else some ([],0,2,()) else some ([],0,1,()) else some ([],0,1,())
abbrev zxo:Fun:=⟨73,(ch [(.sl zi),.str,tI]),(ch [(.sl zi),tI,tI]),0,zk8⟩
theorem zJi:Sq zxo:=ms6 (d:=false) (K:=0) Tryz.func73 (by kernel_rfl) (funext fun (x0,x1,x2,())=>by kernel_rfl)
def zbJ:((List zh) × (Int × (qS × (qS × Unit))))→Option ((List zh) × (Int × Unit)):=fun (x0,x1,x2,x3,()) =>
  Option.bind (zb7 (x0,())) fun q0=>bif q0.1 then Option.bind (jU (x2,())) fun q1=>bif q1.1 then Option.bind (jU (x3,())) fun q2=>bif q2.1 then Option.bind (zdS (x0,())) fun q3=>Option.bind (zhC (q3.1,x1,())) fun q4=>bif q4.1 then inR x1 ((List.length x0):Int) (Option.bind (zhv (ix zj x0 x1,())) fun q5=>bif !eqI qm q5.1 x2 then some ([],3,()) else Option.bind (zdS (x0,())) fun q6=>inR x1 ((List.length x0):Int) (Option.bind (zn9 (ix zj x0 x1,x3,())) fun q7=>Option.bind (za9 (q6.1,x1,q7.1,())) fun q8=>some q8)) else some ([],3,()) else some ([],1,()) else some ([],1,()) else some ([],1,())
abbrev zxp:Fun:=⟨158,(ch [(.sl zi),tI,qm,qm]),(ch [(.sl zi),tI]),0,zbJ⟩
theorem zJj:Sq zxp:=ms6 (d:=false) (K:=0) Tryz.func158 (by kernel_rfl) (funext fun (x0,x1,x2,x3,())=>by kernel_rfl)
abbrev zdu:Type:=Int × Int × ze × zb
abbrev zq5:zdu→St:=fun (v5,v6,o0,o1)=>St.mk [(2,.bp 0 []),(3,.bp 1 []),(5,.dat tI v5),(6,.dat tI v6)] [.bx (.dat zw o0) false,.bx (.dat zn o1) false]
abbrev zdv:Type:=Int × zb
abbrev zq6:zdv→St:=fun (v7,o0)=>St.mk [(3,.bp 0 []),(7,.dat tI v7)] [.bx (.dat zn o0) false]
abbrev yg:Type:=Int × ze × zb
abbrev zq7:yg→St:=fun (v5,o0,o1)=>St.mk [(2,.bp 0 []),(3,.bp 1 []),(5,.dat tI v5)] [.bx (.dat zw o0) false,.bx (.dat zn o1) false]
def zgL (k0:yg→Option (Bool × Unit)) (k1:zdu→Option (Bool × Unit)):zdu→Option (Bool × Unit):=fun (v5,v6,o0,o1) =>
  bif decide (v6 < 4) then inR v5 ((List.length o1.2.1):Int) (inR v6 (↑4:Int) (inR v5 ((List.length o0.2.2.2.2.1):Int) (bif decide (List.getD (ix zf o1.2.1 v5).2.2.2.2.2.2.2.1 (Int.toNat v6) (0:Int) > (ix qt o0.2.2.2.2.1 v5).2.2.2.2.2.1) then some (false,()) else k1 (v5,wI (v6 + 1),o0,o1)))) else k0 (wI (v5 + 1),o0,o1)
abbrev zgM (K:Nat) (k0:yg→Option (Bool × Unit)):zdu→Option (Bool × Unit):=zg (fun k1=>zgL k0 k1) K
theorem zCF (K:Nat) (n0:Nat):∀ n,evV Es6 K Tryz.f82 0 (ch [.bool]) [1,1,0,1,0,0,1,0,0,1,1,0] [n0] zq5 n = zg (fun k1=>zgL (evV Es6 K Tryz.f82 0 (ch [.bool]) [1,1,0,1,0] [] zq7 n0) k1) n:=zq fun n1 (v5,v6,o0,o1)=>by kernel_rfl
def zk9 (k2:zdv→Option (Bool × Unit)):zdv→Option (Bool × Unit):=fun (v7,o0) =>
  bif decide (v7 < 4) then Option.bind (zkO (o0,v7,())) fun q4=>Option.bind (zkJ (o0,v7,())) fun q5=>bif q4.2.1 != 0 then some (false,()) else bif q5.2.1 != 0 then some (false,()) else bif q4.1 != q5.1 then some (false,()) else k2 (wI (v7 + 1),o0) else some (true,())
abbrev zdw (K:Nat):zdv→Option (Bool × Unit):=zg zk9 K
theorem zCG (K:Nat):∀ n,evV Es6 K Tryz.f82 0 (ch [.bool]) [1,1,1,0,1,0] [] zq6 n = zg zk9 n:=zq fun n2 (v7,o0)=>by kernel_rfl
def zdx (L1:zdu→Option (Bool × Unit)) (L2:zdv→Option (Bool × Unit)) (k0:yg→Option (Bool × Unit)):yg→Option (Bool × Unit):=fun (v5,o0,o1) =>
  bif decide (v5 < ((List.length o1.2.1):Int)) then Option.bind (zf9 (o0,o1,v5,())) fun q3=>bif q3.1 then L1 (v5,0,o0,o1) else some (false,()) else L2 (0,o1)
abbrev zla (K:Nat):yg→Option (Bool × Unit):=zg (fun k0=>zdx (zgM K k0) (zdw K) k0) K
theorem zCH (K:Nat):∀ n,evV Es6 K Tryz.f82 0 (ch [.bool]) [1,1,0,1,0] [] zq7 n = zg (fun k0=>zdx (zgM K k0) (zdw K) k0) n:=zOC (B:=fun L1 L2 k0=>zdx L1 L2 k0) (V1:=fun n0=>evV Es6 K Tryz.f82 0 (ch [.bool]) [1,1,0,1,0,0,1,0,0,1,1,0] [n0] zq5 K) (V2:=fun n0=>evV Es6 K Tryz.f82 0 (ch [.bool]) [1,1,1,0,1,0] [] zq6 K) (W1:=fun k0=>(zgM K k0)) (W2:=fun k0=>(zdw K)) (fun n0=>zCF K n0 K) (fun n0=>zCG K K) fun n0 (v5,o0,o1)=>by kernel_rfl
def zjc (L0:yg→Option (Bool × Unit)):(ze × (zb × Unit))→Option (Bool × Unit):=fun (x0,x1,()) =>
  Option.bind (zf4 (x0,())) fun q0=>bif q0.1 then Option.bind (ziY (x0,x1,())) fun q1=>bif q1.1 then Option.bind (zhP (x0,x1,())) fun q2=>bif q2.1 then L0 (0,x0,x1) else some (false,()) else some (false,()) else some (false,())
def zjd:(ze × zb × Unit)→Option (Bool × Unit):=zjc (zla K0)
abbrev zvb:Fun:=⟨82,(ch [zw,zn]),(ch [.bool]),0,zjd⟩
theorem zGI:Sq zvb:=ml6 (d:=false) (S:=fun K=>zjc (zla K)) Tryz.func82 (by kernel_rfl) (fun K=>tr1 (T:=zjc) (zCH K K) fun (x0,x1,())=>by kernel_rfl) rfl
abbrev L7:List Fun:=zu9 :: zq1 :: zva :: zxo :: zxp :: zvb :: L6
theorem h7:Sds Tryz.prog E0 L7:=⟨zGG,zCC,zGH,zJi,zJj,zGI,h6⟩
theorem ms7 {d:Bool} {F:Fun} {f:Go.Func} {K:Nat} (hf:Tryz.prog.funcs[F.id]? = some f) (ho:jq f = true) (h:evF (En E0 d L7) K f F.md F.a F.r = F.spec):Sd Tryz.prog E0 F:=mkS h7 hf ho h
theorem ml7 {d:Bool} {F:Fun} {f:Go.Func} {S:Nat→F.a.I→Option F.r.I} (hf:Tryz.prog.funcs[F.id]? = some f) (ho:jq f = true) (h:∀ K,evF (En E0 d L7) K f F.md F.a F.r = S K) (e:S K0 = F.spec):Sd Tryz.prog E0 F:=mkS h7 hf ho ((h K0).trans e)
abbrev Es7:Env:=En E0 false L7
abbrev Ed7:Env:=En E0 true L7
abbrev zdy:Type:=Int × (List zp) × Int × Int × qW
abbrev zCI:zdy→St:=fun (v3,v65,v66,v67,o0)=>St.mk [(1,.bp 0 []),(3,.dat tI v3),(65,.dat (.sl zy) v65),(66,.dat tI v66),(67,.dat tI v67)] [.bx (.dat qp o0) false]
def zgN (k0:zdy→Option (Bool × Unit)):zdy→Option (Bool × Unit):=fun (v3,v65,v66,v67,o0) =>
  bif decide (v67 < v66) then inR v67 ((List.length v65):Int) (inR v67 ((List.length o0.1.2.2.2.2.1):Int) (bif ((List.length (ix zf v65 v67).1):Int) != (ix qt o0.1.2.2.2.2.1 v67).1 then some (false,()) else bif ((List.length (ix zf v65 v67).2.1):Int) != (ix qt o0.1.2.2.2.2.1 v67).2.1 then some (false,()) else bif ((List.length (ix zf v65 v67).2.2.1):Int) != (ix qt o0.1.2.2.2.2.1 v67).2.2.1 then some (false,()) else bif ((List.length (ix zf v65 v67).2.2.2.1):Int) != (ix qt o0.1.2.2.2.2.1 v67).2.2.2.1 then some (false,()) else bif ((List.length (ix zf v65 v67).2.2.2.2.1):Int) != (ix qt o0.1.2.2.2.2.1 v67).2.2.2.2.1 then some (false,()) else bif ((List.length (ix zf v65 v67).2.2.2.2.2.1):Int) != v3 then some (false,()) else bif ((List.length (ix zf v65 v67).2.2.2.2.2.2.1):Int) != v3 then some (false,()) else k0 (v3,v65,v66,wI (v67 + 1),o0))) else some (true,())
abbrev zlb (K:Nat):zdy→Option (Bool × Unit):=zg zgN K
theorem zCJ (K:Nat):∀ n,evV Es7 K Tryz.f62 0 (ch [.bool]) [1,1,1,0,1,0] [] zCI n = zg zgN n:=zq fun n0 (v3,v65,v66,v67,o0)=>by kernel_rfl
def zje (L0:zdy→Option (Bool × Unit)):(qW × Unit)→Option (Bool × Unit):=fun (x0,()) =>
  Option.bind (zaG (x0.1,())) fun q0=>bif q0.1 then bif ((List.length x0.2.1.2.1):Int) != ((List.length x0.1.1):Int) then some (false,()) else bif ((List.length x0.2.1.2.2.2.1):Int) != x0.1.2.2.2.2.2.1 then some (false,()) else bif decide (((List.length x0.2.1.2.2.2.2.1):Int) > x0.1.2.2.2.2.2.2.1) then some (false,()) else bif ((List.length x0.2.1.2.2.2.2.2.1):Int) != ((List.length x0.1.2.1):Int) then some (false,()) else bif decide (x0.2.1.1 > 4611686018427387904) then some (false,()) else L0 (((List.length x0.1.2.2.1):Int),x0.2.1.2.1,((List.length x0.2.1.2.1):Int),0,x0) else some (false,())
def zb8:(qW × Unit)→Option (Bool × Unit):=zje (zlb K0)
abbrev zvc:Fun:=⟨62,(ch [qp]),(ch [.bool]),0,zb8⟩
theorem zGJ:Sq zvc:=ml7 (d:=false) (S:=fun K=>zje (zlb K)) Tryz.func62 (by kernel_rfl) (fun K=>tr1 (T:=zje) (zCJ K K) fun (x0,())=>by kernel_rfl) rfl
def zb9:(qW × Unit)→Option (Bool × Unit):=fun (x0,()) =>
  Option.bind (zif (x0.2.1.2.1,some zgK,())) fun q0=>bif q0.1 then some (true,()) else some (false,())
abbrev zvd:Fun:=⟨63,(ch [qp]),(ch [.bool]),0,zb9⟩
theorem zGK:Sq zvd:=ms7 (d:=false) (K:=0) Tryz.func63 (by kernel_rfl) (funext fun (x0,())=>by kernel_rfl)
abbrev ze6:Type:=(Option ((Int × Unit)→Option (Bool × Unit))) × (List (List Int)) × Int × Int × ze
abbrev zED:ze6→St:=fun (v5,v19,v20,v21,o0)=>St.mk [(2,.bp 0 []),(5,.dat (.fn (.pair tI .unit) (.pair .bool .unit)) v5),(19,.dat (.sl (.sl tI)) v19),(20,.dat tI v20),(21,.dat tI v21)] [.bx (.dat zw o0) false]
def zhQ (k0:ze6→Option (Bool × Unit)):ze6→Option (Bool × Unit):=fun (v5,v19,v20,v21,o0) =>
  bif decide (v21 < v20) then inR v21 ((List.length v19):Int) (bif ((List.length (List.getD v19 (Int.toNat v21) ([]:List Int))):Int) != ((List.length o0.2.2.1):Int) then some (false,()) else Option.bind (qN (List.getD v19 (Int.toNat v21) ([]:List Int),v5,())) fun q1=>bif q1.1 then some (false,()) else inR v21 ((List.length o0.2.2.2.1):Int) (inR (ix qB o0.2.2.2.1 v21).2.1 ((List.length (List.getD v19 (Int.toNat v21) ([]:List Int))):Int) (bif List.getD (List.getD v19 (Int.toNat v21) ([]:List Int)) (Int.toNat (ix qB o0.2.2.2.1 v21).2.1) (0:Int) != 2 then some (false,()) else k0 (v5,v19,v20,wI (v21 + 1),o0)))) else some (true,())
abbrev zl7 (K:Nat):ze6→Option (Bool × Unit):=zg zhQ K
theorem zEE (K:Nat):∀ n,evV Es7 K Tryz.f109 0 (ch [.bool]) [1,1,1,0,1,0] [] zED n = zg zhQ n:=zq fun n0 (v5,v19,v20,v21,o0)=>by kernel_rfl
def zlc (L0:ze6→Option (Bool × Unit)):(ze × ((List (List Int)) × Unit))→Option (Bool × Unit):=fun (x0,x1,()) =>
  Option.bind (zaG (x0,())) fun q0=>bif q0.1 then bif ((List.length x1):Int) != ((List.length x0.2.2.2.1):Int) then some (false,()) else L0 (some za7,x1,((List.length x1):Int),0,x0) else some (false,())
def zld:(ze × (List (List Int)) × Unit)→Option (Bool × Unit):=zlc (zl7 K0)
abbrev zxq:Fun:=⟨109,(ch [zw,(.sl (.sl tI))]),(ch [.bool]),0,zld⟩
theorem zJk:Sq zxq:=ml7 (d:=false) (S:=fun K=>zlc (zl7 K)) Tryz.func109 (by kernel_rfl) (fun K=>tr1 (T:=zlc) (zEE K K) fun (x0,x1,())=>by kernel_rfl) rfl
def zjf:((List zh) × (Int × (Int × Unit)))→Option ((List zh) × (Int × Unit)):=fun (x0,x1,x2,()) =>
  Option.bind (j4 (x2,())) fun q0=>Option.bind (j4 (x2,())) fun q1=>Option.bind (zbJ (x0,x1,q0.1,q1.1,())) fun q2=>bif q2.2.1 != 0 then some ([],q2.2.1,()) else Option.bind (zdS (x0,())) fun q3=>Option.bind (za9 (q3.1,x1,zd zi,())) fun q4=>some q4
abbrev zve:Fun:=⟨75,(ch [(.sl zi),tI,tI]),(ch [(.sl zi),tI]),0,zjf⟩
theorem zGL:Sq zve:=ms7 (d:=false) (K:=0) Tryz.func75 (by kernel_rfl) (funext fun (x0,x1,x2,())=>by kernel_rfl)
def zle:((List zh) × (Int × (Int × (zE × Unit))))→Option ((List zh) × (Int × Unit)):=fun (x0,x1,x2,x3,()) =>
  Option.bind (j4 (x2,())) fun q0=>Option.bind (zeo (x3,())) fun q1=>Option.bind (zbJ (x0,x1,q0.1,q1.1,())) fun q2=>some q2
abbrev zxr:Fun:=⟨77,(ch [(.sl zi),tI,tI,zv]),(ch [(.sl zi),tI]),0,zle⟩
theorem zJl:Sq zxr:=ms7 (d:=false) (K:=0) Tryz.func77 (by kernel_rfl) (funext fun (x0,x1,x2,x3,())=>by kernel_rfl)
def zlf:((List zh) × (Int × (Int × (zE × Unit))))→Option ((List zh) × (Int × Unit)):=fun (x0,x1,x2,x3,()) =>
  Option.bind (zeo (x3,())) fun q0=>Option.bind (j4 (x2,())) fun q1=>Option.bind (zbJ (x0,x1,q0.1,q1.1,())) fun q2=>some q2
abbrev zxs:Fun:=⟨79,(ch [(.sl zi),tI,tI,zv]),(ch [(.sl zi),tI]),0,zlf⟩
theorem zJm:Sq zxs:=ms7 (d:=false) (K:=0) Tryz.func79 (by kernel_rfl) (funext fun (x0,x1,x2,x3,())=>by kernel_rfl)
def zlg:((List zh) × (Int × (Int × (Int × Unit))))→Option ((List zh) × (Int × Unit)):=fun (x0,x1,x2,x3,()) =>
  Option.bind (j4 (x2,())) fun q0=>Option.bind (j4 (x3,())) fun q1=>Option.bind (zbJ (x0,x1,q0.1,q1.1,())) fun q2=>some q2
abbrev zxt:Fun:=⟨81,(ch [(.sl zi),tI,tI,tI]),(ch [(.sl zi),tI]),0,zlg⟩
theorem zJn:Sq zxt:=ms7 (d:=false) (K:=0) Tryz.func81 (by kernel_rfl) (funext fun (x0,x1,x2,x3,())=>by kernel_rfl)
def zgj:(ze × (zb × (pMe × Unit)))→Option (Bool × Unit):=fun (x0,x1,x2,()) =>
  Option.bind (zjd (x0,x1,())) fun q0=>bif q0.1 then Option.bind (zkK (x0,x2,())) fun q1=>bif q1.1 then some (true,()) else some (false,()) else some (false,())
abbrev zy8:Fun:=⟨40,(ch [zw,zn,tMe]),(ch [.bool]),0,zgj⟩
theorem zLo:Sq zy8:=ms7 (d:=false) (K:=0) Tryz.func40 (by kernel_rfl) (funext fun (x0,x1,x2,())=>by kernel_rfl)
def zdz:(ze × (Int × Unit))→Option (Bool × Unit):=fun (x0,x1,()) =>
  Option.bind (zaG (x0,())) fun q0=>bif q0.1 then Option.bind (qw (x1,0,wI (((List.length x0.1):Int) - 1),())) fun q1=>bif q1.1 then some (true,()) else some (false,()) else some (false,())
abbrev zq8:Fun:=⟨91,(ch [zw,tI]),(ch [.bool]),0,zdz⟩
theorem zCK:Sq zq8:=ms7 (d:=false) (K:=0) Tryz.func91 (by kernel_rfl) (funext fun (x0,x1,())=>by kernel_rfl)
abbrev zg9:Type:=(List zE) × Int × Int × ze × List (List Int) × Nat
abbrev zJo:zg9→St:=fun (v11,v12,v13,o0,o1,c1)=>St.mk [(1,.bp 0 []),(3,.ow 1),(11,.dat (.sl jt) v11),(12,.dat tI v12),(13,.dat tI v13)] [.bx (.dat zw o0) false,.drow (.sl tI) o1 c1]
def zxu (k0:zg9→Option ((List (List Int)) × Unit)):zg9→Option ((List (List Int)) × Unit):=fun (v11,v12,v13,o0,o1,c1) =>
  bif decide (v13 < v12) then inR v13 ((List.length v11):Int) (bif decide (((List.length o0.2.2.1):Int) ≤ ((List.length o0.2.2.1):Int)) then bif decide (((List.length o0.2.2.1):Int) ≤ (↑lim:Int)) then inR (ix qB v11 v13).2.1 ((List.length (List.replicate (Int.toNat ((List.length o0.2.2.1):Int)) (0:Int))):Int) (bif decide (List.length o1 + List.length [List.set (List.replicate (Int.toNat ((List.length o0.2.2.1):Int)) (0:Int)) (Int.toNat (ix qB v11 v13).2.1) 2] ≤ lim) then bif decide (c1 = List.length o1) then k0 (v11,v12,wI (v13 + 1),o0,o1 ++ [List.set (List.replicate (Int.toNat ((List.length o0.2.2.1):Int)) (0:Int)) (Int.toNat (ix qB v11 v13).2.1) 2],c1 + (0 + 1)) else none else none) else none else none) else bif decide (c1 = List.length o1) then some (o1,()) else none
abbrev zxv (K:Nat):zg9→Option ((List (List Int)) × Unit):=zg zxu K
theorem zJp (K:Nat):∀ n,evV Ed7 K Tryz.f95 4 (ch [(.sl (.sl tI))]) [1,1,1,0,1,0] [] zJo n = zg zxu n:=zq fun n0 (v11,v12,v13,o0,o1,c1)=>by kernel_rfl
def zt0 (L0:zg9→Option ((List (List Int)) × Unit)):(ze × Unit)→Option ((List (List Int)) × Unit):=fun (x0,()) =>
  Option.bind (zaG (x0,())) fun q0=>bif q0.1 then L0 (x0.2.2.2.1,((List.length x0.2.2.2.1):Int),0,x0,[],0) else some ([],())
def zCL:(ze × Unit)→Option ((List (List Int)) × Unit):=zt0 (zxv K0)
abbrev zCM:Fun:=⟨95,(ch [zw]),(ch [(.sl (.sl tI))]),4,zCL⟩
theorem zNk:Sq zCM:=ml7 (d:=true) (S:=fun K=>zt0 (zxv K)) Tryz.func95 (by kernel_rfl) (fun K=>tr1 (T:=zt0) (zJp K K) fun (x0,())=>by kernel_rfl) rfl
abbrev L8:List Fun:=zvc :: zvd :: zxq :: zve :: zxr :: zxs :: zxt :: zy8 :: zq8 :: zCM :: L7
theorem h8:Sds Tryz.prog E0 L8:=⟨zGJ,zGK,zJk,zGL,zJl,zJm,zJn,zLo,zCK,zNk,h7⟩
theorem ms8 {d:Bool} {F:Fun} {f:Go.Func} {K:Nat} (hf:Tryz.prog.funcs[F.id]? = some f) (ho:jq f = true) (h:evF (En E0 d L8) K f F.md F.a F.r = F.spec):Sd Tryz.prog E0 F:=mkS h8 hf ho h
theorem ml8 {d:Bool} {F:Fun} {f:Go.Func} {S:Nat→F.a.I→Option F.r.I} (hf:Tryz.prog.funcs[F.id]? = some f) (ho:jq f = true) (h:∀ K,evF (En E0 d L8) K f F.md F.a F.r = S K) (e:S K0 = F.spec):Sd Tryz.prog E0 F:=mkS h8 hf ho ((h K0).trans e)
abbrev Es8:Env:=En E0 false L8
abbrev Ed8:Env:=En E0 true L8
def zbg:(qW × Unit)→Option (Bool × Unit):=fun (x0,()) =>
  Option.bind (zld (x0.1,x0.2.1.2.2.1,())) fun q0=>bif q0.1 then Option.bind (zpt (x0.2.1.2.2.2.1,())) fun q1=>bif q1.1 then Option.bind (znz (x0.2.1.2.2.2.2.1,())) fun q2=>bif q2.1 then Option.bind (zfV (x0.2.1,zd zv,())) fun q3=>bif q3.1 then Option.bind (zig (x0.2.1.2.2.2.1,some fun z=>zfE (z.1,some x0,()),())) fun q4=>bif q4.1 then Option.bind (zd6 (x0.2.1.2.2.2.2.1,some fun z=>zbo (z.1,some x0,()),())) fun q5=>bif q5.1 then Option.bind (zat (x0.2.1.2.2.2.2.2.1,some fun z=>vt (z.1,some x0,()),())) fun q6=>bif q6.1 then some (true,()) else some (false,()) else Option.bind (zat (x0.2.1.2.2.2.2.2.1,some fun z=>vt (z.1,some x0,()),())) fun q7=>bif q7.1 then some (false,()) else some (false,()) else Option.bind (zd6 (x0.2.1.2.2.2.2.1,some fun z=>zbo (z.1,some x0,()),())) fun q8=>bif q8.1 then Option.bind (zat (x0.2.1.2.2.2.2.2.1,some fun z=>vt (z.1,some x0,()),())) fun q9=>bif q9.1 then some (false,()) else some (false,()) else Option.bind (zat (x0.2.1.2.2.2.2.2.1,some fun z=>vt (z.1,some x0,()),())) fun q10=>bif q10.1 then some (false,()) else some (false,()) else some (false,()) else some (false,()) else some (false,()) else some (false,())
abbrev zs8:Fun:=⟨64,(ch [qp]),(ch [.bool]),0,zbg⟩
theorem zEF:Sq zs8:=ms8 (d:=false) (K:=0) Tryz.func64 (by kernel_rfl) (funext fun (x0,())=>by kernel_rfl)
def zlh:((List zh) × ((Option Int) × ((Option pMe) × Unit)))→Option ((List zh) × (Int × Unit)):=fun (x0,x1,x2,()) =>
  Option.bind x1 fun q0=>Option.bind x2 fun q1=>Option.bind (zjf (x0,q0,q1.2.2.1,())) fun q2=>some q2
abbrev zq9:Fun:=⟨74,(ch [(.sl zi),(.ptr tI),(.ptr tMe)]),(ch [(.sl zi),tI]),0,zlh⟩
theorem zCN:Sq zq9:=ms8 (d:=false) (K:=0) Tryz.func74 (by kernel_rfl) (funext fun (x0,x1,x2,())=>by kernel_rfl)
def zl8:((List zh) × ((Option Int) × ((Option pMe) × ((Option zb) × Unit))))→Option ((List zh) × (Int × Unit)):=fun (x0,x1,x2,x3,()) =>
  Option.bind x1 fun q0=>Option.bind x2 fun q1=>Option.bind x3 fun q2=>Option.bind x2 fun q3=>Option.bind (yn (q2,q3,())) fun q4=>Option.bind (zle (x0,q0,q1.2.2.1,q4.1,())) fun q5=>some q5
abbrev zs9:Fun:=⟨76,(ch [(.sl zi),(.ptr tI),(.ptr tMe),(.ptr zn)]),(ch [(.sl zi),tI]),0,zl8⟩
theorem zEG:Sq zs9:=ms8 (d:=false) (K:=0) Tryz.func76 (by kernel_rfl) (funext fun (x0,x1,x2,x3,())=>by kernel_rfl)
def zl9:((List zh) × ((Option Int) × ((Option pMe) × ((Option zb) × Unit))))→Option ((List zh) × (Int × Unit)):=fun (x0,x1,x2,x3,()) =>
  Option.bind x1 fun q0=>Option.bind x2 fun q1=>Option.bind x3 fun q2=>Option.bind x2 fun q3=>Option.bind (yn (q2,q3,())) fun q4=>Option.bind (zlf (x0,q0,q1.2.2.1,q4.1,())) fun q5=>some q5
abbrev zta:Fun:=⟨78,(ch [(.sl zi),(.ptr tI),(.ptr tMe),(.ptr zn)]),(ch [(.sl zi),tI]),0,zl9⟩
theorem zEH:Sq zta:=ms8 (d:=false) (K:=0) Tryz.func78 (by kernel_rfl) (funext fun (x0,x1,x2,x3,())=>by kernel_rfl)
end
end Go.Proofs.YtejbgeokcpillaaGreatDoor
end
section
namespace Go.Proofs.YtejbgeokcpillaaGreatDoor
open Go.Ev
noncomputable section
def zmD:(ze × (zb × (pMe × (Int × (Int × (Int × (ByteArray × Unit)))))))→Option (zb × (Int × (Int × Unit))):=fun (x0,x1,x2,x3,x4,x5,x6,()) =>
  Option.bind (zgj (x0,x1,x2,())) fun q0=>bif q0.1 then inR x2.2.1 ((List.length x1.2.1):Int) (bif x3 == 1 then Option.bind (zkQ ((ix zf x1.2.1 x2.2.1).2.2.1,x6,x2.2.2.1,())) fun q1=>bif q1.2.2.1 != 0 then some ((0,[],[],[],[],[],()),0,q1.2.2.1,()) else Option.bind (vZ (x1,x2.2.1,(u2 (ix zf x1.2.1 x2.2.1) q1.1),())) fun q2=>some (q2.1,q1.2.1,0,()) else bif x3 == 2 then Option.bind (zi5 ((ix zf x1.2.1 x2.2.1).2.2.1,x4,x2.2.2.1,())) fun q3=>bif q3.2.1 != 0 then some ((0,[],[],[],[],[],()),0,q3.2.1,()) else Option.bind (vZ (x1,x2.2.1,(u2 (ix zf x1.2.1 x2.2.1) q3.1),())) fun q4=>some (q4.1,0,0,()) else bif x3 == 3 then Option.bind (zep (x1,x2,())) fun q5=>Option.bind (zkR ((ix zf x1.2.1 x2.2.1).2.2.1,x4,x2.2.2.1,q5.1,())) fun q6=>bif q6.2.1 != 0 then some ((0,[],[],[],[],[],()),0,q6.2.1,()) else Option.bind (vZ (x1,x2.2.1,(u2 (ix zf x1.2.1 x2.2.1) q6.1),())) fun q7=>some (q7.1,0,0,()) else bif x3 == 4 then Option.bind (zep (x1,x2,())) fun q8=>Option.bind (zkS ((ix zf x1.2.1 x2.2.1).2.2.1,x4,x2.2.2.1,q8.1,())) fun q9=>bif q9.2.1 != 0 then some ((0,[],[],[],[],[],()),0,q9.2.1,()) else Option.bind (vZ (x1,x2.2.1,(u2 (ix zf x1.2.1 x2.2.1) q9.1),())) fun q10=>some (q10.1,0,0,()) else bif decide (x5 < 0) then some ((0,[],[],[],[],[],()),0,1,()) else bif decide (x5 ≥ ((List.length x0.2.2.1):Int)) then some ((0,[],[],[],[],[],()),0,1,()) else bif x5 == x2.2.2.1 then some ((0,[],[],[],[],[],()),0,1,()) else Option.bind (vH ((ix zf x1.2.1 x2.2.1).2.2.1,x4,x2.2.2.1,())) fun q11=>bif q11.1 then inR x5 ((List.length (ix zf x1.2.1 x2.2.1).2.2.2.2.2.2.1):Int) (inR x2.2.2.1 ((List.length (ix zf x1.2.1 x2.2.1).2.2.2.2.2.2.1):Int) (bif !eqI zv (List.getD (ix zf x1.2.1 x2.2.1).2.2.2.2.2.2.1 (Int.toNat x5) (zd zv)) (List.getD (ix zf x1.2.1 x2.2.1).2.2.2.2.2.2.1 (Int.toNat x2.2.2.1) (zd zv)) then some ((0,[],[],[],[],[],()),0,5,()) else Option.bind (zkT ((ix zf x1.2.1 x2.2.1).2.2.1,x4,x2.2.2.1,1,x5,())) fun q12=>bif q12.2.1 != 0 then some ((0,[],[],[],[],[],()),0,q12.2.1,()) else Option.bind (vZ (x1,x2.2.1,(u2 (ix zf x1.2.1 x2.2.1) q12.1),())) fun q13=>some (q13.1,0,0,()))) else some ((0,[],[],[],[],[],()),0,3,())) else some ((0,[],[],[],[],[],()),0,1,())
abbrev zy9:Fun:=⟨8,(ch [zw,zn,tMe,tI,tI,tI,.str]),(ch [zn,tI,tI]),0,zmD⟩
theorem zLp:Sq zy9:=ms8 (d:=false) (K:=0) Tryz.func8 (by kernel_rfl) (funext fun (x0,x1,x2,x3,x4,x5,x6,())=>by kernel_rfl)
def zmE:(ze × (zb × (pMe × Unit)))→Option ((List Int) × (Int × Unit)):=fun (x0,x1,x2,()) =>
  Option.bind (zgj (x0,x1,x2,())) fun q0=>bif q0.1 then inR x2.2.1 ((List.length x1.2.1):Int) (Option.bind (zph ((ix zf x1.2.1 x2.2.1).2.2.1,x2.2.2.1,())) fun q1=>some (q1.1,0,())) else some ([],1,())
abbrev zza:Fun:=⟨10,(ch [zw,zn,tMe]),(ch [(.sl tI),tI]),0,zmE⟩
theorem zLq:Sq zza:=ms8 (d:=false) (K:=0) Tryz.func10 (by kernel_rfl) (funext fun (x0,x1,x2,())=>by kernel_rfl)
def zmF:(ze × (Int × (Int × Unit)))→Option (Bool × Unit):=fun (x0,x1,x2,()) =>
  Option.bind (zdz (x0,x1,())) fun q0=>bif q0.1 then Option.bind (zdz (x0,x2,())) fun q1=>bif q1.1 then inR x1 ((List.length x0.1):Int) (inR x2 ((List.length x0.1):Int) (Option.bind (ziw (ix ji x0.1 x1,ix ji x0.1 x2,())) fun q2=>bif q2.1 then some (true,()) else some (false,()))) else some (false,()) else some (false,())
abbrev zzb:Fun:=⟨52,(ch [zw,tI,tI]),(ch [.bool]),0,zmF⟩
theorem zLr:Sq zzb:=ms8 (d:=false) (K:=0) Tryz.func52 (by kernel_rfl) (funext fun (x0,x1,x2,())=>by kernel_rfl)
abbrev zbK:Type:=Int × Int × ze × zb × pMe × List zE
abbrev zpx:zbK→St:=fun (v9,v10,o0,o1,o2,o3)=>St.mk [(3,.bp 0 []),(4,.bp 1 []),(5,.bp 2 []),(8,.ow 3),(9,.dat tI v9),(10,.dat tI v10)] [.bx (.dat zw o0) false,.bx (.dat zn o1) false,.bx (.dat tMe o2) false,.row jt o3 false]
abbrev vx:Type:=Int × ze × zb × pMe × List zE
abbrev zpy:vx→St:=fun (v9,o0,o1,o2,o3)=>St.mk [(3,.bp 0 []),(4,.bp 1 []),(5,.bp 2 []),(8,.ow 3),(9,.dat tI v9)] [.bx (.dat zw o0) false,.bx (.dat zn o1) false,.bx (.dat tMe o2) false,.row jt o3 false]
def zbL (k0:vx→Option ((List zE) × (Int × Unit))) (k1:zbK→Option ((List zE) × (Int × Unit))):zbK→Option ((List zE) × (Int × Unit)):=fun (v9,v10,o0,o1,o2,o3) =>
  inR v9 ((List.length o1.2.1):Int) (bif decide (v10 < ((List.length (ix zf o1.2.1 v9).2.2.1):Int)) then inR v9 ((List.length o1.2.1):Int) (inR v10 ((List.length (ix zf o1.2.1 v9).2.2.1):Int) (bif (List.getD (ix zf o1.2.1 v9).2.2.1 (Int.toNat v10) (zd zi)).1 then bif (List.getD (ix zf o1.2.1 v9).2.2.1 (Int.toNat v10) (zd zi)).2.2.1 == 2 then Option.bind (zep (o1,o2,())) fun q1=>bif eqI zv (List.getD (ix zf o1.2.1 v9).2.2.1 (Int.toNat v10) (zd zi)).2.2.2.2.1 q1.1 then Option.bind (zgi (o0,v9,o2.2.1,())) fun q2=>bif q2.1 then bif decide (List.length o3 + List.length (zm (List.replicate 1 (zd zv)) 0 (v9,v10,(zd zv).2.2)) ≤ lim) then k1 (v9,wI (v10 + 1),o0,o1,o2,o3 ++ zm (List.replicate 1 (zd zv)) 0 (v9,v10,(zd zv).2.2)) else none else k1 (v9,wI (v10 + 1),o0,o1,o2,o3) else k1 (v9,wI (v10 + 1),o0,o1,o2,o3) else k1 (v9,wI (v10 + 1),o0,o1,o2,o3) else k1 (v9,wI (v10 + 1),o0,o1,o2,o3))) else k0 (wI (v9 + 1),o0,o1,o2,o3))
abbrev zfO (K:Nat) (k0:vx→Option ((List zE) × (Int × Unit))):zbK→Option ((List zE) × (Int × Unit)):=zg (fun k1=>zbL k0 k1) K
theorem zAs (K:Nat) (n0:Nat):∀ n,evV Es8 K Tryz.f12 0 (ch [(.sl zv),tI]) [1,1,1,0,1,0,0,1,0,0,1,0] [n0] zpx n = zg (fun k1=>zbL (evV Es8 K Tryz.f12 0 (ch [(.sl zv),tI]) [1,1,1,0,1,0] [] zpy n0) k1) n:=zq fun n1 (v9,v10,o0,o1,o2,o3)=>by kernel_rfl
def yZ (L1:zbK→Option ((List zE) × (Int × Unit))) (k0:vx→Option ((List zE) × (Int × Unit))):vx→Option ((List zE) × (Int × Unit)):=fun (v9,o0,o1,o2,o3) =>
  bif decide (v9 < ((List.length o1.2.1):Int)) then L1 (v9,0,o0,o1,o2,o3) else some (o3,0,())
abbrev zpz (K:Nat):vx→Option ((List zE) × (Int × Unit)):=zg (fun k0=>yZ (zfO K k0) k0) K
theorem zAt (K:Nat):∀ n,evV Es8 K Tryz.f12 0 (ch [(.sl zv),tI]) [1,1,1,0,1,0] [] zpy n = zg (fun k0=>yZ (zfO K k0) k0) n:=qu (B:=fun L1 k0=>yZ L1 k0) (V1:=fun n0=>evV Es8 K Tryz.f12 0 (ch [(.sl zv),tI]) [1,1,1,0,1,0,0,1,0,0,1,0] [n0] zpx K) (W1:=fun k0=>(zfO K k0)) (fun n0=>zAs K n0 K) fun n0 (v9,o0,o1,o2,o3)=>by kernel_rfl
def zhR (L0:vx→Option ((List zE) × (Int × Unit))):(ze × (zb × (pMe × Unit)))→Option ((List zE) × (Int × Unit)):=fun (x0,x1,x2,()) =>
  Option.bind (zgj (x0,x1,x2,())) fun q0=>bif q0.1 then L0 (0,x0,x1,x2,[]) else some ([],1,())
def zhS:(ze × zb × pMe × Unit)→Option ((List qy) × Int × Unit):=zhR (zpz K0)
abbrev ztb:Fun:=⟨12,(ch [zw,zn,tMe]),(ch [(.sl zv),tI]),0,zhS⟩
theorem zEI:Sq ztb:=ml8 (d:=false) (S:=fun K=>zhR (zpz K)) Tryz.func12 (by kernel_rfl) (fun K=>tr1 (T:=zhR) (zAt K K) fun (x0,x1,x2,())=>by kernel_rfl) rfl
abbrev zgb:Type:=Int × Int × Int × Int × List zp × Nat × List (List Int) × Nat × List zu × List zJ × List Int × List zp × Nat × List (List Int) × Nat × List zu × List zJ × List Int
abbrev zvf:zgb→St:=fun (v42,v43,o0_0,o1_0,o2,c2,o3,c3,o4,o5,o6,o7,c7,o8,c8,o9,o10,o11)=>St.mk [(2,.bp 0 []),(4,.bp 1 []),(42,.dat tI v42),(43,.dat tI v43)] [.bx (.fld (.pair tU (.pair (.sl zy) (.pair (.sl (.sl tI)) (.pair (.sl zr) (.pair (.sl zA) (.pair (.sl tI) .unit)))))) [.dat tU o0_0,.ow 2,.ow 3,.ow 4,.ow 5,.ow 6]) false,.bx (.fld (.pair tU (.pair (.sl zy) (.pair (.sl (.sl tI)) (.pair (.sl zr) (.pair (.sl zA) (.pair (.sl tI) .unit)))))) [.dat tU o1_0,.ow 7,.ow 8,.ow 9,.ow 10,.ow 11]) false,.drow zy o2 c2,.drow (.sl tI) o3 c3,.row zr o4 false,.row zA o5 false,.row tI o6 false,.drow zy o7 c7,.drow (.sl tI) o8 c8,.row zr o9 false,.row zA o10 false,.row tI o11 false]
abbrev zgc:Type:=(List zbm) × Int × Int × ze × Int × Int × List zp × Nat × List (List Int) × Nat × List zu × List zJ × List Int × List zp × Nat × List (List Int) × Nat × List zu × List zJ × List Int
abbrev zGM:zgc→St:=fun (v18,v19,v20,o0,o1_0,o2_0,o3,c3,o4,c4,o5,o6,o7,o8,c8,o9,c9,o10,o11,o12)=>St.mk [(1,.bp 0 []),(2,.bp 1 []),(4,.bp 2 []),(18,.dat (.sl zcl) v18),(19,.dat tI v19),(20,.dat tI v20)] [.bx (.dat zw o0) false,.bx (.fld (.pair tU (.pair (.sl zy) (.pair (.sl (.sl tI)) (.pair (.sl zr) (.pair (.sl zA) (.pair (.sl tI) .unit)))))) [.dat tU o1_0,.ow 3,.ow 4,.ow 5,.ow 6,.ow 7]) false,.bx (.fld (.pair tU (.pair (.sl zy) (.pair (.sl (.sl tI)) (.pair (.sl zr) (.pair (.sl zA) (.pair (.sl tI) .unit)))))) [.dat tU o2_0,.ow 8,.ow 9,.ow 10,.ow 11,.ow 12]) false,.drow zy o3 c3,.drow (.sl tI) o4 c4,.row zr o5 false,.row zA o6 false,.row tI o7 false,.drow zy o8 c8,.drow (.sl tI) o9 c9,.row zr o10 false,.row zA o11 false,.row tI o12 false]
def zvg (k1:zgb→Option (zb × (Int × Unit))):zgb→Option (zb × (Int × Unit)):=fun (v42,v43,o0_0,o1_0,o2,c2,o3,c3,o4,o5,o6,o7,c7,o8,c8,o9,o10,o11) =>
  bif decide (v43 < v42) then bif decide (List.length o11 + List.length (zm (List.replicate 1 (0:Int)) 0 (-1)) ≤ lim) then k1 (v42,wI (v43 + 1),o0_0,o1_0,o2,c2,o3,c3,o4,o5,o6,o7,c7,o8,c8,o9,o10,o11 ++ zm (List.replicate 1 (0:Int)) 0 (-1)) else none else bif decide (c7 = List.length o7) then bif decide (c8 = List.length o8) then some ((o1_0,o7,o8,o9,o10,o11,()),0,()) else none else none
abbrev znD (K:Nat):zgb→Option (zb × (Int × Unit)):=zg zvg K
theorem zGN (K:Nat):∀ n,evV Ed8 K Tryz.f57 3 (ch [zn,tI]) [1,1,1,1,1,0,1,0] [] zvf n = zg zvg n:=zq fun n1 (v42,v43,o0_0,o1_0,o2,c2,o3,c3,o4,o5,o6,o7,c7,o8,c8,o9,o10,o11)=>by kernel_rfl
def znE (L1:zgb→Option (zb × (Int × Unit))) (k0:zgc→Option (zb × (Int × Unit))):zgc→Option (zb × (Int × Unit)):=fun (v18,v19,v20,o0,o1_0,o2_0,o3,c3,o4,c4,o5,o6,o7,o8,c8,o9,c9,o10,o11,o12) =>
  bif decide (v20 < v19) then inR v20 ((List.length v18):Int) (Option.bind (zuH (o0,ix qt v18 v20,())) fun q2=>bif decide (List.length o8 + List.length [(q2.1.1,q2.1.2.1,q2.1.2.2.1,q2.1.2.2.2.1,q2.1.2.2.2.2.1,q2.1.2.2.2.2.2.1,q2.1.2.2.2.2.2.2.1,q2.1.2.2.2.2.2.2.2.1,q2.1.2.2.2.2.2.2.2.2.1,())] ≤ lim) then bif decide (c8 = List.length o8) then k0 (v18,v19,wI (v20 + 1),o0,o1_0,o2_0,o3,c3,o4,c4,o5,o6,o7,o8 ++ [(q2.1.1,q2.1.2.1,q2.1.2.2.1,q2.1.2.2.2.1,q2.1.2.2.2.2.1,q2.1.2.2.2.2.2.1,q2.1.2.2.2.2.2.2.1,q2.1.2.2.2.2.2.2.2.1,q2.1.2.2.2.2.2.2.2.2.1,())],c8 + (0 + 1),o9,c9,o10,o11,o12) else none else none) else bif decide (0 < ((List.length o8):Int)) then bif decide (c8 ≤ Int.toNat 0) then bif decide (0 < ((List.length (ix zf o8 0).1):Int)) then none else none else bif decide (0 < ((List.length (ix zf o8 0).1):Int)) then L1 (((List.length o0.2.1):Int),0,o1_0,o2_0,o3,c3,o4,c4,o5,o6,o7,List.set o8 (Int.toNat 0) (List.set (ix zf o8 0).1 (Int.toNat 0) (true,ByteArray.mk #[112,108,97,122,97],(zd qk).2.2),(ix zf o8 0).2),c8,o9,c9,o10,o11,o12) else none else none
abbrev zvh (K:Nat):zgc→Option (zb × (Int × Unit)):=zg (fun k0=>znE (znD K) k0) K
theorem zGO (K:Nat):∀ n,evV Ed8 K Tryz.f57 3 (ch [zn,tI]) [1,1,1,0,1,0] [] zGM n = zg (fun k0=>znE (znD K) k0) n:=qu (B:=fun L1 k0=>znE L1 k0) (V1:=fun n0=>evV Ed8 K Tryz.f57 3 (ch [zn,tI]) [1,1,1,1,1,0,1,0] [] zvf K) (W1:=fun k0=>(znD K)) (fun n0=>zGN K K) fun n0 (v18,v19,v20,o0,o1_0,o2_0,o3,c3,o4,c4,o5,o6,o7,o8,c8,o9,c9,o10,o11,o12)=>by kernel_rfl
def zrN (L0:zgc→Option (zb × (Int × Unit))):(ze × Unit)→Option (zb × (Int × Unit)):=fun (x0,()) =>
  Option.bind (zaG (x0,())) fun q0=>bif q0.1 then Option.bind (zCL (x0,())) fun q1=>bif decide (0 ≤ x0.2.2.2.2.2.1) then bif decide (x0.2.2.2.2.2.1 ≤ x0.2.2.2.2.2.1) then bif decide (x0.2.2.2.2.2.1 ≤ (↑lim:Int)) then L0 (x0.2.2.2.2.1,((List.length x0.2.2.2.2.1):Int),0,x0,0,0,[],0,[],0,[],[],[],[],0,q1.1,List.length q1.1,List.replicate (Int.toNat x0.2.2.2.2.2.1) (zd zr),[],[]) else none else none else none else some ((0,[],[],[],[],[],()),1,())
def zzc:(ze × Unit)→Option (zb × Int × Unit):=zrN (zvh K0)
abbrev zzd:Fun:=⟨57,(ch [zw]),(ch [zn,tI]),3,zzc⟩
theorem zLs:Sq zzd:=ml8 (d:=true) (S:=fun K=>zrN (zvh K)) Tryz.func57 (by kernel_rfl) (fun K=>tr1 (T:=zrN) (zGO K K) fun (x0,())=>by kernel_rfl) rfl
abbrev L9:List Fun:=zs8 :: zq9 :: zs9 :: zta :: zy9 :: zza :: zzb :: ztb :: zzd :: L8
theorem h9:Sds Tryz.prog E0 L9:=⟨zEF,zCN,zEG,zEH,zLp,zLq,zLr,zEI,zLs,h8⟩
theorem ml9 {d:Bool} {F:Fun} {f:Go.Func} {S:Nat→F.a.I→Option F.r.I} (hf:Tryz.prog.funcs[F.id]? = some f) (ho:jq f = true) (h:∀ K,evF (En E0 d L9) K f F.md F.a F.r = S K) (e:S K0 = F.spec):Sd Tryz.prog E0 F:=mkS h9 hf ho ((h K0).trans e)
abbrev Es9:Env:=En E0 false L9
abbrev zdA:Type:=Bool × Int × Int × List (Option (Unit→Option (Bool × Unit)))
abbrev zCO:zdA→St:=fun (v6,v27,v28,o0)=>St.mk [(6,.dat .bool v6),(26,.ow 0),(27,.dat tI v27),(28,.dat tI v28)] [.row (.fn .unit (.pair .bool .unit)) o0 false]
def zgO (k0:zdA→Option (Bool × Unit)):zdA→Option (Bool × Unit):=fun (v6,v27,v28,o0) =>
  bif decide (v28 < v27) then inR v28 ((List.length o0):Int) (Option.bind (List.getD o0 (Int.toNat v28) (zd (.fn .unit (.pair .bool .unit)))) fun q0=>Option.bind (q0 ()) fun q1=>bif q1.1 then k0 (true,v27,wI (v28 + 1),o0) else some (false,())) else some (v6,())
abbrev zra (K:Nat):zdA→Option (Bool × Unit):=zg zgO K
theorem zCP (K:Nat):∀ n,evV Es9 K Tryz.f18 0 (ch [.bool]) [1,0,1,1,1,0,1,0] [] zCO n = zg zgO n:=zq fun n0 (v6,v27,v28,o0)=>by kernel_rfl
def znF (L0:zdA→Option (Bool × Unit)):(ze × (zb × Unit))→Option (Bool × Unit):=fun (x0,x1,()) =>
  L0 (true,((List.length (zm (zm (zm (zm (zm (zm (zm (List.replicate 7 (zd (.fn .unit (.pair .bool .unit)))) 0 (some fun z=>zb8 ((x0,x1,(zd qp).2.2),()))) 1 (some fun z=>zb9 ((x0,x1,(zd qp).2.2),()))) 2 (some fun z=>zbg ((x0,x1,(zd qp).2.2),()))) 3 (some fun z=>zf6 ((x0,x1,(zd qp).2.2),()))) 4 (some fun z=>zbe ((x0,x1,(zd qp).2.2),()))) 5 (some fun z=>zf5 ((x0,x1,(zd qp).2.2),()))) 6 (some fun z=>zga ((x0,x1,(zd qp).2.2),())))):Int),0,[some fun z=>zb8 ((x0,x1,(zd qp).2.2),()),some fun z=>zb9 ((x0,x1,(zd qp).2.2),()),some fun z=>zbg ((x0,x1,(zd qp).2.2),()),some fun z=>zf6 ((x0,x1,(zd qp).2.2),()),some fun z=>zbe ((x0,x1,(zd qp).2.2),()),some fun z=>zf5 ((x0,x1,(zd qp).2.2),()),some fun z=>zga ((x0,x1,(zd qp).2.2),())])
def zjg:(ze × zb × Unit)→Option (Bool × Unit):=znF (zra K0)
abbrev zvi:Fun:=⟨18,(ch [zw,zn]),(ch [.bool]),0,zjg⟩
theorem zGP:Sq zvi:=ml9 (d:=false) (S:=fun K=>znF (zra K)) Tryz.func18 (by kernel_rfl) (fun K=>tr1 (T:=znF) (zCP K K) fun (x0,x1,())=>by kernel_rfl) rfl
abbrev L10:List Fun:=zvi :: L9
theorem h10:Sds Tryz.prog E0 L10:=⟨zGP,h9⟩
theorem zQ7 {d:Bool} {F:Fun} {f:Go.Func} {K:Nat} (hf:Tryz.prog.funcs[F.id]? = some f) (ho:jq f = true) (h:evF (En E0 d L10) K f F.md F.a F.r = F.spec):Sd Tryz.prog E0 F:=mkS h10 hf ho h
def zal:(ze × (zb × (pMe × Unit)))→Option (Bool × Unit):=fun (x0,x1,x2,()) =>
  Option.bind (zjg (x0,x1,())) fun q0=>bif q0.1 then bif decide (x2.1 ≥ 0) then bif decide (x2.1 < ((List.length x0.2.1):Int)) then inR x2.1 ((List.length x0.2.1):Int) (bif x2.2.1 == ix (0:Int) x0.2.1 x2.1 then bif decide (x2.2.2.1 ≥ 0) then bif decide (x2.2.2.1 < ((List.length x0.2.2.1):Int)) then some (true,()) else some (false,()) else some (false,()) else some (false,())) else some (false,()) else some (false,()) else some (false,())
abbrev zxw:Fun:=⟨17,(ch [zw,zn,tMe]),(ch [.bool]),0,zal⟩
theorem zJq:Sq zxw:=zQ7 (d:=false) (K:=0) Tryz.func17 (by kernel_rfl) (funext fun (x0,x1,x2,())=>by kernel_rfl)
abbrev L11:List Fun:=zxw :: L10
theorem h11:Sds Tryz.prog E0 L11:=⟨zJq,h10⟩
theorem zQG {d:Bool} {F:Fun} {f:Go.Func} {K:Nat} (hf:Tryz.prog.funcs[F.id]? = some f) (ho:jq f = true) (h:evF (En E0 d L11) K f F.md F.a F.r = F.spec):Sd Tryz.prog E0 F:=mkS h11 hf ho h
theorem zQ8 {d:Bool} {js:List Nat} {F:Fun} {f:Go.Func} {K:Nat} (hf:Tryz.prog.funcs[F.id]? = some f) (ho:jq f = true) (h:evF (Ej E0 d js L11) K f F.md F.a F.r = F.spec):Sd Tryz.prog E0 F:=zQ6 h11 hf ho h
theorem zQ9 {d:Bool} {js:List Nat} {fs:List (Nat × Go.Func)} {n:Nat} {F:Fun} {f:Go.Func} {K:Nat} (hfs:FOk Tryz.prog fs) (hf:Tryz.prog.funcs[F.id]? = some f) (ho:jq f = true) (h:evF ((Ej E0 d js L11).inl fs n) K f F.md F.a F.r = F.spec):Sd Tryz.prog E0 F:=Sd.mkI zNa h11 hfs hf ho h
theorem zRa {d:Bool} {F:Fun} {f:Go.Func} {S:Nat→F.a.I→Option F.r.I} (hf:Tryz.prog.funcs[F.id]? = some f) (ho:jq f = true) (h:∀ K,evF (En E0 d L11) K f F.md F.a F.r = S K) (e:S K0 = F.spec):Sd Tryz.prog E0 F:=mkS h11 hf ho ((h K0).trans e)
abbrev zNl:Env:=En E0 false L11
def ze7:(ze × (zb × (pMe × (ByteArray × Unit))))→Option (zb × (Int × (Int × Unit))):=fun (x0,x1,x2,x3,()) =>
  Option.bind (zal (x0,x1,x2,())) fun q0=>bif q0.1 then Option.bind (zb6 (x1,x2,())) fun q1=>Option.bind (zk8 (q1.1,x3,x2.2.2.1,())) fun q2=>bif q2.2.2.1 != 0 then some ((0,[],[],[],[],[],()),q2.2.1,q2.2.2.1,()) else Option.bind (yp (x1,())) fun q3=>inR x2.2.1 ((List.length q3.1.2.1):Int) (some ((u1 q3.1 (List.set q3.1.2.1 (Int.toNat x2.2.1) (u2 (ix zf q3.1.2.1 x2.2.1) q2.1))),q2.2.1,0,())) else some ((0,[],[],[],[],[],()),0,1,())
abbrev zxx:Fun:=⟨35,(ch [zw,zn,tMe,.str]),(ch [zn,tI,tI]),0,ze7⟩
theorem zJr:Sq zxx:=zQ9 (d:=true) (js:=[999999]) (fs:=[(71,Tryz.f71),(72,Tryz.f72)]) (n:=2) ⟨⟨Tryz.func71,by kernel_rfl⟩,⟨Tryz.func72,by kernel_rfl⟩,trivial⟩ (K:=0) Tryz.func35 (by kernel_rfl) (funext fun (x0,x1,x2,x3,())=>by kernel_rfl)
def zam:(ze × (zb × (pMe × ((Option (((List zh) × Unit)→Option ((List zh) × (Int × Unit)))) × Unit))))→Option (zb × (Int × Unit)):=fun (x0,x1,x2,x3,()) =>
  Option.bind (zal (x0,x1,x2,())) fun q0=>bif q0.1 then Option.bind (zb6 (x1,x2,())) fun q1=>Option.bind x3 fun q2=>Option.bind (q2 (q1.1,())) fun q3=>bif q3.2.1 != 0 then some ((0,[],[],[],[],[],()),q3.2.1,()) else Option.bind (yp (x1,())) fun q4=>inR x2.2.1 ((List.length q4.1.2.1):Int) (some ((u1 q4.1 (List.set q4.1.2.1 (Int.toNat x2.2.1) (u2 (ix zf q4.1.2.1 x2.2.1) q3.1))),0,())) else some ((0,[],[],[],[],[],()),1,())
abbrev zxy:Fun:=⟨71,(ch [zw,zn,tMe,(.fn (ch [(.sl zi)]) (ch [(.sl zi),tI]))]),(ch [zn,tI]),0,zam⟩
theorem zJs:Sq zxy:=zQ8 (d:=true) (js:=[999999]) (K:=0) Tryz.func71 (by kernel_rfl) (funext fun (x0,x1,x2,x3,())=>by kernel_rfl)
def zma:((List zh) × ((Option pMe) × ((Option Int) × ((Option ze) × ((Option zb) × ((Option Int) × Unit))))))→Option ((List zh) × (Int × Unit)):=fun (x0,x1,x2,x3,x4,x5,()) =>
  Option.bind x1 fun q0=>Option.bind x1 fun q1=>Option.bind x2 fun q2=>Option.bind x2 fun q3=>Option.bind x1 fun q4=>bif q3 == q4.2.2.1 then some ([],1,()) else Option.bind x3 fun q5=>Option.bind x4 fun q6=>Option.bind (zal (q5,q6,(q0.1,q1.2.1,q2,(zd tMe).2.2.2),())) fun q7=>bif q7.1 then Option.bind x5 fun q8=>Option.bind x1 fun q9=>Option.bind x2 fun q10=>Option.bind (zlg (x0,q8,q9.2.2.1,q10,())) fun q11=>bif q11.2.1 == 0 then Option.bind x4 fun q12=>Option.bind (yn (q12,(q0.1,q1.2.1,q2,(zd tMe).2.2.2),())) fun q13=>Option.bind x4 fun q14=>Option.bind x1 fun q15=>Option.bind (yn (q14,q15,())) fun q16=>bif !eqI zv q13.1 q16.1 then some (q11.1,5,()) else some q11 else some q11 else some ([],1,())
abbrev ztc:Fun:=⟨80,(ch [(.sl zi),(.ptr tMe),(.ptr tI),(.ptr zw),(.ptr zn),(.ptr tI)]),(ch [(.sl zi),tI]),0,zma⟩
theorem zEJ:Sq ztc:=zQG (d:=false) (K:=0) Tryz.func80 (by kernel_rfl) (funext fun (x0,x1,x2,x3,x4,x5,())=>by kernel_rfl)
def ziH:(ze × (zb × (pMe × Unit)))→Option ((List Int) × (Int × Unit)):=fun (x0,x1,x2,()) =>
  Option.bind (zal (x0,x1,x2,())) fun q0=>bif q0.1 then Option.bind (zb6 (x1,x2,())) fun q1=>Option.bind (zkU (q1.1,x2.2.2.1,())) fun q2=>some (q2.1,0,()) else some ([],1,())
abbrev zze:Fun:=⟨9,(ch [zw,zn,tMe]),(ch [(.sl tI),tI]),0,ziH⟩
theorem zLt:Sq zze:=zQG (d:=false) (K:=0) Tryz.func9 (by kernel_rfl) (funext fun (x0,x1,x2,())=>by kernel_rfl)
abbrev zbM:Type:=Int × (List zp) × Int × Int × (List Int) × Int × Int × ze × zb × pMe × List zE
abbrev zpA:zbM→St:=fun (v9,v19,v20,v21,v37,v38,v39,o0,o1,o2,o3)=>St.mk [(3,.bp 0 []),(4,.bp 1 []),(5,.bp 2 []),(8,.ow 3),(9,.dat tI v9),(19,.dat (.sl zy) v19),(20,.dat tI v20),(21,.dat tI v21),(37,.dat (.sl tI) v37),(38,.dat tI v38),(39,.dat tI v39)] [.bx (.dat zw o0) false,.bx (.dat zn o1) false,.bx (.dat tMe o2) false,.row jt o3 false]
abbrev vy:Type:=(List zp) × Int × Int × ze × zb × pMe × List zE
abbrev zpB:vy→St:=fun (v19,v20,v21,o0,o1,o2,o3)=>St.mk [(3,.bp 0 []),(4,.bp 1 []),(5,.bp 2 []),(8,.ow 3),(19,.dat (.sl zy) v19),(20,.dat tI v20),(21,.dat tI v21)] [.bx (.dat zw o0) false,.bx (.dat zn o1) false,.bx (.dat tMe o2) false,.row jt o3 false]
def zbN (k0:vy→Option ((List zE) × (Int × Unit))) (k1:zbM→Option ((List zE) × (Int × Unit))):zbM→Option ((List zE) × (Int × Unit)):=fun (v9,v19,v20,v21,v37,v38,v39,o0,o1,o2,o3) =>
  bif decide (v39 < v38) then inR v39 ((List.length v37):Int) (bif decide (List.length o3 + List.length (zm (List.replicate 1 (zd zv)) 0 (v9,ix (0:Int) v37 v39,(zd zv).2.2)) ≤ lim) then k1 (v9,v19,v20,v21,v37,v38,wI (v39 + 1),o0,o1,o2,o3 ++ zm (List.replicate 1 (zd zv)) 0 (v9,ix (0:Int) v37 v39,(zd zv).2.2)) else none) else k0 (v19,v20,wI (v21 + 1),o0,o1,o2,o3)
abbrev zfP (K:Nat) (k0:vy→Option ((List zE) × (Int × Unit))):zbM→Option ((List zE) × (Int × Unit)):=zg (fun k1=>zbN k0 k1) K
theorem zAu (K:Nat) (n0:Nat):∀ n,evV zNl K Tryz.f11 0 (ch [(.sl zv),tI]) [1,1,1,0,1,0,0,1,1,0,0,1,1,1,0] [n0] zpA n = zg (fun k1=>zbN (evV zNl K Tryz.f11 0 (ch [(.sl zv),tI]) [1,1,1,0,1,0] [] zpB n0) k1) n:=zq fun n1 (v9,v19,v20,v21,v37,v38,v39,o0,o1,o2,o3)=>by kernel_rfl
def y0 (L1:zbM→Option ((List zE) × (Int × Unit))) (k0:vy→Option ((List zE) × (Int × Unit))):vy→Option ((List zE) × (Int × Unit)):=fun (v19,v20,v21,o0,o1,o2,o3) =>
  bif decide (v21 < v20) then inR v21 ((List.length v19):Int) (Option.bind (zmF (o0,v21,o2.2.1,())) fun q1=>bif q1.1 then Option.bind (yn (o1,o2,())) fun q2=>Option.bind (zi6 ((ix zf v19 v21).2.2.1,q2.1,())) fun q3=>L1 (v21,v19,v20,v21,q3.1,((List.length q3.1):Int),0,o0,o1,o2,o3) else k0 (v19,v20,wI (v21 + 1),o0,o1,o2,o3)) else some (o3,0,())
abbrev zpC (K:Nat):vy→Option ((List zE) × (Int × Unit)):=zg (fun k0=>y0 (zfP K k0) k0) K
theorem zAv (K:Nat):∀ n,evV zNl K Tryz.f11 0 (ch [(.sl zv),tI]) [1,1,1,0,1,0] [] zpB n = zg (fun k0=>y0 (zfP K k0) k0) n:=qu (B:=fun L1 k0=>y0 L1 k0) (V1:=fun n0=>evV zNl K Tryz.f11 0 (ch [(.sl zv),tI]) [1,1,1,0,1,0,0,1,1,0,0,1,1,1,0] [n0] zpA K) (W1:=fun k0=>(zfP K k0)) (fun n0=>zAu K n0 K) fun n0 (v19,v20,v21,o0,o1,o2,o3)=>by kernel_rfl
def zhT (L0:vy→Option ((List zE) × (Int × Unit))):(ze × (zb × (pMe × Unit)))→Option ((List zE) × (Int × Unit)):=fun (x0,x1,x2,()) =>
  Option.bind (zal (x0,x1,x2,())) fun q0=>bif q0.1 then L0 (x1.2.1,((List.length x1.2.1):Int),0,x0,x1,x2,[]) else some ([],1,())
def ze8:(ze × zb × pMe × Unit)→Option ((List qy) × Int × Unit):=zhT (zpC K0)
abbrev ztd:Fun:=⟨11,(ch [zw,zn,tMe]),(ch [(.sl zv),tI]),0,ze8⟩
theorem zEK:Sq ztd:=zRa (d:=false) (S:=fun K=>zhT (zpC K)) Tryz.func11 (by kernel_rfl) (fun K=>tr1 (T:=zhT) (zAv K K) fun (x0,x1,x2,())=>by kernel_rfl) rfl
abbrev L12:List Fun:=zxx :: zxy :: ztc :: zze :: ztd :: L11
theorem h12:Sds Tryz.prog E0 L12:=⟨zJr,zJs,zEJ,zLt,zEK,h11⟩
theorem zNm {d:Bool} {F:Fun} {f:Go.Func} {K:Nat} (hf:Tryz.prog.funcs[F.id]? = some f) (ho:jq f = true) (h:evF (En E0 d L12) K f F.md F.a F.r = F.spec):Sd Tryz.prog E0 F:=mkS h12 hf ho h
def zca:(ze × (zb × (pMe × (Int × Unit))))→Option (zb × (Int × Unit)):=fun (x0,x1,x2,x3,()) =>
  Option.bind (zam (x0,x1,x2,some fun z=>zlh (z.1,some x3,some x2,()),())) fun q0=>some q0
abbrev zvj:Fun:=⟨36,(ch [zw,zn,tMe,tI]),(ch [zn,tI]),0,zca⟩
theorem zGQ:Sq zvj:=zNm (d:=false) (K:=0) Tryz.func36 (by kernel_rfl) (funext fun (x0,x1,x2,x3,())=>by kernel_rfl)
def ze9:(ze × (zb × (pMe × (Int × Unit))))→Option (zb × (Int × Unit)):=fun (x0,x1,x2,x3,()) =>
  Option.bind (zam (x0,x1,x2,some fun z=>zl8 (z.1,some x3,some x2,some x1,()),())) fun q0=>some q0
abbrev zxz:Fun:=⟨37,(ch [zw,zn,tMe,tI]),(ch [zn,tI]),0,ze9⟩
theorem zJt:Sq zxz:=zNm (d:=false) (K:=0) Tryz.func37 (by kernel_rfl) (funext fun (x0,x1,x2,x3,())=>by kernel_rfl)
def zbO:(ze × (zb × (pMe × (Int × Unit))))→Option (zb × (Int × Unit)):=fun (x0,x1,x2,x3,()) =>
  Option.bind (zam (x0,x1,x2,some fun z=>zl9 (z.1,some x3,some x2,some x1,()),())) fun q0=>some q0
abbrev zxA:Fun:=⟨38,(ch [zw,zn,tMe,tI]),(ch [zn,tI]),0,zbO⟩
theorem zJu:Sq zxA:=zNm (d:=false) (K:=0) Tryz.func38 (by kernel_rfl) (funext fun (x0,x1,x2,x3,())=>by kernel_rfl)
def zbP:(ze × (zb × (pMe × (Int × (Int × Unit)))))→Option (zb × (Int × Unit)):=fun (x0,x1,x2,x3,x4,()) =>
  Option.bind (zam (x0,x1,x2,some fun z=>zma (z.1,some x2,some x4,some x0,some x1,some x3,()),())) fun q0=>some q0
abbrev zxB:Fun:=⟨39,(ch [zw,zn,tMe,tI,tI]),(ch [zn,tI]),0,zbP⟩
theorem zJv:Sq zxB:=zNm (d:=false) (K:=0) Tryz.func39 (by kernel_rfl) (funext fun (x0,x1,x2,x3,x4,())=>by kernel_rfl)
abbrev L13:List Fun:=zvj :: zxz :: zxA :: zxB :: L12
theorem h13:Sds Tryz.prog E0 L13:=⟨zGQ,zJt,zJu,zJv,h12⟩
theorem zQH {d:Bool} {F:Fun} {f:Go.Func} {K:Nat} (hf:Tryz.prog.funcs[F.id]? = some f) (ho:jq f = true) (h:evF (En E0 d L13) K f F.md F.a F.r = F.spec):Sd Tryz.prog E0 F:=mkS h13 hf ho h
def zoe:(ze × (zb × (pMe × (zaL × Unit))))→Option (zb × (Int × (Int × Unit))):=fun (x0,x1,x2,x3,()) =>
  bif x3.1 == 1 then Option.bind (ze7 (x0,x1,x2,x3.2.2.2.1,())) fun q0=>some q0 else bif x3.1 == 2 then Option.bind (zca (x0,x1,x2,x3.2.1,())) fun q1=>some (q1.1,0,q1.2.1,()) else bif x3.1 == 3 then Option.bind (ze9 (x0,x1,x2,x3.2.1,())) fun q2=>some (q2.1,0,q2.2.1,()) else bif x3.1 == 4 then Option.bind (zbO (x0,x1,x2,x3.2.1,())) fun q3=>some (q3.1,0,q3.2.1,()) else Option.bind (zbP (x0,x1,x2,x3.2.1,x3.2.2.1,())) fun q4=>some (q4.1,0,q4.2.1,())
abbrev zCQ:Fun:=⟨7,(ch [zw,zn,tMe,jb]),(ch [zn,tI,tI]),0,zoe⟩
theorem zNn:Sq zCQ:=zQH (d:=false) (K:=0) Tryz.func7 (by kernel_rfl) (funext fun (x0,x1,x2,x3,())=>by kernel_rfl)
def zjh:Unit→Option (Bool × Unit):=fun () =>
  Option.bind (zuF ()) fun q0=>Option.bind (zzc (q0.1,())) fun q1=>Option.bind (ze7 (q0.1,q1.1,(1,1,(zd tMe).2.2),ByteArray.mk #[108,97,109,112],())) fun q2=>Option.bind (ziH (q0.1,q2.1,(1,1,(zd tMe).2.2),())) fun q3=>Option.bind (ze9 (q0.1,q2.1,(1,1,(zd tMe).2.2),0,())) fun q4=>Option.bind (ze8 (q0.1,q4.1,(1,1,(zd tMe).2.2),())) fun q5=>Option.bind (zbO (q0.1,q4.1,zd tMe,0,())) fun q6=>Option.bind (zbP (q0.1,q2.1,(1,1,(zd tMe).2.2),0,1,())) fun q7=>Option.bind (zbP (q0.1,q2.1,(1,1,(zd tMe).2.2),0,0,())) fun q8=>Option.bind (zca (q0.1,q7.1,(1,1,(zd tMe).2.2),0,())) fun q9=>Option.bind (zbO (q0.1,q4.1,(1,1,(zd tMe).2.2),0,())) fun q10=>bif q1.2.1 == 0 then bif q2.2.2.1 == 0 then bif q2.2.1 == 0 then bif q3.2.1 == 0 then bif ((List.length q3.1):Int) == 1 then bif q4.2.1 == 0 then bif q5.2.1 == 0 then bif ((List.length q5.1):Int) == 1 then bif decide (0 < ((List.length q5.1):Int)) then bif eqI zv (ix zzE q5.1 0) (1,(zd zv).2) then bif q6.2.1 == 3 then bif q7.2.1 == 0 then bif q8.2.1 == 1 then bif q9.2.1 == 3 then bif q10.2.1 == 0 then bif ((List.length q7.1.2.1):Int) == 3 then bif decide (1 < ((List.length q7.1.2.1):Int)) then bif decide (0 < ((List.length (ix zf q7.1.2.1 1).2.2.1):Int)) then bif (List.getD (ix zf q7.1.2.1 1).2.2.1 (Int.toNat 0) (zd zi)).2.2.2.1 == 1 then bif decide (1 < ((List.length q1.1.2.1):Int)) then bif decide (0 < ((List.length (ix zf q1.1.2.1 1).2.2.1):Int)) then bif (List.getD (ix zf q1.1.2.1 1).2.2.1 (Int.toNat 0) (zd zi)).1 then some (false,()) else some (true,()) else none else none else some (false,()) else none else none else some (false,()) else some (false,()) else some (false,()) else some (false,()) else some (false,()) else some (false,()) else some (false,()) else none else some (false,()) else some (false,()) else some (false,()) else some (false,()) else some (false,()) else some (false,()) else some (false,()) else some (false,())
abbrev zvk:Fun:=⟨13,.unit,(ch [.bool]),0,zjh⟩
theorem zGR:Sq zvk:=zQH (d:=false) (K:=0) Tryz.func13 (by kernel_rfl) (funext fun ()=>by kernel_rfl)
abbrev L14:List Fun:=zCQ :: zvk :: L13
theorem h14:Sds Tryz.prog E0 L14:=⟨zNn,zGR,h13⟩
theorem zRb {d:Bool} {F:Fun} {f:Go.Func} {K:Nat} (hf:Tryz.prog.funcs[F.id]? = some f) (ho:jq f = true) (h:evF (En E0 d L14) K f F.md F.a F.r = F.spec):Sd Tryz.prog E0 F:=mkS h14 hf ho h
def zdB:(ze × (zb × (pMe × (zaL × Unit))))→Option (Bool × Unit):=fun (x0,x1,x2,x3,()) =>
  Option.bind (yp (x1,())) fun q0=>Option.bind (zoe (x0,x1,x2,x3,())) fun q1=>Option.bind (zmD (x0,q0.1,x2,x3.1,x3.2.1,x3.2.2.1,x3.2.2.2.1,())) fun q2=>Option.bind (ziH (x0,x1,x2,())) fun q3=>Option.bind (zmE (x0,x1,x2,())) fun q4=>Option.bind (ze8 (x0,x1,x2,())) fun q5=>Option.bind (zhS (x0,x1,x2,())) fun q6=>Option.bind (zjh ()) fun q7=>bif q7.1 then Option.bind (zeY (q1.1,q2.1,())) fun q8=>bif q8.1 then bif q1.2.1 == q2.2.1 then bif q1.2.2.1 == q2.2.2.1 then Option.bind (zku (q3.1,q4.1,())) fun q9=>bif q9.1 then bif q3.2.1 == q4.2.1 then Option.bind (zfB (q5.1,q6.1,())) fun q10=>bif q10.1 then bif q5.2.1 == q6.2.1 then Option.bind (zeY (x1,q0.1,())) fun q11=>bif q11.1 then some (true,()) else some (false,()) else some (false,()) else some (false,()) else some (false,()) else some (false,()) else some (false,()) else some (false,()) else some (false,()) else some (false,())
abbrev zxC:Fun:=⟨3,(ch [zw,zn,tMe,jb]),(ch [.bool]),0,zdB⟩
theorem zxD:Sq zxC:=zRb (d:=false) (K:=0) Tryz.func3 (by kernel_rfl) (funext fun (x0,x1,x2,x3,())=>by kernel_rfl)
end
end Go.Proofs.YtejbgeokcpillaaGreatDoor
end
section
namespace Go.Proofs.YtejbgeokcpillaaGreatDoor
open Go.Ev
theorem zCR {l:List Int} {g:Int × Unit→Option (Bool × Unit)} {p:Int→Bool} (hl:l.length ≤ Go.maxLen) (hp:∀ x ∈ l,g (x,()) = some (p x,())):zcp (l,some g,()) = some (jf p l 0,()):=qR (τ:=tI) (B:=zfr) (fun _ _ _ _ _=>rfl) hl hp
theorem zdC {l:List Int} {g:Int × Unit→Option (Bool × Unit)} {p:Int→Bool} (hl:l.length ≤ Go.maxLen) (hp:∀ x ∈ l,g (x,()) = some (p x,())):qN (l,some g,()) = some (l.any p,()):=qv (τ:=tI) (f:=zcp) (zCR hl hp)
theorem zyp {l:List zC} {g:zC × Unit→Option (Bool × Unit)} {p:zC→Bool} (hl:l.length ≤ Go.maxLen) (hp:∀ x ∈ l,g (x,()) = some (p x,())):zaS (l,some g,()) = some (jf p l 0,()):=qR (τ:=zt) (B:=zdI) (fun _ _ _ _ _=>rfl) hl hp
theorem zli {l:List zC} {g:zC × Unit→Option (Bool × Unit)} {p:zC→Bool} (hl:l.length ≤ Go.maxLen) (hp:∀ x ∈ l,g (x,()) = some (p x,())):yu (l,some g,()) = some (l.any p,()):=qv (τ:=zt) (f:=zaS) (zyp hl hp)
theorem zvQ {l:List qA} {g:qA × Unit→Option (Bool × Unit)} {p:qA→Bool} (hl:l.length ≤ Go.maxLen) (hp:∀ x ∈ l,g (x,()) = some (p x,())):y8 (l,some g,()) = some (jf p l 0,()):=qR (τ:=qD) (B:=zbn) (fun _ _ _ _ _=>rfl) hl hp
theorem zrO {l:List qA} {g:qA × Unit→Option (Bool × Unit)} {p:qA→Bool} (hl:l.length ≤ Go.maxLen) (hp:∀ x ∈ l,g (x,()) = some (p x,())):zaX (l,some g,()) = some (l.any p,()):=qv (τ:=qD) (f:=y8) (zvQ hl hp)
theorem zyq {l:List zp} {g:zp × Unit→Option (Bool × Unit)} {p:zp→Bool} (hl:l.length ≤ Go.maxLen) (hp:∀ x ∈ l,g (x,()) = some (p x,())):zaT (l,some g,()) = some (jf p l 0,()):=qR (τ:=zy) (B:=zdK) (fun _ _ _ _ _=>rfl) hl hp
theorem zt1 {l:List zp} {g:zp × Unit→Option (Bool × Unit)} {p:zp→Bool} (hl:l.length ≤ Go.maxLen) (hp:∀ x ∈ l,g (x,()) = some (p x,())):j8 (l,some g,()) = some (l.any p,()):=qv (τ:=zy) (f:=zaT) (zyq hl hp)
theorem zAw {l:List qV} {g:qV × Unit→Option (Bool × Unit)} {p:qV→Bool} (hl:l.length ≤ Go.maxLen) (hp:∀ x ∈ l,g (x,()) = some (p x,())):zbU (l,some g,()) = some (jf p l 0,()):=qR (τ:=qk) (B:=zek) (fun _ _ _ _ _=>rfl) hl hp
theorem zvR {l:List qV} {g:qV × Unit→Option (Bool × Unit)} {p:qV→Bool} (hl:l.length ≤ Go.maxLen) (hp:∀ x ∈ l,g (x,()) = some (p x,())):zdR (l,some g,()) = some (l.any p,()):=qv (τ:=qk) (f:=zbU) (zAw hl hp)
theorem zpD {l:List zh} {g:zh × Unit→Option (Bool × Unit)} {p:zh→Bool} (hl:l.length ≤ Go.maxLen) (hp:∀ x ∈ l,g (x,()) = some (p x,())):yC (l,some g,()) = some (jf p l 0,()):=qR (τ:=zi) (B:=zem) (fun _ _ _ _ _=>rfl) hl hp
theorem zlM {l:List zh} {g:zh × Unit→Option (Bool × Unit)} {p:zh→Bool} (hl:l.length ≤ Go.maxLen) (hp:∀ x ∈ l,g (x,()) = some (p x,())):jz (l,some g,()) = some (l.any p,()):=qv (τ:=zi) (f:=yC) (zpD hl hp)
theorem zAx {l:List qr} {g:qr × Unit→Option (Bool × Unit)} {p:qr→Bool} (hl:l.length ≤ Go.maxLen) (hp:∀ x ∈ l,g (x,()) = some (p x,())):zbV (l,some g,()) = some (jf p l 0,()):=qR (τ:=zY) (B:=zen) (fun _ _ _ _ _=>rfl) hl hp
theorem zlN {l:List qr} {g:qr × Unit→Option (Bool × Unit)} {p:qr→Bool} (hl:l.length ≤ Go.maxLen) (hp:∀ x ∈ l,g (x,()) = some (p x,())):jA (l,some g,()) = some (l.any p,()):=qv (τ:=zY) (f:=zbV) (zAx hl hp)
theorem zyr {l:List zx} {g:zx × Unit→Option (Bool × Unit)} {p:zx→Bool} (hl:l.length ≤ Go.maxLen) (hp:∀ x ∈ l,g (x,()) = some (p x,())):zaU (l,some g,()) = some (jf p l 0,()):=qR (τ:=zz) (B:=zdN) (fun _ _ _ _ _=>rfl) hl hp
theorem zlj {l:List zx} {g:zx × Unit→Option (Bool × Unit)} {p:zx→Bool} (hl:l.length ≤ Go.maxLen) (hp:∀ x ∈ l,g (x,()) = some (p x,())):jl (l,some g,()) = some (l.any p,()):=qv (τ:=zz) (f:=zaU) (zyr hl hp)
theorem zys {l:List zu} {g:zu × Unit→Option (Bool × Unit)} {p:zu→Bool} (hl:l.length ≤ Go.maxLen) (hp:∀ x ∈ l,g (x,()) = some (p x,())):zaV (l,some g,()) = some (jf p l 0,()):=qR (τ:=zr) (B:=zdO) (fun _ _ _ _ _=>rfl) hl hp
theorem zt2 {l:List zu} {g:zu × Unit→Option (Bool × Unit)} {p:zu→Bool} (hl:l.length ≤ Go.maxLen) (hp:∀ x ∈ l,g (x,()) = some (p x,())):j9 (l,some g,()) = some (l.any p,()):=qv (τ:=zr) (f:=zaV) (zys hl hp)
theorem zyt {l:List zJ} {g:zJ × Unit→Option (Bool × Unit)} {p:zJ→Bool} (hl:l.length ≤ Go.maxLen) (hp:∀ x ∈ l,g (x,()) = some (p x,())):zaW (l,some g,()) = some (jf p l 0,()):=qR (τ:=zA) (B:=zdP) (fun _ _ _ _ _=>rfl) hl hp
theorem zt3 {l:List zJ} {g:zJ × Unit→Option (Bool × Unit)} {p:zJ→Bool} (hl:l.length ≤ Go.maxLen) (hp:∀ x ∈ l,g (x,()) = some (p x,())):va (l,some g,()) = some (l.any p,()):=qv (τ:=zA) (f:=zaW) (zyt hl hp)
theorem zpE {l:List qe} {g:qe × Unit→Option (Bool × Unit)} {p:qe→Bool} (hl:l.length ≤ Go.maxLen) (hp:∀ x ∈ l,g (x,()) = some (p x,())):yB (l,some g,()) = some (jf p l 0,()):=qR (τ:=zU) (B:=zel) (fun _ _ _ _ _=>rfl) hl hp
theorem zvS {l:List qe} {g:qe × Unit→Option (Bool × Unit)} {p:qe→Bool} (hl:l.length ≤ Go.maxLen) (hp:∀ x ∈ l,g (x,()) = some (p x,())):vp (l,some g,()) = some (l.any p,()):=qv (τ:=zU) (f:=yB) (zpE hl hp)
theorem zCS {l:List qy} {g:qy × Unit→Option (Bool × Unit)} {p:qy→Bool} (hl:l.length ≤ Go.maxLen) (hp:∀ x ∈ l,g (x,()) = some (p x,())):zct (l,some g,()) = some (jf p l 0,()):=qR (τ:=zv) (B:=zfy) (fun _ _ _ _ _=>rfl) hl hp
theorem zxE {l:List qy} {g:qy × Unit→Option (Bool × Unit)} {p:qy→Bool} (hl:l.length ≤ Go.maxLen) (hp:∀ x ∈ l,g (x,()) = some (p x,())):vI (l,some g,()) = some (l.any p,()):=qv (τ:=zv) (f:=zct) (zCS hl hp)
theorem zAy {l:List Int} {g:Int × Unit→Option (Bool × Unit)} {p:Int→Bool} (hl:l.length ≤ Go.maxLen) (hp:∀ x ∈ l,g (x,()) = some (p x,())):zbS (l,some g,()) = some (jf p l 0,()):=qR (τ:=(Ty.int .u8)) (B:=zeh) (fun _ _ _ _ _=>rfl) hl hp
theorem zvT {l:List Int} {g:Int × Unit→Option (Bool × Unit)} {p:Int→Bool} (hl:l.length ≤ Go.maxLen) (hp:∀ x ∈ l,g (x,()) = some (p x,())):vo (l,some g,()) = some (l.any p,()):=qv (τ:=(Ty.int .u8)) (f:=zbS) (zAy hl hp)
theorem zLu {l:List zp} {g:zp × Unit→Option (Bool × Unit)} {p:zp→Bool} (hl:l.length ≤ Go.maxLen) (hp:∀ x ∈ l,g (x,()) = some (p x,())):zif (l,some g,()) = some (l.all p,()):=by
  have h:j8 (l,some fun z=>zbT (z.1,some (some g),()),()) = some (l.any fun x=>!p x,()):=zt1 hl fun x hx=>by
    show Option.bind (g (x,())) (fun q=>bif q.1 then some (false,()) else some (true,())) = _
    rw [hp x hx]; cases p x <;> rfl
  show Option.bind (j8 (l,some fun z=>zbT (z.1,some (some g),()),())) (fun q=>bif q.1 then some (false,()) else some (true,())) = _
  rw [h,← ve]; cases l.any fun x=>!p x <;> rfl
theorem zLv {l:List zu} {g:zu × Unit→Option (Bool × Unit)} {p:zu→Bool} (hl:l.length ≤ Go.maxLen) (hp:∀ x ∈ l,g (x,()) = some (p x,())):zig (l,some g,()) = some (l.all p,()):=by
  have h:j9 (l,some fun z=>zbW (z.1,some (some g),()),()) = some (l.any fun x=>!p x,()):=zt2 hl fun x hx=>by
    show Option.bind (g (x,())) (fun q=>bif q.1 then some (false,()) else some (true,())) = _
    rw [hp x hx]; cases p x <;> rfl
  show Option.bind (j9 (l,some fun z=>zbW (z.1,some (some g),()),())) (fun q=>bif q.1 then some (false,()) else some (true,())) = _
  rw [h,← ve]; cases l.any fun x=>!p x <;> rfl
theorem zLw {l:List zJ} {g:zJ × Unit→Option (Bool × Unit)} {p:zJ→Bool} (hl:l.length ≤ Go.maxLen) (hp:∀ x ∈ l,g (x,()) = some (p x,())):zd6 (l,some g,()) = some (l.all p,()):=by
  have h:va (l,some fun z=>zbX (z.1,some (some g),()),()) = some (l.any fun x=>!p x,()):=zt3 hl fun x hx=>by
    show Option.bind (g (x,())) (fun q=>bif q.1 then some (false,()) else some (true,())) = _
    rw [hp x hx]; cases p x <;> rfl
  show Option.bind (va (l,some fun z=>zbX (z.1,some (some g),()),())) (fun q=>bif q.1 then some (false,()) else some (true,())) = _
  rw [h,← ve]; cases l.any fun x=>!p x <;> rfl
theorem zOH {l:List Int} {g:Int × Unit→Option (Bool × Unit)} {p:Int→Bool} (hl:l.length ≤ Go.maxLen) (hp:∀ x ∈ l,g (x,()) = some (p x,())):zat (l,some g,()) = some (l.all p,()):=by
  have h:qN (l,some fun z=>zd2 (z.1,some (some g),()),()) = some (l.any fun x=>!p x,()):=zdC hl fun x hx=>by
    show Option.bind (g (x,())) (fun q=>bif q.1 then some (false,()) else some (true,())) = _
    rw [hp x hx]; cases p x <;> rfl
  show Option.bind (qN (l,some fun z=>zd2 (z.1,some (some g),()),())) (fun q=>bif q.1 then some (false,()) else some (true,())) = _
  rw [h,← ve]; cases l.any fun x=>!p x <;> rfl
theorem zNo {l:List qe} {g:qe × Unit→Option (Bool × Unit)} {p:qe→Bool} (hl:l.length ≤ Go.maxLen) (hp:∀ x ∈ l,g (x,()) = some (p x,())):zjB (l,some g,()) = some (l.all p,()):=by
  have h:vp (l,some fun z=>zcq (z.1,some (some g),()),()) = some (l.any fun x=>!p x,()):=zvS hl fun x hx=>by
    show Option.bind (g (x,())) (fun q=>bif q.1 then some (false,()) else some (true,())) = _
    rw [hp x hx]; cases p x <;> rfl
  show Option.bind (vp (l,some fun z=>zcq (z.1,some (some g),()),())) (fun q=>bif q.1 then some (false,()) else some (true,())) = _
  rw [h,← ve]; cases l.any fun x=>!p x <;> rfl
theorem zCT {l:List zh} {g:zh × Unit→Option (Bool × Unit)} {p:zh→Bool} (hl:l.length ≤ Go.maxLen) (hp:∀ x ∈ l,g (x,()) = some (p x,())):yV (l,some g,()) = some (l.all p,()):=by
  have h:jz (l,some fun z=>zcs (z.1,some (some g),()),()) = some (l.any fun x=>!p x,()):=zlM hl fun x hx=>by
    show Option.bind (g (x,())) (fun q=>bif q.1 then some (false,()) else some (true,())) = _
    rw [hp x hx]; cases p x <;> rfl
  show Option.bind (jz (l,some fun z=>zcs (z.1,some (some g),()),())) (fun q=>bif q.1 then some (false,()) else some (true,())) = _
  rw [h,← ve]; cases l.any fun x=>!p x <;> rfl
theorem zOI {l:List qy} {g:qy × Unit→Option (Bool × Unit)} {p:qy→Bool} (hl:l.length ≤ Go.maxLen) (hp:∀ x ∈ l,g (x,()) = some (p x,())):zkL (l,some g,()) = some (l.all p,()):=by
  have h:vI (l,some fun z=>zd3 (z.1,some (some g),()),()) = some (l.any fun x=>!p x,()):=zxE hl fun x hx=>by
    show Option.bind (g (x,())) (fun q=>bif q.1 then some (false,()) else some (true,())) = _
    rw [hp x hx]; cases p x <;> rfl
  show Option.bind (vI (l,some fun z=>zd3 (z.1,some (some g),()),())) (fun q=>bif q.1 then some (false,()) else some (true,())) = _
  rw [h,← ve]; cases l.any fun x=>!p x <;> rfl
theorem zNp {l:List qr} {g:qr × Unit→Option (Bool × Unit)} {p:qr→Bool} (hl:l.length ≤ Go.maxLen) (hp:∀ x ∈ l,g (x,()) = some (p x,())):yW (l,some g,()) = some (l.all p,()):=by
  have h:jA (l,some fun z=>zcu (z.1,some (some g),()),()) = some (l.any fun x=>!p x,()):=zlN hl fun x hx=>by
    show Option.bind (g (x,())) (fun q=>bif q.1 then some (false,()) else some (true,())) = _
    rw [hp x hx]; cases p x <;> rfl
  show Option.bind (jA (l,some fun z=>zcu (z.1,some (some g),()),())) (fun q=>bif q.1 then some (false,()) else some (true,())) = _
  rw [h,← ve]; cases l.any fun x=>!p x <;> rfl
theorem zLx {l:List zx} {g:zx × Unit→Option (Bool × Unit)} {p:zx→Bool} (hl:l.length ≤ Go.maxLen) (hp:∀ x ∈ l,g (x,()) = some (p x,())):qO (l,some g,()) = some (l.all p,()):=by
  have h:jl (l,some fun z=>zbY (z.1,some (some g),()),()) = some (l.any fun x=>!p x,()):=zlj hl fun x hx=>by
    show Option.bind (g (x,())) (fun q=>bif q.1 then some (false,()) else some (true,())) = _
    rw [hp x hx]; cases p x <;> rfl
  show Option.bind (jl (l,some fun z=>zbY (z.1,some (some g),()),())) (fun q=>bif q.1 then some (false,()) else some (true,())) = _
  rw [h,← ve]; cases l.any fun x=>!p x <;> rfl
theorem zvl {l:List zu} (hl:l.length ≤ lim):zfo (l,()) = some (l,()):=yl (τ:=zr) hl rfl
theorem zGS {l:List zJ} (hl:l.length ≤ lim):zjp (l,()) = some (l,()):=yl (τ:=zA) hl rfl
theorem zzf {l:List Int} (hl:l.length ≤ lim):zht (l,()) = some (l,()):=yl (τ:=tI) hl rfl
theorem zJw {l:List (List Int)} (hl:l.length ≤ lim):zj9 (l,()) = some (l,()):=yl (τ:=(Ty.sl tI)) hl rfl
theorem zGT {l:List zp} (hl:l.length ≤ lim):zjq (l,()) = some (l,()):=yl (τ:=zy) hl rfl
theorem zJx {l:List qV} (hl:l.length ≤ lim):zka (l,()) = some (l,()):=yl (τ:=qk) hl rfl
theorem zJy {l:List qe} (hl:l.length ≤ lim):zkb (l,()) = some (l,()):=yl (τ:=zU) hl rfl
theorem zpF {l:List zh} (hl:l.length ≤ lim):zco (l,()) = some (l,()):=yl (τ:=zi) hl rfl
theorem zJz {l:List qr} (hl:l.length ≤ lim):zkc (l,()) = some (l,()):=yl (τ:=zY) hl rfl
theorem znG {l:List zx} (hl:l.length ≤ lim):zfp (l,()) = some (l,()):=yl (τ:=zz) hl rfl
theorem zNq {l:List (List Int)} (hl:l.length ≤ lim):zng (l,()) = some (l,()):=yl (τ:=(Ty.arr 4 tU)) hl rfl
theorem zLy {l:List qy} (hl:l.length ≤ lim):zlW (l,()) = some (l,()):=yl (τ:=zv) hl rfl
end Go.Proofs.YtejbgeokcpillaaGreatDoor
end
section
namespace Go.Proofs.YtejbgeokcpillaaGreatDoor
open Go.Ev
theorem zx2:∃ m,K0 = m + 8:=⟨Go.maxLen - 6,by unfold K0 Go.maxLen; omega⟩
def zT (x a b:Int):Bool:=decide (a ≤ x ∧ x ≤ b)
theorem zfQ (x a b:Int):qw (x,a,b,()) = some (zT x a b,()):=by
  simp only [qw,zT]; grind
def zax (a:zC):Bool:=zT a.1 0 3
theorem zGU (a:zC):ziR (a,()) = some (zax a,()):=by
  simp only [ziR,zax,zT]; grind
theorem zNr (a:zC):zfC (a,()) = some (!zax a,()):=by
  simp only [zfC,zGU,Option.bind_some]; grind
theorem zGV (a:zC):ziU (a,()) = some (zax a,()):=by
  rw [zF]
  simp only [ziU,zax,zT]
  grind
def zlk (x y:Int):Int:=bif decide (x < y) then -1 else bif decide (y < x) then 1 else 0
theorem zLz (x:Int):zaq (x,()) = some (false,()):=by
  simp only [zaq]; grind
theorem zEL (x:Int):vB (x,()) = some (false,()):=by
  simp only [vB]; grind
theorem zvm (x y:Int):zaM (x,y,()) = some (zlk x y,()):=by
  simp only [zaM,zLz,Option.bind_some,zlk]; grind
theorem zpG (x y:Int):ya (x,y,()) = some (zlk x y,()):=by
  simp only [ya,zEL,Option.bind_some,zlk]; grind
def orV (a b:Int):Int:=bif a != 0 then a else b
theorem zQI (a b:Int):zeg ([a,b],()) = some (orV a b,()):=by
  show zg jg K0 (0,[a,b],2,0) = _
  obtain ⟨m,hm⟩:=zx2
  rw [hm]
  show jg (jg (jg (zg jg (m + 5)))) (0,[a,b],2,0) = _
  have h:jg (jg (jg (zg jg (m + 5)))) (0,[a,b],2,0) = bif a != 0 then some (a,()) else bif b != 0 then some (b,()) else some (0,()):=by kernel_rfl
  rw [h]; unfold orV; grind
def zha (a b:zC):Int:=orV (zlk a.1 b.1) (zlk a.2.1 b.2.1)
theorem zLA (a b:zC):zmv (a,b,()) = some (zha a b,()):=by
  simp only [zmv,zvm,zpG,Option.bind_some]
  show Option.bind (zeg ([zlk a.1 b.1,zlk a.2.1 b.2.1],())) _ = _
  rw [zQI]; rfl
theorem zrb (a b:zC):eqI zt a b = ((a.1:Int) == b.1 && (a.2.1:Int) == b.2.1):=by
  show cond ((a.1:Int) == b.1) (cond ((a.2.1:Int) == b.2.1) true false) false = _
  cases ((a.1:Int) == b.1) <;> cases ((a.2.1:Int) == b.2.1) <;> rfl
theorem zLB (a b:zC):zms (a,b,()) = some (zha a b,()):=by
  simp only [zms,zrb,zha,orV,zlk]; grind
def zcb (l:List zC):Bool:=zT (l.length:Int) 1 8 && (eqI zt (l.getD 0 (zd zt)) (zd zt) && (l.all zax && zW (fun i=>decide (zha (l.getD (i - 1) (zd zt)) (l.getD i (zd zt)) < 0)) 1 (l.length - 1)))
theorem zNs {α:Type} {d:α} {l:List α}:ix d l 0 = l.getD 0 d:=rfl
theorem zPx (r:ze):vL (r,()) = some (zcb r.1,()):=by
  simp only [vL,zhM,zfQ,Option.bind_some]
  by_cases hw:zT (List.length r.1:Int) 1 8 = true
  · have hb:1 ≤ List.length r.1 ∧ List.length r.1 ≤ 8:=by unfold zT at hw; grind
    have hl:List.length r.1 ≤ Go.maxLen:=by unfold Go.maxLen; omega
    have hloop:zjC K0 (1,r) = bif zW (fun i=>decide (zha (List.getD r.1 (i - 1) (zd zt)) (List.getD r.1 i (zd zt)) < 0)) 1 (List.length r.1 - 1) then some (true,()) else some (false,()) :=
      z8 (i0:=1) hl hb.1 (fun i=>(i,r)) (fun k i h1 h2=>by
        simp only [zfL]
        rw [ltT h2,zjO h1 (by omega),zk (by omega),zk h2,zG,Int.toNat_natCast,zLA]
        simp only [cond_true,Option.bind_some]; grind) (fun k=>by simp only [zfL]; rw [ltF]; rfl)
    rw [zli (p:=fun a=>!zax a) hl fun x _=>zNr x,hloop,zNs]
    have:=ve (l:=r.1) (p:=zax)
    unfold zcb
    simp only [Option.bind_some]
    grind
  · unfold zcb; grind
theorem zEM (l:List zC):zhE (l,()) = some (zcb l,()):=by
  simp only [zhE,zhD]
  by_cases hw:zT (List.length l:Int) 1 8 = true
  · have hb:1 ≤ List.length l ∧ List.length l ≤ 8:=by unfold zT at hw; grind
    have hl:List.length l ≤ Go.maxLen:=by unfold Go.maxLen; omega
    have hloop:zjw K0 (l,1) = bif zW (fun i=>zax (List.getD l i (zd zt)) && decide (zha (List.getD l (i - 1) (zd zt)) (List.getD l i (zd zt)) < 0)) 1 (List.length l - 1) then some (true,()) else some (false,()) :=
      z8 (i0:=1) hl hb.1 (fun i=>(l,i)) (fun k i h1 h2=>by
        simp only [zfG]
        rw [ltT h2,zjO h1 (by omega),zk h2,zk (by omega),zk h2,zG,Int.toNat_natCast,zLB,zGV]
        simp only [cond_true,Option.bind_some]; grind) (fun k=>by simp only [zfG]; rw [ltF]; rfl)
    rw [hloop,zNs]
    have h0:eqI zt (l.getD 0 (zd zt)) (zd zt) = true→zax (l.getD 0 (zd zt)) = true:=fun h=>by
      rw [zrb] at h
      have:(l.getD 0 (zd zt)).1 = (0:Int):=by have:(zd zt).1 = (0:Int):=rfl; grind
      unfold zax zT; grind
    have hsplit:zax (l.getD 0 (zd zt)) = true→zW (fun i=>zax (List.getD l i (zd zt)) && decide (zha (List.getD l (i - 1) (zd zt)) (List.getD l i (zd zt)) < 0)) 1 (List.length l - 1) = (l.all zax && zW (fun i=>decide (zha (l.getD (i - 1) (zd zt)) (l.getD i (zd zt)) < 0)) 1 (l.length - 1)):=fun h0=>by
      rw [Bool.eq_iff_iff,Bool.and_eq_true,qL,qL,List.all_eq_true]
      constructor
      · intro h
        refine ⟨fun x hx=>?_,fun j h1 h2=>?_⟩
        · obtain ⟨i,hi,rfl⟩:=List.mem_iff_getElem.1 hx
          have e:l.getD i (zd zt) = l[i]:=by simp [List.getD,hi]
          rw [← e]
          by_cases hz:i = 0
          · subst hz; exact h0
          · have:=h i (by omega) (by omega); grind
        · have:=h j h1 h2; grind
      · rintro ⟨h1,h2⟩ j h3 h4
        have:=h2 j h3 h4
        have:=h1 _ (zV (d:=zd zt) (show j < l.length by omega))
        grind
    unfold zcb
    grind
  · unfold zcb zT at *; grind
end Go.Proofs.YtejbgeokcpillaaGreatDoor
end
section
namespace Go.Proofs.YtejbgeokcpillaaGreatDoor
open Go.Ev
def small (c:Int):Bool:=decide (97 ≤ c ∧ c ≤ 122)
def zx3 (c:Int):Bool:=decide (48 ≤ c ∧ c ≤ 57)
theorem zMk (c:Int):zgX (c,()) = some (small c,()):=by
  simp only [zgX,small]; grind
theorem zQa (c:Int):zkg (c,()) = some (zx3 c,()):=by
  simp only [zkg,zx3]; grind
def zHz (c:Int):Bool:=small c || zx3 c
theorem zQJ (c:Int):zhz (c,()) = some (zHz c,()):=by
  simp only [zhz,zMk,zQa,Option.bind_some,zHz]; grind
def zhb (s:ByteArray):List Int:=List.map (fun b:UInt8=>(b.toNat:Int)) s.data.toList
def chr (s:ByteArray) (i:Nat):Int:=(((s.data.toList).getD i 0).toNat:Int)
theorem znH (s:ByteArray):(zhb s).length = s.size:=by unfold zhb; rw [List.length_map]; rfl
theorem zon (s:ByteArray):s.data.toList.length = s.size:=rfl
theorem zCU (s:ByteArray) (p:Int→Bool):(zhb s).all p = zW (fun i=>p (chr s i)) 0 s.size:=by
  rw [Bool.eq_iff_iff,qL,List.all_eq_true]
  have key:∀ i,i < s.size→(zhb s)[i]? = some (chr s i):=fun i hi=>by
    unfold zhb chr
    rw [List.getElem?_map,List.getElem?_eq_getElem (by rw [zon]; exact hi)]
    simp [List.getD,zon,hi]
  constructor
  · intro h j _ hj
    exact h _ (List.mem_of_getElem? (key j (by omega)))
  · intro h x hx
    obtain ⟨i,hi,rfl⟩:=List.mem_iff_getElem.1 hx
    rw [znH] at hi
    have:=key i hi
    rw [List.getElem?_eq_getElem (by rw [znH]; exact hi)] at this
    rw [Option.some.inj this]
    exact h i (by omega) (by omega)
theorem zCV {s:ByteArray} {g:Int × Unit→Option (Bool × Unit)} {p:Int→Bool} (hl:s.size ≤ Go.maxLen) (hp:∀ c,g (c,()) = some (p c,())):zob (s,some g,()) = some ((zhb s).all p,()):=by
  have h:vo (zhb s,some fun z=>zkf (z.1,some (some g),()),()) = some ((zhb s).any fun x=>!p x,()):=zvT (by rw [znH]; exact hl) fun x hx=>by
    show Option.bind (g (x,())) (fun q=>bif q.1 then some (false,()) else some (true,())) = _
    rw [hp x]; cases p x <;> rfl
  show Option.bind (vo (zhb s,some fun z=>zkf (z.1,some (some g),()),())) (fun q=>bif q.1 then some (false,()) else some (true,())) = _
  rw [h,← ve]; cases (zhb s).any fun x=>!p x <;> rfl
def zd8 (s:ByteArray):Bool:=decide (1 ≤ s.size) && (decide (s.size ≤ 12) && zW (fun i=>small (chr s i) || (decide (i ≠ 0) && zx3 (chr s i))) 0 s.size)
theorem zPy (s:ByteArray):zd8 s = (decide (1 ≤ s.size) && (decide (s.size ≤ 12) && (small (chr s 0) && (zhb s).all zHz))):=by
  rw [zCU,zd8,Bool.eq_iff_iff]
  simp only [Bool.and_eq_true,decide_eq_true_eq,qL,zHz]
  constructor
  · rintro ⟨h1,h2,h3⟩
    have:=h3 0 (by omega) (by omega)
    refine ⟨h1,h2,by grind,fun j h4 h5=>?_⟩
    have:=h3 j h4 h5
    grind
  · rintro ⟨h1,h2,h3,h4⟩
    refine ⟨h1,h2,fun j h5 h6=>?_⟩
    have:=h4 j h5 h6
    by_cases e:j = 0
    · subst e; grind
    · grind
theorem zll (s:ByteArray):zak (s,()) = some (zd8 s,()):=by
  rw [zF]
  simp only [zak]
  rw [zPy]
  by_cases h1:s.size < 1
  · grind
  by_cases h2:s.size > 12
  · grind
  rw [zCV (by unfold Go.maxLen; omega) zQJ]
  have hc:((UInt8.toNat (List.getD s.data.toList (Int.toNat 0) 0):Nat):Int) = chr s 0:=rfl
  rw [hc,zMk]
  simp only [Option.bind_some]
  grind
theorem zji (s:ByteArray):zH (s,()) = some (zd8 s,()):=by
  rw [zF]
  simp only [zH,ziV]
  unfold zd8
  by_cases h1:s.size < 1
  · have:s.size = 0:=by omega
    grind
  by_cases h2:s.size > 12
  · grind
  have hloop:zks K0 (s,0) = bif zW (fun i=>small (chr s i) || (decide (i ≠ 0) && zx3 (chr s i))) 0 (s.size - 0) then some (true,()) else some (false,()) :=
    z8 (i0:=0) (n:=s.size) (by unfold Go.maxLen; omega) (Nat.zero_le _) (fun i=>(s,i)) (fun k i h3 h4=>by
      simp only [zgA]
      have hc:((UInt8.toNat (List.getD s.data.toList (Int.toNat (i:Int)) 0):Nat):Int) = chr s i:=by rw [Int.toNat_natCast]; rfl
      rw [hc]
      simp only [ltT h4,zk h4,cond_true,small,zx3]
      grind) (fun k=>by simp only [zgA]; rw [ltF]; rfl)
  rw [hloop]
  grind
def zdD (a:qA):Bool:=zd8 a.1 && (zd8 a.2.1 && zT a.2.2.1 0 3)
theorem zJA (a:qA):zc7 (a,()) = some (!zdD a,()):=by
  simp only [zc7,zll,zfQ,Option.bind_some,zdD]; grind
theorem zgp {α:Type} (d x:α):zm (List.replicate 1 d) 0 x = [x]:=rfl
theorem zxF {n:Nat} (h:n ≤ 1000000):decide (n ≤ lim) = true:=decide_eq_true (by unfold lim; omega)
theorem zLC (r:ze) (h:r.2.2.1.length ≤ 1000):zia (r,()) = some (r.2.2.1.map (·.1),()):=by
  have hl:r.2.2.1.length ≤ Go.maxLen:=by unfold Go.maxLen; omega
  have:=vA (B:=yA) (α:=List ByteArray) (len:=r.2.2.1.length) hl (fun i o=>(r.2.2.1,(r.2.2.1.length:Int),i,o)) (fun i o=>some (o ++ (r.2.2.1.drop i).map (·.1),())) (fun i o=>o.length ≤ i) (fun k i s hi hI hk=>by
    simp only [yA]
    rw [ltT hi,zk hi,zG,zgp,zxF (by simp; omega)]
    simp only [cond_true]
    rw [hk _ (by simp; omega),jC qQ hi]
    simp) (fun k s _=>by
    simp only [yA]
    rw [ltF,List.drop_of_length_le (Nat.le_refl _)]
    simp) [] (Nat.le_refl _)
  exact this
def zhc:List ByteArray→Bool
  | []=>true
  | x :: l=>!(l.any fun y=>eqI .str x y) && zhc l
theorem zte (x y:ByteArray):eqI .str x y = (x.toList == y.toList):=rfl
theorem zOJ (o:List (ByteArray × Int)) (x z:ByteArray) (v:Int):jK .str (jP .str o x v) z = (jK .str o z || eqI .str z x):=by
  induction o with
  | nil=>simp only [jP,jK]; cases eqI .str z x <;> rfl
  | cons e o ih =>
    simp only [jP,jK]
    cases h:eqI .str x e.1 with
    | true =>
      simp only [cond_true,jK]
      have:eqI .str z e.1 = eqI .str z x:=by rw [zte] at *; rw [zte]; have:=eq_of_beq h; rw [this]
      cases h2:eqI .str z e.1 with
      | true=>rfl
      | false=>rw [← this,h2]; simp
    | false =>
      simp only [cond_false,jK,ih]
      cases eqI .str z e.1 <;> rfl
theorem zJB (o:List (ByteArray × Int)) (x:ByteArray) (v:Int):(jP .str o x v).length = o.length + (bif jK .str o x then 0 else 1):=by
  induction o with
  | nil=>rfl
  | cons e o ih =>
    simp only [jP,jK]
    cases h:eqI .str x e.1 with
    | true=>simp only [cond_true,List.length_cons,Nat.add_zero]
    | false =>
      simp only [cond_false,List.length_cons,ih]
      generalize (bif jK .str o x then 0 else 1) = n
      omega
def zt4:List ByteArray→List (ByteArray × Int)→Nat
  | [],o=>o.length
  | x :: l,o=>zt4 l (jP .str o x (wI (zaP .str (0:Int) o x + 1)))
theorem zMl:∀ (l:List ByteArray) (o:List (ByteArray × Int)),zt4 l o ≤ o.length + l.length
  | [],o=>Nat.le_refl _
  | x :: l,o=>by
    have h:=zMl l (jP .str o x (wI (zaP .str (0:Int) o x + 1)))
    rw [zJB] at h
    simp only [zt4,List.length_cons]
    cases hm:jK .str o x <;> (rw [hm] at h; simp only [cond_true,cond_false] at h; omega)
theorem zMm:∀ (l:List ByteArray) (o:List (ByteArray × Int)),(zt4 l o == o.length + l.length) = (zhc l && l.all fun x=>!jK .str o x)
  | [],o=>by simp [zt4,zhc]
  | x :: l,o=>by
    have h:=zMl l (jP .str o x (wI (zaP .str (0:Int) o x + 1)))
    have ih:=zMm l (jP .str o x (wI (zaP .str (0:Int) o x + 1)))
    rw [zJB] at h ih
    simp only [zt4,List.length_cons,zhc,List.all_cons]
    cases hm:jK .str o x with
    | true =>
      rw [hm] at h
      simp only [cond_true] at h
      have:(zt4 l (jP .str o x (wI (zaP .str (0:Int) o x + 1))) == o.length + (l.length + 1)) = false:=by
        simp only [beq_eq_false_iff_ne]; omega
      rw [this]
      simp
    | false =>
      rw [hm] at ih
      simp only [cond_false] at ih
      rw [show o.length + (l.length + 1) = o.length + 1 + l.length by omega,ih]
      simp only [zOJ,Bool.not_or,Bool.not_false,Bool.true_and]
      have:(l.all fun z=>!jK .str o z && !eqI .str z x) = ((l.all fun z=>!jK .str o z) && !(l.any fun y=>eqI .str x y)):=by
        rw [Bool.eq_iff_iff]
        simp only [List.all_eq_true,Bool.and_eq_true,Bool.not_eq_true',List.any_eq_false,Bool.not_eq_true]
        have hs:∀ z,eqI .str z x = eqI .str x z:=fun z=>by rw [zte,zte]; exact Bool.beq_comm
        grind
      rw [this]
      cases zhc l <;> cases (l.all fun z=>!jK .str o z) <;> cases (l.any fun y=>eqI .str x y) <;> rfl
theorem zOK (m n:Nat):(((m:Nat):Int) == ((n:Nat):Int)) = (m == n):=by
  rw [Bool.eq_iff_iff]; simp only [beq_iff_eq]; omega
theorem zQb (l:List ByteArray) (h:l.length ≤ 1000):zoI (l,()) = some (zhc l,()):=by
  have:=zqi (B:=zej) (l:=l) (α:=List (ByteArray × Int)) (zd .str) (fun i o=>(l,l,(l.length:Int),i,o)) (fun rest o=>some (zt4 rest o == l.length,())) (by unfold Go.maxLen; omega) (fun k i x rest s hi hx _ hr hk=>by
    simp only [zej]
    rw [ltT hi,zk hi,Int.toNat_natCast,hx]
    simp only [cond_true]
    exact hk _) (fun k s=>by
    simp only [zej]
    rw [ltF]
    simp only [cond_false,zt4]
    rw [zOK]
    cases s.length == l.length <;> rfl) []
  refine this.trans ?_
  have h2:=zMm l []
  simp only [List.length_nil,Nat.zero_add] at h2
  rw [h2]
  simp [jK]
def zff (l:List qA):Bool:=zT (l.length:Int) 1 8 && (l.all zdD && zhc (l.map (·.1)))
theorem zNt (r:ze):jW (r,()) = some (zff r.2.2.1,()):=by
  rw [zF]
  simp only [jW,zfQ,Option.bind_some]
  unfold zff
  by_cases hw:zT (List.length r.2.2.1:Int) 1 8 = true
  · have hb:1 ≤ List.length r.2.2.1 ∧ List.length r.2.2.1 ≤ 8:=by unfold zT at hw; grind
    rw [zrO (p:=fun a=>!zdD a) (by unfold Go.maxLen; omega) fun x _=>zJA x,zLC r (by omega)]
    simp only [Option.bind_some]
    rw [zQb _ (by simp; omega)]
    simp only [Option.bind_some]
    have:=ve (l:=r.2.2.1) (p:=zdD)
    grind
  · grind
theorem zCW:∀ {l:List ByteArray},zhc l = true ↔ ∀ i j:Nat,i < j→j < l.length→eqI .str (l.getD i (zd .str)) (l.getD j (zd .str)) = false
  | []=>by simp [zhc]
  | x :: l=>by
    simp only [zhc,Bool.and_eq_true,Bool.not_eq_true',List.any_eq_false,zCW (l:=l)]
    constructor
    · rintro ⟨h1,h2⟩ i j hij hj
      cases j with
      | zero=>omega
      | succ j =>
        simp only [List.length_cons] at hj
        cases i with
        | zero =>
          have:=h1 (l.getD j (zd .str)) (zV (by omega))
          simpa using this
        | succ i=>exact h2 i j (by omega) (by omega)
    · intro h
      refine ⟨fun y hy=>?_,fun i j h1 h2=>h (i + 1) (j + 1) (by omega) (by simp only [List.length_cons]; omega)⟩
      obtain ⟨j,hj,rfl⟩:=List.mem_iff_getElem.1 hy
      have:=h 0 (j + 1) (by omega) (by simp only [List.length_cons]; omega)
      simpa [List.getD,hj] using this
theorem zAz (l:List qA):zfI (l,()) = some (zff l,()):=by
  rw [zF]
  simp only [zfI,zfH]
  unfold zff
  by_cases h1:l.length < 1
  · unfold zT; grind
  by_cases h2:l.length > 8
  · unfold zT; grind
  have hl:l.length ≤ Go.maxLen:=by unfold Go.maxLen; omega
  have inner:∀ k0 (j:Nat),j < l.length→zcH K0 k0 (l,(j:Int),0) = bif zW (fun i=>!eqI .str (l.getD i qQ).1 (l.getD j qQ).1) 0 j then k0 (l,wI ((j:Int) + 1)) else some (false,()):=fun k0 j hj =>
    z8 (i0:=0) (n:=j) (by omega) (Nat.zero_le _) (fun i=>(l,(j:Int),i)) (fun k i h3 h4=>by
      simp only [zcG]
      rw [ltT h4,zk (by omega),zk hj,zG,zG,← zte]
      simp only [cond_true]
      cases eqI .str (l.getD i qQ).1 (l.getD j qQ).1 <;> rfl) (fun k=>by simp only [zcG]; rw [ltF]; rfl)
  have hloop:zg7 K0 (l,0) = bif zW (fun j=>zdD (l.getD j qQ) && zW (fun i=>!eqI .str (l.getD i qQ).1 (l.getD j qQ).1) 0 j) 0 (l.length - 0) then some (true,()) else some (false,()) :=
    z8 (i0:=0) hl (Nat.zero_le _) (fun i=>(l,i)) (fun k i h3 h4=>by
      simp only [zaj]
      rw [ltT h4]
      simp only [zk h4,zG,zji,Option.bind_some,cond_true]
      rw [inner k i h4]
      unfold zdD zT
      grind) (fun k=>by simp only [zaj]; rw [ltF]; rfl)
  rw [hloop]
  have hw:zT (l.length:Int) 1 8 = true:=by unfold zT; grind
  have key:zW (fun j=>zdD (l.getD j qQ) && zW (fun i=>!eqI .str (l.getD i qQ).1 (l.getD j qQ).1) 0 j) 0 (l.length - 0) = (l.all zdD && zhc (l.map (·.1))):=by
    have hm:∀ i,i < l.length→(l.map (·.1)).getD i (zd .str) = (l.getD i qQ).1:=fun i hi=>by simp [List.getD,hi]
    rw [Bool.eq_iff_iff,Bool.and_eq_true,qL,zCW,List.all_eq_true]
    constructor
    · intro h
      refine ⟨fun x hx=>?_,fun i j h3 h4=>?_⟩
      · obtain ⟨i,hi,rfl⟩:=List.mem_iff_getElem.1 hx
        have e:l.getD i qQ = l[i]:=by simp [List.getD,hi]
        rw [← e]
        have:=h i (by omega) (by omega)
        grind
      · rw [List.length_map] at h4
        rw [hm i (by omega),hm j h4]
        have:=h j (by omega) (by omega)
        simp only [Bool.and_eq_true,qL] at this
        have:=this.2 i (by omega) (by omega)
        simpa using this
    · rintro ⟨h3,h4⟩ j h5 h6
      simp only [Bool.and_eq_true,qL]
      refine ⟨h3 _ (zV (by omega)),fun i h7 h8=>?_⟩
      have:=h4 i j (by omega) (by rw [List.length_map]; omega)
      rw [hm i (by omega),hm j (by omega)] at this
      rw [this]; rfl
  rw [key,hw]
  grind
def zm5 (r:ze):Bool:=zT (r.2.1.length:Int) 1 8 && r.2.1.all fun i=>decide (0 ≤ i) && decide (i < (r.1.length:Int))
theorem zQc (r:ze) (h:r.1.length ≤ 1000):yr (r,()) = some (zm5 r,()):=by
  rw [zF]
  simp only [yr,zfQ,Option.bind_some]
  unfold zm5
  by_cases hw:zT (List.length r.2.1:Int) 1 8 = true
  · have hb:1 ≤ List.length r.2.1 ∧ List.length r.2.1 ≤ 8:=by unfold zT at hw; grind
    have hq:∀ x:Int,(fun z:Int × Unit=>zcF (z.1,some r,())) (x,()) = some (!(decide (0 ≤ x) && decide (x < (r.1.length:Int))),()):=fun x=>by
      show zcF _ = _
      simp only [zcF,zfQ,Option.bind_some]
      have:wI (((List.length r.1:Nat):Int) - 1) = (r.1.length:Int) - 1:=by
        unfold wI
        exact IntWalk.i64_in _ (by omega)
      rw [this]
      unfold zT
      grind
    rw [zdC (by unfold Go.maxLen; omega) fun x _=>hq x]
    simp only [Option.bind_some]
    have:=ve (l:=r.2.1) (p:=fun i=>decide (0 ≤ i) && decide (i < (r.1.length:Int)))
    grind
  · grind
def zx4 (r:ze):Bool:=zT r.2.2.2.2.2.1 0 24 && (zT r.2.2.2.2.2.2.1 0 48 && (zT r.2.2.2.2.2.2.2.1 1 4 && zT r.2.2.2.2.2.2.2.2.1 1 16))
theorem zQK (r:ze):zah (r,()) = some (zx4 r,()):=by
  simp only [zah,zfQ,Option.bind_some,zx4]; grind
def ztf (q:zbm):Bool:=zT q.1 0 12 && (zT q.2.1 0 12 && (zT q.2.2.1 0 12 && (zT q.2.2.2.1 0 12 && zT q.2.2.2.2.1 0 12)))
def zlm:Int→List zbm→Bool
  | _,[]=>true
  | left,q :: l=>ztf q && (decide (q.2.2.2.2.2.1 ≤ left) && zlm (wU (left - q.2.2.2.2.2.1)) l)
theorem zNu (x:Int):zfD (x,()) = some (!zT x 0 12,()):=by
  simp only [zfD,zfQ,Option.bind_some]; grind
def zhU (n:Nat) (l:List zbm):Bool:=decide (l.length = n) && (decide (0 < l.length) && (decide (1 ≤ (l.getD 0 qt).1) && zlm 4611686018427387904 l))
theorem zPz (r:ze) (h:1 ≤ r.1.length ∧ r.1.length ≤ 1000):vK (r,()) = some (zhU r.1.length r.2.2.2.2.1,()):=by
  rw [zF]
  simp only [vK,zhI]
  unfold zhU
  by_cases hn:r.2.2.2.2.1.length = r.1.length
  · have hl:r.2.2.2.2.1.length ≤ Go.maxLen:=by unfold Go.maxLen; omega
    have hloop:zjA K0 (4611686018427387904,r.2.2.2.2.1,(r.2.2.2.2.1.length:Int),0) = some (zlm 4611686018427387904 r.2.2.2.2.1,()) :=
      zqi (l:=r.2.2.2.2.1) (α:=Int) qt (fun i s=>(s,r.2.2.2.2.1,(r.2.2.2.2.1.length:Int),i)) (fun rest s=>some (zlm s rest,())) hl (fun k i x rest s hi hx _ hr hk=>by
        simp only [zfK]
        rw [ltT hi,zk hi]
        simp only [zG,hx,cond_true]
        have hnum:zki (x,()) = some ([x.1,x.2.1,x.2.2.1,x.2.2.2.1,x.2.2.2.2.1],()):=rfl
        rw [hnum]
        simp only [Option.bind_some]
        rw [zdC (p:=fun n=>!zT n 0 12) (l:=[x.1,x.2.1,x.2.2.1,x.2.2.2.1,x.2.2.2.2.1]) (by unfold Go.maxLen; simp) fun n _=>zNu n]
        simp only [Option.bind_some,hk,zlm,ztf,List.any_cons,List.any_nil]
        grind) (fun k s=>by simp only [zfK]; rw [ltF]; rfl) _
    rw [hloop,zNs]
    have h1:(((List.length r.2.2.2.2.1:Nat):Int) != ((List.length r.1:Nat):Int)) = false:=by rw [ziQ]; simp [hn]
    rw [h1]
    grind
  · have h1:(((List.length r.2.2.2.2.1:Nat):Int) != ((List.length r.1:Nat):Int)) = true:=by rw [ziQ]; simp [hn]
    rw [h1]
    grind
theorem zGW (x:Int):yo (x,()) = some (zT x 0 12,()):=by
  simp only [yo,zT]; grind
theorem zEN (l:List zbm) (hl:l.length ≤ Go.maxLen):zl1 (l,()) = some (zhU l.length l,()):=by
  rw [zF]
  show zg (yU) K0 (l,4611686018427387904,0) = _
  have hloop:zg (yU) K0 (l,4611686018427387904,0) = some (zlm 4611686018427387904 l && (decide (0 < l.length) && decide (1 ≤ (l.getD 0 qt).1)),()) :=
    zqi (l:=l) (α:=Int) qt (fun i s=>(l,s,i)) (fun rest s=>some (zlm s rest && (decide (0 < l.length) && decide (1 ≤ (l.getD 0 qt).1)),())) hl (fun k i x rest s hi hx _ hr hk=>by
      simp only [yU]
      rw [ltT hi,zk hi]
      simp only [zG,hx,cond_true,zGW,Option.bind_some,hk,zlm,ztf]
      grind) (fun k s=>by
      simp only [yU]
      rw [ltF,zNs]
      simp only [zlm]
      grind) _
  rw [hloop]
  unfold zhU
  grind
end Go.Proofs.YtejbgeokcpillaaGreatDoor
end
section
namespace Go.Proofs.YtejbgeokcpillaaGreatDoor
open Go.Ev
def zAA (b:Int):Int:=((2 ^ b.toNat:Nat):Int)
def yO (b:Int):Bool:=decide (0 ≤ b) && decide (b < 64)
theorem zOL {b:Int} (h:yO b = true):Go.IntKind.wrap .u64 (1 * 2 ^ (min (Int.toNat b) (Go.IntKind.bits .u64))) = zAA b:=by
  unfold yO at h
  simp only [Bool.and_eq_true,decide_eq_true_eq] at h
  obtain ⟨n,rfl⟩:=Int.eq_ofNat_of_zero_le h.1
  have hn:n < 64:=by omega
  unfold zAA
  rw [Int.toNat_natCast]
  have hm:min n (Go.IntKind.bits .u64) = n:=Nat.min_eq_left (by show n ≤ 64; omega)
  rw [hm]
  have:∀ n:Fin 64,Go.IntKind.wrap .u64 (1 * 2 ^ n.val) = ((2 ^ n.val:Nat):Int):=by decide +kernel
  exact this ⟨n,hn⟩
theorem zln {n:Int} (h:0 ≤ n ∧ n < 18446744073709551616):Go.IntKind.wrap .u64 n = n:=by
  show n % ((2 ^ 64:Nat):Int) = n
  exact Int.emod_eq_of_lt h.1 (by have:((2 ^ 64:Nat):Int) = 18446744073709551616:=by decide
                                  omega)
def znI (c:Int) (b:Nat):Bool:=c.toNat.testBit b
theorem has_eq (c b:Int) (hc:0 ≤ c) (hb:0 ≤ b ∧ b < 64):(Int.tmod (Int.fdiv c (2 ^ min (Int.toNat (Go.IntKind.wrap .u64 b)) (Go.IntKind.bits .u64))) 2 == 1) = znI c b.toNat:=by
  obtain ⟨n,rfl⟩:=Int.eq_ofNat_of_zero_le hc
  obtain ⟨m,rfl⟩:=Int.eq_ofNat_of_zero_le hb.1
  rw [zln (by omega)]
  have hm:min (Int.toNat (m:Int)) (Go.IntKind.bits .u64) = m:=Nat.min_eq_left (by show (m:Int).toNat ≤ 64; omega)
  rw [hm]
  unfold znI
  have h2:Int.fdiv (n:Int) (2 ^ m) = ((n / 2 ^ m:Nat):Int):=by
    rw [show ((2:Int) ^ m) = ((2 ^ m:Nat):Int) by simp]
    rw [Int.fdiv_eq_ediv_of_nonneg _ (Int.natCast_nonneg _)]
    rfl
  have h3:Int.tmod ((n / 2 ^ m:Nat):Int) 2 = ((n / 2 ^ m % 2:Nat):Int):=by
    rw [Int.tmod_eq_emod_of_nonneg (Int.natCast_nonneg _)]
    rfl
  rw [h2,h3,Int.toNat_natCast,Int.toNat_natCast,Nat.testBit_eq_decide_div_mod_eq]
  have:(((n / 2 ^ m % 2:Nat):Int) == 1) = decide (n / 2 ^ m % 2 = 1):=by
    by_cases h:n / 2 ^ m % 2 = 1
    · rw [h]; rfl
    · rw [decide_eq_false h]
      cases hx:(((n / 2 ^ m % 2:Nat):Int) == 1) with
      | false=>rfl
      | true=>exact absurd (Int.ofNat.inj (by simpa using hx)) h
  exact this
def zhV (a b:Int):Int:=Go.IntKind.wrap .u64 (BitVec.toNat (BitVec.ofInt (Go.IntKind.bits .u64) a &&& ~~~BitVec.ofInt (Go.IntKind.bits .u64) b):Int)
def orI (a b:Int):Int:=Go.IntKind.wrap .u64 (BitVec.toNat (BitVec.ofInt (Go.IntKind.bits .u64) a ||| BitVec.ofInt (Go.IntKind.bits .u64) b):Int)
def zof:Int→List zE→Int
  | a,[]=>a
  | a,g :: gs=>zof (orI a (zAA g.1)) gs
theorem zm6 (n:Nat):BitVec.ofInt (Go.IntKind.bits .u64) (n:Int) = BitVec.ofNat 64 n:=by
  show BitVec.ofInt 64 (n:Int) = BitVec.ofNat 64 n
  apply BitVec.eq_of_toNat_eq
  rw [BitVec.toNat_ofInt,BitVec.toNat_ofNat]
  omega
theorem zPS (x:BitVec 64):Go.IntKind.wrap .u64 (x.toNat:Int) = (x.toNat:Int):=by
  have:=x.isLt
  exact zln (by omega)
theorem zQd (a b:Nat) (ha:a < 2 ^ 64) (hb:b < 2 ^ 64):orI (a:Int) (b:Int) = ((a ||| b:Nat):Int):=by
  unfold orI
  rw [zm6,zm6]
  show Go.IntKind.wrap .u64 ((BitVec.ofNat 64 a ||| BitVec.ofNat 64 b).toNat:Int) = _
  rw [zPS,BitVec.toNat_or,BitVec.toNat_ofNat,BitVec.toNat_ofNat,Nat.mod_eq_of_lt ha,Nat.mod_eq_of_lt hb]
theorem zzg (c m:Nat) (hc:c < 2 ^ 64) (hm:m < 2 ^ 64):(zhV (c:Int) (m:Int) != 0) = !((List.range' 0 64).all fun i=>!c.testBit i || m.testBit i):=by
  unfold zhV
  rw [zm6,zm6]
  show (Go.IntKind.wrap .u64 ((BitVec.ofNat 64 c &&& ~~~BitVec.ofNat 64 m).toNat:Int) != 0) = _
  rw [zPS]
  have hbit:∀ i,i < 64→(BitVec.ofNat 64 c &&& ~~~BitVec.ofNat 64 m).getLsbD i = (c.testBit i && !m.testBit i):=by
    intro i hi
    rw [BitVec.getLsbD_and,BitVec.getLsbD_not,BitVec.getLsbD_ofNat,BitVec.getLsbD_ofNat]
    simp [hi]
  by_cases h:((List.range' 0 64).all fun i=>!c.testBit i || m.testBit i) = true
  · rw [h]
    have h0:(BitVec.ofNat 64 c &&& ~~~BitVec.ofNat 64 m) = 0#64:=by
      apply BitVec.eq_of_getLsbD_eq
      intro i hi
      rw [hbit i hi]
      have:=List.all_eq_true.1 h i (by simp [List.mem_range'_1]; omega)
      revert this
      cases c.testBit i <;> cases m.testBit i <;> simp
    rw [h0]
    rfl
  · have h':=h
    simp only [Bool.not_eq_true] at h'
    rw [h']
    have:(BitVec.ofNat 64 c &&& ~~~BitVec.ofNat 64 m).toNat ≠ 0:=by
      intro h0
      apply h
      rw [List.all_eq_true]
      intro i hi
      simp only [List.mem_range'_1] at hi
      have hb:=hbit i (by omega)
      have e0:(BitVec.ofNat 64 c &&& ~~~BitVec.ofNat 64 m) = 0#64:=BitVec.eq_of_toNat_eq (by rw [h0]; rfl)
      rw [e0] at hb
      revert hb
      cases c.testBit i <;> cases m.testBit i <;> simp
    rw [Bool.not_false,bne_iff_ne]
    omega
theorem zPA {b:Int} (h:yO b = true):∃ n:Nat,b = n ∧ n < 64 ∧ zAA b = ((2 ^ n:Nat):Int):=by
  unfold yO at h
  simp only [Bool.and_eq_true,decide_eq_true_eq] at h
  obtain ⟨n,rfl⟩:=Int.eq_ofNat_of_zero_le h.1
  exact ⟨n,rfl,by omega,rfl⟩
theorem zCX:∀ (l:List zE) (m:Nat),m < 2 ^ 64→(∀ g ∈ l,yO g.1 = true)→∃ k:Nat,zof (m:Int) l = (k:Int) ∧ k < 2 ^ 64 ∧ ∀ i:Nat,k.testBit i = (m.testBit i || l.any fun g=>g.1 == (i:Int))
  | [],m,hm,_=>⟨m,rfl,hm,fun i=>by simp⟩
  | g :: l,m,hm,h=>by
    obtain ⟨n,hn,hn64,hv⟩:=zPA (h g (by simp))
    have hp:2 ^ n < 2 ^ 64:=Nat.pow_lt_pow_right (by omega) hn64
    obtain ⟨k,hk,hk64,hb⟩:=zCX l (m ||| 2 ^ n) (Nat.or_lt_two_pow hm hp) fun g hg=>h g (by simp [hg])
    refine ⟨k,?_,hk64,fun i=>?_⟩
    · simp only [zof]
      rw [hv,zQd m (2 ^ n) hm hp]
      exact hk
    · rw [hb i,Nat.testBit_or,Nat.testBit_two_pow,List.any_cons,hn,Bool.or_assoc]
      congr 2
      by_cases e:n = i
      · subst e; simp
      · rw [decide_eq_false e]
        symm
        simp only [beq_eq_false_iff_ne,ne_eq]
        omega
def zx5 (l:List zE) (c:Int) (i k:Nat):Bool:=(List.range' i k).all fun b=>!znI c b || l.any fun g=>g.1 == (b:Int)
def zxG (labels:List zC) (l:List zE):Bool:=labels.all fun a=>zx5 l a.2.1 0 64
def zpH (l:List zC):Prop:=∀ a ∈ l,0 ≤ a.2.1 ∧ a.2.1 < 18446744073709551616
theorem zQL (labels:List zC) (l:List zE) (hl:zpH labels) (h:∀ g ∈ l,yO g.1 = true):(labels.any fun a=>zhV a.2.1 (zof 0 l) != 0) = !zxG labels l:=by
  obtain ⟨k,hk,hk64,hb⟩:=zCX l 0 (by decide) h
  have hk':zof 0 l = (k:Int):=hk
  rw [hk']
  unfold zxG
  have key:∀ ls:List zC,zpH ls→(ls.any fun a=>zhV a.2.1 (k:Int) != 0) = !(ls.all fun a=>zx5 l a.2.1 0 64):=by
    intro ls
    induction ls with
    | nil=>intro _; rfl
    | cons a ls ih =>
      intro ha
      have h1:=ha a (by simp)
      rw [List.any_cons,List.all_cons,ih fun b hb=>ha b (by simp [hb]),Bool.not_and]
      congr 1
      obtain ⟨c,hc⟩:=Int.eq_ofNat_of_zero_le h1.1
      rw [hc,zzg c k (by omega) hk64]
      congr 1
      unfold zx5
      congr 1
      funext i
      rw [hb i]
      unfold znI
      simp
  exact key labels hl
def zt5 (b:Int):zC:=(0,zAA b,())
theorem zJC (b:Int):zkh (b,()) = some (bif yO b then (zt5 b,0,()) else ((0,0,()),1,())):=by
  simp only [zkh]
  cases h:yO b with
  | true =>
    have hs:wU (1 * 2 ^ min (Int.toNat b) (Go.IntKind.bits .u64)) = zAA b:=zOL h
    rw [hs]
    simp only [yO,Bool.and_eq_true,decide_eq_true_eq] at h
    simp only [zt5]
    grind
  | false =>
    simp only [yO,Bool.and_eq_false_iff,decide_eq_false_iff_not] at h
    grind
theorem zNv (a:zC) (c:Int):zjt (a,some c,()) = some (zhV a.2.1 c != 0,()):=by
  rw [zF]; rfl
theorem zNw (a b:zC):eqI zt a b = eqI zt b a:=by
  rw [zrb,zrb]
  grind
theorem zJD {σ α:Type} {B:(σ→Option (Int × Unit))→σ→Option (Int × Unit)} {l:List α} (d:α) {p:α→Bool} (st:Int→σ) (hl:l.length ≤ Go.maxLen)
    (hin:∀ k (i:Nat) x,i < l.length→l.getD i d = x→x ∈ l→B k (st i) = bif p x then some ((i:Int),()) else k (st (wI (i + 1)))) (hout:∀ k,B k (st l.length) = some (-1,())):zg B K0 (st 0) = some (jf p l 0,()):=by
  have:=vA (α:=Unit) (B:=B) hl (fun i _=>st i) (fun i _=>some (jf p (l.drop i) i,())) (fun _ _=>True) (fun k i s hi _ h=>?_) (fun k s _=>?_) () trivial
  · simpa using this
  · rw [hin k i _ hi rfl (zV hi),h () trivial,jC d hi]
    simp only [jf]
    cases p (l.getD i d) <;> rfl
  · rw [hout,List.drop_of_length_le (Nat.le_refl _)]; rfl
theorem zPB {σ α ρ:Type} {B:(σ→Option ρ)→σ→Option ρ} {l:List α} (d:α) {p:α→Bool} {fin hit:Option ρ} (st:Int→σ) (hl:l.length ≤ Go.maxLen)
    (hin:∀ k (i:Nat) x,i < l.length→l.getD i d = x→x ∈ l→B k (st i) = bif p x then hit else k (st (wI (i + 1)))) (hout:∀ k,B k (st l.length) = fin):zg B K0 (st 0) = bif l.any p then hit else fin:=by
  have:=jF (B:=B) (p:=fun x=>!p x) (fin:=fin) (bad:=hit) d st hl (fun k i x h1 h2 h3=>by
    rw [hin k i x h1 h2 h3]; cases p x <;> rfl) hout
  rw [this,← List.not_any_eq_all_not]
  cases l.any p <;> rfl
theorem zAB {l:List zC} {a:zC} (hl:l.length ≤ Go.maxLen):zbZ (l,a,()) = some (l.any fun y=>eqI zt a y,()):=by
  have h:zjs (l,a,()) = some (jf (fun y=>eqI zt a y) l 0,()) :=
    zJD (B:=zae) (l:=l) ji (fun i=>(l,(l.length:Int),i,a)) hl (fun k i x hi hx _=>by
      simp only [zae]
      rw [ltT hi,zk hi,zG,hx]; rfl) (fun k=>by simp only [zae]; rw [ltF]; rfl)
  rw [zF]
  simp only [zbZ,h,Option.bind_some]
  rw [zzC (p:=fun y=>eqI zt a y) l 0 (Int.le_refl 0)]
theorem zFz {α:Type} {p:α→Bool}:∀ (xs:List α) (i:Int),0 ≤ i→decide (jf p xs i < 0) = !xs.any p
  | [],_,_=>rfl
  | x :: xs,i,h=>by
    have ih:=zFz (p:=p) xs (i + 1) (by omega)
    simp only [jf,List.any_cons]
    by_cases hp:p x = true
    · simp [hp]; omega
    · simp only [Bool.not_eq_true] at hp
      simpa [hp] using ih
theorem zJE (b:Int) (h:yO b = true):zg3 (b,()) = some (zt5 b,()):=by
  simp only [zg3]
  have hs:=zOL h
  simp only [yO,Bool.and_eq_true,decide_eq_true_eq] at h
  have hw:wU b = b:=zln (by omega)
  rw [hw,decide_eq_false (by omega),cond_false]
  exact congrArg (fun z:Int=>some (((0,z,()),()):zC × Unit)) hs
theorem zGX {l:List zC} {a:zC} (hl:l.length ≤ Go.maxLen):ziW (l,a,()) = some (jf (fun y=>eqI zt y a) l 0,()) :=
  zJD (B:=zcy) (l:=l) ji (fun i=>(l,i,a)) hl (fun k i x hi hx _=>by
      simp only [zcy]
      rw [ltT hi,zk hi,zG,hx]; rfl) (fun k=>by simp only [zcy]; rw [ltF]; rfl)
theorem zLD {l:List zE} {b:Int} (hl:l.length ≤ Go.maxLen):zrE (l,b,()) = some (l.any fun g=>(g.1:Int) == b,()):=by
  rw [zF]
  exact zPB (B:=zfX) (l:=l) qB (fun i=>(l,b,i)) hl (fun k i x hi hx _=>by
      simp only [zfX]
      rw [ltT hi,zk hi,zG,hx]; rfl) (fun k=>by simp only [zfX]; rw [ltF]; rfl)
theorem zrP (a:zC) (b:Int) (ha:0 ≤ a.2.1) (hb:0 ≤ b ∧ b < 64):zgg (a,b,()) = some (znI a.2.1 b.toNat,()):=by
  rw [zF]
  simp only [zgg]
  have hh:=has_eq a.2.1 b ha hb
  have hw:wU b = b:=zln (by omega)
  rw [hw,decide_eq_false (by omega),cond_false,← hh]
  have hw':Go.IntKind.wrap .u64 b = b:=hw
  rw [hw']
def zAC (labels:List zC) (n:Nat) (last:Int) (g:zE):Bool:=yO g.1 && (decide (last < g.1) && (zT g.2.1 0 ((n:Int) - 1) && labels.any fun y=>eqI zt (zt5 g.1) y))
def zhd (labels:List zC) (n:Nat):Int→List zE→Bool
  | _,[]=>true
  | last,g :: gs=>zAC labels n last g && zhd labels n g.1 gs
def zoo (labels:List zC) (n:Nat) (l:List zE):Bool:=decide (l.length ≤ 8) && (zhd labels n (-1) l && zxG labels l)
theorem zFA {labels:List zC} {m:Nat}:∀ (l:List zE) (last:Int),zhd labels m last l = true→∀ g ∈ l,yO g.1 = true
  | [],_,_,g,hg=>by cases hg
  | a :: l,last,h,g,hg=>by
    simp only [zhd,zAC,Bool.and_eq_true] at h
    rcases List.mem_cons.1 hg with rfl | hg
    · exact h.1.1
    · exact zFA l a.1 h.2 g hg
theorem zPC (r:ze) (h1:r.1.length ≤ Go.maxLen) (h2:r.2.2.1.length ≤ 1000000) (h3:r.2.2.2.1.length ≤ Go.maxLen) (hL:zpH r.1):vJ (r,()) = some (zoo r.1 r.2.2.1.length r.2.2.2.1,()):=by
  have hloop:vJ (r,()) = some (zhd r.1 r.2.2.1.length (-1) r.2.2.2.1 && (decide (r.2.2.2.1.length ≤ 8) && !(r.1.any fun a=>zhV a.2.1 (zof 0 r.2.2.2.1) != 0)),()) :=
    zqi (B := zbx) (l:=r.2.2.2.1) (α:=Int × Int) qB (fun i s=>(s.1,r.2.2.2.1,(r.2.2.2.1.length:Int),i,r,s.2))
      (fun rest s=>some (zhd r.1 r.2.2.1.length s.1 rest && (decide (r.2.2.2.1.length ≤ 8) && !(r.1.any fun a=>zhV a.2.1 (zof s.2 rest) != 0)),())) h3 (fun k i x rest s hi hx _ hr hk=>by
        simp only [zbx]
        have hw:wI (((List.length r.2.2.1:Nat):Int) - 1) = (r.2.2.1.length:Int) - 1:=by
          unfold wI
          exact IntWalk.i64_in _ (by omega)
        rw [ltT hi,zk hi,hw]
        simp only [zG,hx,cond_true,zJC,Option.bind_some,zhd,zAC,zof]
        cases hb:yO x.1 with
        | false=>rfl
        | true =>
          simp only [cond_true,zfQ,Option.bind_some,Bool.true_and,zAB h1]
          have hk':=hk (x.1,orI s.2 (zAA x.1))
          have e:decide (s.1 < x.1) = !decide ((x.1:Int) ≤ s.1):=by grind
          rw [e]
          cases decide ((x.1:Int) ≤ s.1) with
          | true=>rfl
          | false =>
            cases zT x.2.1 0 ((r.2.2.1.length:Int) - 1) with
            | false=>rfl
            | true =>
              cases (r.1.any fun y=>eqI zt (zt5 x.1) y) with
              | false=>rfl
              | true=>exact hk') (fun k s=>by
        simp only [zbx]
        rw [ltF]
        simp only [cond_false,zhd,zof,Bool.true_and]
        rw [zli (p:=fun a=>zhV a.2.1 s.2 != 0) h1 fun x _=>zNv x s.2,Option.bind_some]
        grind) (-1,0)
  rw [hloop]
  unfold zoo
  cases hr:zhd r.1 r.2.2.1.length (-1) r.2.2.2.1 with
  | false=>simp
  | true =>
    rw [zQL r.1 r.2.2.2.1 hL (zFA _ _ hr)]
    simp
theorem zCY {labels:List zC} {n:Nat}:∀ {l:List zE} {last:Int},zhd labels n last l = zW (fun i=>zAC labels n (if i = 0 then last else (l.getD (i - 1) qB).1) (l.getD i qB)) 0 l.length:=by
  intro l
  induction l with
  | nil=>intro last; rfl
  | cons a l ih =>
    intro last
    simp only [zhd,List.length_cons,zW,ih]
    rw [Bool.eq_iff_iff]
    simp only [Bool.and_eq_true,qL]
    constructor
    · rintro ⟨h1,h2⟩
      refine ⟨h1,fun j h3 h4=>?_⟩
      obtain ⟨i,rfl⟩:∃ i,j = i + 1:=⟨j - 1,by omega⟩
      have:=h2 i (by omega) (by omega)
      rw [if_neg (by omega)]
      by_cases e:i = 0
      · subst e; simpa using this
      · rw [if_neg e] at this
        obtain ⟨m,rfl⟩:∃ m,i = m + 1:=⟨i - 1,by omega⟩
        exact this
    · rintro ⟨h1,h2⟩
      refine ⟨h1,fun j h3 h4=>?_⟩
      have:=h2 (j + 1) (by omega) (by omega)
      rw [if_neg (by omega)] at this
      by_cases e:j = 0
      · subst e; simpa using this
      · rw [if_neg e]
        obtain ⟨m,rfl⟩:∃ m,j = m + 1:=⟨j - 1,by omega⟩
        exact this
theorem zEO (l:List zE) (labels:List zC) (n:Nat) (h1:labels.length ≤ Go.maxLen) (hL:zpH labels):zhG (l,labels,(n:Int),()) = some (zoo labels n l,()):=by
  rw [zF]
  simp only [zhG,zhF]
  unfold zoo
  by_cases h8:l.length ≤ 8
  · have hl:l.length ≤ Go.maxLen:=by unfold Go.maxLen; omega
    have bits:∀ k1 (j:Nat),j < labels.length→zg (yT k1) K0 (l,labels,(j:Int),0) = bif zx5 l (labels.getD j ji).2.1 0 64 then k1 (l,labels,wI ((j:Int) + 1)) else some (false,()):=fun k1 j hj=>by
      have hc:=(hL _ (zV (d:=ji) hj)).1
      have:=zFw (B:=yT k1) (n:=64) (by unfold Go.maxLen; omega) (p:=fun b=>!znI (labels.getD j ji).2.1 b || l.any fun g=>(g.1:Int) == (b:Int)) (fin:=k1 (l,labels,wI ((j:Int) + 1))) (bad:=some (false,())) (fun i=>(l,labels,(j:Int),i)) (fun k i hi=>by
        simp only [yT]
        rw [decide_eq_true (by omega),zk hj,zG,zrP _ _ hc (by omega),zLD hl,Int.toNat_natCast]
        simp only [cond_true,Option.bind_some]
        grind) (fun k=>by
        simp only [yT]
        rfl)
      rw [this]
      unfold zx5
      rw [List.range_eq_range']
    have cover:zfJ K0 (l,labels,0) = some (zxG labels l,()):=by
      rw [zF]
      exact jF (l:=labels) ji (p:=fun a=>zx5 l a.2.1 0 64) (fun i=>(l,labels,i)) h1 (fun k i x hi hx _=>by
        simp only [zbt]
        rw [ltT hi,cond_true]
        refine (bits k i hi).trans ?_
        rw [hx]) (fun k=>by simp only [zbt]; rw [ltF]; rfl)
    have hloop:zjz K0 (l,labels,(n:Int),0) = bif zW (fun i=>zAC labels n (if i = 0 then -1 else (l.getD (i - 1) qB).1) (l.getD i qB)) 0 (l.length - 0) then some (zxG labels l,()) else some (false,()) :=
      z8 (i0:=0) hl (Nat.zero_le _) (fun i=>(l,labels,(n:Int),i)) (fun k i h3 h4=>by
        simp only [zbu]
        rw [ltT h4]
        simp only [zk h4,cond_true,zG,zAC]
        by_cases hb:yO (l.getD i qB).1 = true
        · rw [zJE _ hb,Option.bind_some,zGX h1,Option.bind_some,hb]
          have ha:(labels.any fun y=>eqI zt y (zt5 (l.getD i qB).1)) = labels.any fun y=>eqI zt (zt5 (l.getD i qB).1) y:=by congr 1; funext y; exact zNw _ _
          rw [zFz labels 0 (Int.le_refl 0),ha]
          simp only [yO,Bool.and_eq_true,decide_eq_true_eq] at hb
          by_cases hi0:i = 0
          · subst hi0
            unfold zT
            grind
          · rw [zjO (by omega) (by unfold Go.maxLen; omega),zk (by omega),Int.toNat_natCast,if_neg hi0]
            unfold zT
            grind
        · simp only [Bool.not_eq_true] at hb
          rw [hb]
          simp only [yO,Bool.and_eq_false_iff,decide_eq_false_iff_not] at hb
          grind) (fun k=>by
        simp only [zbu]
        rw [ltF,cond_false]
        exact cover)
    rw [hloop,zCY]
    grind
  · grind
def qZ (r:ze):Bool:=zcb r.1 && (zm5 r && (zff r.2.2.1 && (zoo r.1 r.2.2.1.length r.2.2.2.1 && (zhU r.1.length r.2.2.2.2.1 && zx4 r))))
structure z9 (r:ze):Prop where
  labels:zpH r.1
  guilds:r.2.2.2.1.length ≤ Go.maxLen
  quotas:r.2.2.2.2.1.length ≤ Go.maxLen
theorem znJ (r:ze) (h:z9 r):zaG (r,()) = some (qZ r,()):=by
  rw [zF]
  show zg zgJ K0 (6,0,r,[some vL,some yr,some jW,some vJ,some vK,some zah]) = _
  obtain ⟨m,hm⟩:=zx2
  have hu:zg zgJ (m + 8) (6,0,r,[some vL,some yr,some jW,some vJ,some vK,some zah]) =
    Option.bind (vL (r,())) fun q=>bif q.1 then Option.bind (yr (r,())) fun q=>bif q.1 then Option.bind (jW (r,())) fun q=>bif q.1 then Option.bind (vJ (r,())) fun q=>bif q.1 then Option.bind (vK (r,())) fun q=>bif q.1 then Option.bind (zah (r,())) fun q=>bif q.1 then some (true,()) else some (false,()) else some (false,()) else some (false,()) else some (false,()) else some (false,()) else some (false,()):=by kernel_rfl
  rw [hm,hu,zPx]
  unfold qZ
  simp only [Option.bind_some]
  cases h1:zcb r.1 with
  | false=>rfl
  | true =>
    have hb:1 ≤ r.1.length ∧ r.1.length ≤ 8:=by unfold zcb zT at h1; grind
    rw [zQc r (by omega),zNt]
    simp only [Option.bind_some,cond_true]
    cases zm5 r with
    | false=>rfl
    | true =>
      cases h2:zff r.2.2.1 with
      | false=>rfl
      | true =>
        have hc:r.2.2.1.length ≤ 8:=by unfold zff zT at h2; grind
        rw [zPC r (by unfold Go.maxLen; omega) (by omega) h.guilds h.labels,zPz r (by omega),zQK]
        simp only [Option.bind_some]
        grind
theorem zvn (r:ze) (h:z9 r):zf4 (r,()) = some (qZ r,()):=by
  rw [zF]
  simp only [zf4,zi4,zEM,zAz,Option.bind_some]
  unfold qZ
  cases h1:zcb r.1 with
  | false=>rfl
  | true =>
    have hb:1 ≤ r.1.length ∧ r.1.length ≤ 8:=by unfold zcb zT at h1; grind
    rw [zEO _ _ _ (by unfold Go.maxLen; omega) h.labels]
    simp only [Option.bind_some]
    by_cases hw:zT (List.length r.2.1:Int) 1 8 = true
    · have hloop:zkM K0 (0,r) = bif (r.2.1.all fun i=>decide (0 ≤ i) && decide (i < (r.1.length:Int))) then some (zhU r.1.length r.2.2.2.2.1 && zx4 r,()) else some (false,()) :=
        jF (l:=r.2.1) (0:Int) (fun i=>(i,r)) (by unfold zT at hw; unfold Go.maxLen; grind) (fun k i x hi hx _=>by
          simp only [zgE]
          rw [ltT hi,zk hi,zk hi,zG,hx]
          grind) (fun k=>by
          simp only [zgE]
          rw [ltF,zEN _ h.quotas,ziQ]
          simp only [Option.bind_some,zhU,zx4,zT]
          by_cases hn:r.2.2.2.2.1.length = r.1.length
          · rw [hn]; grind
          · grind)
      rw [hloop]
      unfold zm5
      unfold zT at hw ⊢
      grind
    · unfold zm5
      unfold zT at hw ⊢
      grind
end Go.Proofs.YtejbgeokcpillaaGreatDoor
end
section
namespace Go.Proofs.YtejbgeokcpillaaGreatDoor
open Go.Ev
def qn (x:Int):Bool:=decide (0 ≤ x ∧ x ≤ 127)
theorem zNx (x:Int):zft (x,()) = some (qn x,()):=by simp only [zft,qn]; grind
theorem zdT (x:Int):vn (x,()) = some (qn x,()):=by simp only [vn,qn]; grind
theorem zOM (x:Int):zjU (x,()) = some (qn x,()):=by simp only [zjU,qn]; grind
theorem zLE (x:Int):zgh (x,()) = some (qn x,()):=by simp only [zgh,qn]; grind
def zd9 (x:qy):Bool:=qn x.1 && qn x.2.1
theorem zQe (x:qy):zgZ (x,()) = some (zd9 x,()):=by simp only [zgZ,zd9,qn]; grind
theorem zjj (x:qy):qx (x,()) = some (zd9 x,()):=by simp only [qx,zd9,qn]; grind
def zHA (x:Int):Bool:=decide (0 ≤ x ∧ x ≤ 5)
theorem zQf (x:Int):zkk (x,()) = some (zHA x,()):=by simp only [zkk,zHA]; grind
def zpI (s:ByteArray):Bool:=ByteArray.toList s == ByteArray.toList (ByteArray.mk #[])
def zlo (x:qV):Bool:=bif x.1 then zd8 x.2.1 else zpI x.2.1
theorem zLF {s:ByteArray} (h:zpI s = true):zd8 s = false:=by
  unfold zpI at h
  have:=eq_of_beq h
  rw [Go.ByteArray.toList_eq,Go.ByteArray.toList_eq] at this
  have h2:s.size = 0:=by
    rw [← zon,this]; rfl
  unfold zd8; rw [h2]; rfl
theorem zON (x:qV):zhN (x,()) = some (!zlo x,()):=by
  rw [zF]
  simp only [zhN,zll,Option.bind_some,zlo,zpI]
  grind
theorem zJF {l:List qV} (hl:l.length ≤ Go.maxLen):zk3 (l,()) = some (l.all zlo,()):=by
  rw [zF]
  simp only [zk3]
  rw [zvR (p:=fun x=>!zlo x) hl fun x _=>zON x,Option.bind_some,← ve]
  cases l.any fun x=>!zlo x <;> rfl
theorem zGY {l:List qV} (hl:l.length ≤ Go.maxLen):znj (l,()) = some (l.all zlo,()):=by
  rw [zF]
  exact jF (B:=zcJ) (l:=l) zhs (fun i=>(l,i)) hl (fun k i x hi hx _=>by
    simp only [zcJ]
    rw [ltT hi]
    simp only [zk hi,zG,hx,zji,Option.bind_some,cond_true,zlo]
    have:=@zLF x.2.1
    unfold zpI at this ⊢
    grind) (fun k=>by simp only [zcJ]; rw [ltF]; rfl)
theorem zQg (a b:qy):eqI zv a b = ((a.1:Int) == b.1 && (a.2.1:Int) == b.2.1):=by
  show cond ((a.1:Int) == b.1) (cond ((a.2.1:Int) == b.2.1) true false) false = _
  cases ((a.1:Int) == b.1) <;> cases ((a.2.1:Int) == b.2.1) <;> rfl
def zxH (x:qe):Bool:=bif x.1 then zd9 x.2.1 && (zd9 x.2.2.1 && zHA x.2.2.2.1) else eqI zU x (zd zU)
theorem zJG (x:qe):zkx (x,()) = some (!zxH x,()):=by
  rw [zF]
  simp only [zkx,zQe,zQf,Option.bind_some,zxH]
  grind
def zhW (a b:qe):Bool:=a.1 && (eqI zv a.2.1 b.2.1 && (a.2.2.2.1:Int) == b.2.2.2.1)
theorem zEP (x:qe) (r:qy) (d:Int):zhu (x,some r,some d,()) = some (x.1 && (eqI zv x.2.1 r && (x.2.2.2.1:Int) == d),()):=by
  rw [zF]
  simp only [zhu,Option.bind_some]
  grind
theorem zQh {α:Type} {d:α} {p:α→Bool}:∀ (l:List α) (i:Nat) (a:Int),i < l.length→p (l.getD i d) = true→((jf p l a) == a + (i:Int)) = zW (fun j=>!p (l.getD j d)) 0 i:=by
  intro l
  induction l with
  | nil=>intro i a h; simp at h
  | cons x l ih =>
    intro i a h hp
    cases i with
    | zero =>
      have hx:p x = true:=hp
      simp only [jf,hx,cond_true,zW]
      simp
    | succ i =>
      have h':i < l.length:=by simpa using h
      have hp':p (l.getD i d) = true:=hp
      have:=ih i (a + 1) h' hp'
      have e:a + 1 + (i:Int) = a + ((i + 1:Nat):Int):=by omega
      rw [e] at this
      simp only [jf]
      rw [Bool.eq_iff_iff,qL]
      rw [Bool.eq_iff_iff,qL] at this
      cases hx:p x with
      | true =>
        simp only [cond_true]
        constructor
        · intro h1
          have:=eq_of_beq h1
          omega
        · intro h1
          have h2:(!p x) = true:=h1 0 (by omega) (by omega)
          rw [hx] at h2; cases h2
      | false =>
        simp only [cond_false]
        rw [this]
        constructor
        · intro h1 j _ h2
          cases j with
          | zero=>show (!p x) = true; rw [hx]; rfl
          | succ j=>exact h1 j (by omega) (by omega)
        · intro h1 j _ h2
          exact h1 (j + 1) (by omega) (by omega)
def zCZ (l:List qe):Bool:=zW (fun i=>zxH (l.getD i qh) && bif (l.getD i qh).1 then zW (fun j=>!zhW (l.getD j qh) (l.getD i qh)) 0 i else true) 0 (l.length - 0)
theorem zJH {l:List qe} (hl:l.length ≤ Go.maxLen):zpk (l,()) = some (zCZ l,()):=by
  rw [zF]
  exact z8 (B:=zeP) (i0:=0) hl (Nat.zero_le _) (fun i=>(l,l,(l.length:Int),i)) (fun k i h1 h2=>by
    simp only [zeP]
    rw [ltT h2,zk h2]
    simp only [zG,zJG,Option.bind_some,cond_true]
    cases he:zxH (l.getD i qh) with
    | false=>rfl
    | true =>
      cases hs:(l.getD i qh).1 with
      | false=>rfl
      | true =>
        have hi:zky (l,(l.getD i qh).2.1,(l.getD i qh).2.2.2.1,()) = some (jf (fun x=>zhW x (l.getD i qh)) l 0,()):=by
          simp only [zky]
          rw [zpE (p:=fun x=>zhW x (l.getD i qh)) hl fun x _=>zEP x _ _]
          rfl
        have hp:zhW (l.getD i qh) (l.getD i qh) = true:=by
          unfold zhW; rw [zQg,hs]; simp
        have:=zQh (d:=qh) (p:=fun x=>zhW x (l.getD i qh)) l i 0 h2 hp
        rw [Int.zero_add] at this
        rw [hi,← this]
        simp only [Option.bind_some,Bool.not_true,cond_false,cond_true,Bool.true_and,bne]
        cases (jf (fun x=>zhW x (l.getD i qh)) l 0 == (i:Int)) <;> rfl) (fun k=>by simp only [zeP]; rw [ltF]; rfl)
theorem zGZ {l:List qe} (hl:l.length ≤ Go.maxLen):znl (l,()) = some (zCZ l,()):=by
  rw [zF]
  have inner:∀ k0 (i:Nat),i < l.length→zcM K0 k0 (l,(i:Int),0,l.getD i qh) = bif zW (fun j=>!((l.getD i qh).1 && zhW (l.getD j qh) (l.getD i qh))) 0 (i - 0) then k0 (l,wI ((i:Int) + 1)) else some (false,()):=fun k0 i hi =>
    z8 (B:=zcL k0) (i0:=0) (n:=i) (by omega) (Nat.zero_le _) (fun j=>(l,(i:Int),j,l.getD i qh)) (fun k j h1 h2=>by
      simp only [zcL]
      rw [ltT h2]
      simp only [zk (show j < l.length by omega),zG,cond_true,zhW]
      grind) (fun k=>by simp only [zcL]; rw [ltF]; rfl)
  exact z8 (B:=fun k=>zas (zcM K0 k) k) (i0:=0) hl (Nat.zero_le _) (fun i=>(l,i)) (fun k i h1 h2=>by
    simp only [zas]
    rw [ltT h2]
    simp only [zk h2,zG,zjj,Option.bind_some,cond_true,zxH,zHA]
    have:=inner k i h2
    rw [this]
    cases hs:(l.getD i qh).1 with
    | false =>
      simp only [Bool.false_and,Bool.not_false,cond_false,Bool.and_true]
      have:zW (fun _=>true) 0 (i - 0) = true:=qL.2 fun _ _ _=>rfl
      rw [this]
      grind
    | true =>
      simp only [Bool.true_and,cond_true,Nat.sub_zero]
      grind) (fun k=>by simp only [zas]; rw [ltF]; rfl)
def zfR (k n:Int) (r:qy):Bool:=((k == 1 || k == 3) && (qn n && eqI zv r (zd zv))) || (k == 2 && (n == 0 && zd9 r))
def qb (x:zh):Bool:=bif x.1 then zd8 x.2.1 && zfR x.2.2.1 x.2.2.2.1 x.2.2.2.2.1 else eqI zi x (zd zi)
theorem zlp (x:qS):jU (x,()) = some (zfR x.1 x.2.1 x.2.2.1,()):=by
  rw [zF]
  simp only [jU,zNx,Option.bind_some,zfR,zd9]
  grind
theorem zG0 (x:zh):zi9 (x,()) = some (!qb x,()):=by
  rw [zF]
  have h:zhv (x,()) = some ((x.2.2.1,x.2.2.2.1,x.2.2.2.2.1,()),()):=rfl
  simp only [zi9,zll,Option.bind_some,qb,h,zlp]
  grind
theorem znK {l:List zh} (hl:l.length ≤ Go.maxLen):zb7 (l,()) = some (l.all qb,()):=by
  rw [zF]
  simp only [zb7]
  rw [zlM (p:=fun x=>!qb x) hl fun x _=>zG0 x,Option.bind_some,← ve]
  cases l.any fun x=>!qb x <;> rfl
theorem zcc {l:List zh} (hl:l.length ≤ Go.maxLen):yq (l,()) = some (l.all qb,()):=by
  rw [zF]
  exact jF (B:=zcO) (l:=l) zj (fun i=>(l,i)) hl (fun k i x hi hx _=>by
    simp only [zcO]
    rw [ltT hi]
    simp only [zk hi,zG,hx,zji,zdT,zjj,Option.bind_some,cond_true,qb,zfR]
    grind) (fun k=>by simp only [zcO]; rw [ltF]; rfl)
def ztg (c:Int):Bool:=decide (32 ≤ c ∧ c ≤ 126)
theorem zQi (c:Int):zkl (c,()) = some (ztg c,()):=by simp only [zkl,ztg]; grind
theorem zQV (c:Int):zmu (c,()) = some (ztg c,()):=by simp only [zmu,ztg]; grind
def zC0 (s:ByteArray):Bool:=decide (1 ≤ s.size ∧ s.size ≤ 40) && ((chr s 0 != 32 && chr s (s.size - 1) != 32) && zW (fun i=>ztg (chr s i)) 0 s.size)
theorem zC1 (a b:ByteArray) (h:a.size < b.size):(ByteArray.toList a == ByteArray.toList b) = false:=by
  rw [beq_eq_false_iff_ne]
  intro e
  rw [Go.ByteArray.toList_eq,Go.ByteArray.toList_eq] at e
  have:=congrArg List.length e
  rw [zon,zon] at this
  omega
theorem zQW (s:ByteArray):∀ (n:Nat) (t:ByteArray),t.size ≤ n→∀ fuel,n < fuel→∃ r,zg zS fuel (t,32) = some (r,()) ∧ r.size ≤ t.size ∧ (chr t 0 ≠ 32→r = t) ∧ (1 ≤ t.size→chr t 0 = 32→r.size < t.size):=by
  intro n
  induction n with
  | zero =>
    intro t ht fuel hf
    obtain ⟨f,rfl⟩:∃ f,fuel = f + 1:=⟨fuel - 1,by omega⟩
    refine ⟨t,?_,Nat.le_refl _,fun _=>rfl,fun h=>by omega⟩
    show zS _ (t,32) = _
    simp only [zS]
    rw [decide_eq_false (by omega)]; rfl
  | succ n ih =>
    intro t ht fuel hf
    obtain ⟨f,rfl⟩:∃ f,fuel = f + 1:=⟨fuel - 1,by omega⟩
    by_cases h0:t.size = 0
    · refine ⟨t,?_,Nat.le_refl _,fun _=>rfl,fun h=>by omega⟩
      show zS _ (t,32) = _
      simp only [zS]
      rw [decide_eq_false (by omega)]; rfl
    have hc:((UInt8.toNat (List.getD t.data.toList (Int.toNat 0) 0):Nat):Int) = chr t 0:=rfl
    by_cases h32:chr t 0 = 32
    · have hsz:(ByteArray.extract t (Int.toNat 1) t.size).size = t.size - 1:=by
        rw [ByteArray.size_extract]
        show min t.size t.size - 1 = _
        omega
      obtain ⟨r,h1,h2,-⟩:=ih (ByteArray.extract t (Int.toNat 1) t.size) (by rw [hsz]; omega) f (by omega)
      refine ⟨r,?_,by omega,fun h=>absurd h32 h,fun _ _=>by omega⟩
      show zS (zg zS f) (t,32) = _
      simp only [zS]
      rw [hc,h32,h1]
      grind
    · refine ⟨t,?_,Nat.le_refl _,fun _=>rfl,fun _ h=>absurd h h32⟩
      show zS (zg zS f) (t,32) = _
      simp only [zS]
      rw [hc,decide_eq_true (by omega),decide_eq_true (by omega)]
      grind
theorem zQX:∀ (n:Nat) (t:ByteArray),t.size ≤ n→n ≤ 100→∀ fuel,n < fuel→∃ r,zg zP fuel (t,32) = some (r,()) ∧ r.size ≤ t.size ∧ (chr t (t.size - 1) ≠ 32→r = t) ∧ (1 ≤ t.size→chr t (t.size - 1) = 32→r.size < t.size):=by
  intro n
  induction n with
  | zero =>
    intro t ht _ fuel hf
    obtain ⟨f,rfl⟩:∃ f,fuel = f + 1:=⟨fuel - 1,by omega⟩
    refine ⟨t,?_,Nat.le_refl _,fun _=>rfl,fun h=>by omega⟩
    show zP _ (t,32) = _
    simp only [zP]
    rw [decide_eq_false (by omega)]; rfl
  | succ n ih =>
    intro t ht hn fuel hf
    obtain ⟨f,rfl⟩:∃ f,fuel = f + 1:=⟨fuel - 1,by omega⟩
    by_cases h0:t.size = 0
    · refine ⟨t,?_,Nat.le_refl _,fun _=>rfl,fun h=>by omega⟩
      show zP _ (t,32) = _
      simp only [zP]
      rw [decide_eq_false (by omega)]; rfl
    have hw:wI ((t.size:Int) - 1) = ((t.size - 1:Nat):Int):=zjO (by omega) (by unfold Go.maxLen; omega)
    have hc:((UInt8.toNat (List.getD t.data.toList (Int.toNat ((t.size - 1:Nat):Int)) 0):Nat):Int) = chr t (t.size - 1):=by rw [Int.toNat_natCast]; rfl
    by_cases h32:chr t (t.size - 1) = 32
    · have hsz:(ByteArray.extract t 0 (Int.toNat ((t.size - 1:Nat):Int))).size = t.size - 1:=by
        rw [ByteArray.size_extract,Int.toNat_natCast]
        omega
      obtain ⟨r,h1,h2,-⟩:=ih (ByteArray.extract t 0 (Int.toNat ((t.size - 1:Nat):Int))) (by rw [hsz]; omega) (by omega) f (by omega)
      refine ⟨r,?_,by omega,fun h=>absurd h32 h,fun _ _=>by omega⟩
      show zP (zg zP f) (t,32) = _
      simp only [zP]
      rw [hw,hc,h32,h1,zk (by omega)]
      grind
    · refine ⟨t,?_,Nat.le_refl _,fun _=>rfl,fun _ h=>absurd h h32⟩
      show zP (zg zP f) (t,32) = _
      simp only [zP]
      rw [hw,hc,zk (by omega),decide_eq_true (by omega)]
      grind
theorem zQM (s:ByteArray) (h:1 ≤ s.size ∧ s.size ≤ 40):∃ r,zhA (s,ByteArray.mk #[32],()) = some (r,()) ∧ (ByteArray.toList r == ByteArray.toList s) = (chr s 0 != 32 && chr s (s.size - 1) != 32):=by
  obtain ⟨r,h1,h2,h3,h4⟩:=zQX s.size s (Nat.le_refl _) (by omega) K0 (zHy (by unfold Go.maxLen; omega))
  obtain ⟨r',h5,h6,h7,h8⟩:=zQW s r.size r (Nat.le_refl _) K0 (zHy (by unfold Go.maxLen; omega))
  refine ⟨r',?_,?_⟩
  · simp only [zhA]
    have e0:(ByteArray.toList s == ByteArray.toList (ByteArray.mk #[])) = false:=by
      cases he:zpI s with
      | false=>exact he
      | true =>
        unfold zpI at he
        have:=eq_of_beq he
        rw [Go.ByteArray.toList_eq,Go.ByteArray.toList_eq] at this
        have h2:s.size = 0:=by
          rw [← zon,this]; rfl
        omega
    have e1:(ByteArray.toList (ByteArray.mk #[32]) == ByteArray.toList (ByteArray.mk #[])) = false:=by
      rw [Go.ByteArray.toList_eq,Go.ByteArray.toList_eq]; rfl
    have p1:zb3 (s,32,()) = some (r,()):=h1
    have p2:zdM (r,32,()) = some (r',()):=h5
    have z1:((ByteArray.size (ByteArray.mk #[32]):Nat):Int) = 1:=rfl
    have z2:((UInt8.toNat (List.getD (Array.toList (ByteArray.data (ByteArray.mk #[32]))) (Int.toNat 0) 0):Nat):Int) = 32:=rfl
    rw [e0,e1,z1,z2,p1,Option.bind_some,p2]
    rfl
  · by_cases hl:chr s (s.size - 1) = 32
    · have:=h4 h.1 hl
      rw [zC1 r' s (by omega),hl]; simp
    · obtain rfl:=h3 hl
      by_cases hf:chr r 0 = 32
      · have:=h8 h.1 hf
        rw [zC1 r' r (by omega),hf]; simp
      · rw [h7 hf]
        simp [hf,hl]
theorem zLG (s:ByteArray):zmz (s,()) = some (zC0 s,()):=by
  rw [zF]
  simp only [zmz]
  unfold zC0
  by_cases hb:1 ≤ s.size ∧ s.size ≤ 40
  · obtain ⟨r,h1,h2⟩:=zQM s hb
    rw [zCV (by unfold Go.maxLen; omega) zQi,h1,zCU,← h2]
    simp only [Option.bind_some]
    grind
  · grind
theorem zJI (s:ByteArray):zkB (s,()) = some (zC0 s,()):=by
  rw [zF]
  simp only [zkB,zkA]
  unfold zC0
  by_cases hb:1 ≤ s.size ∧ s.size ≤ 40
  · have hw:wI ((s.size:Int) - 1) = ((s.size - 1:Nat):Int):=zjO hb.1 (by unfold Go.maxLen; omega)
    have hc:((UInt8.toNat (List.getD s.data.toList (Int.toNat ((s.size - 1:Nat):Int)) 0):Nat):Int) = chr s (s.size - 1):=by rw [Int.toNat_natCast]; rfl
    have hc0:((UInt8.toNat (List.getD s.data.toList (Int.toNat 0) 0):Nat):Int) = chr s 0:=rfl
    have hloop:zl2 K0 (s,0) = bif zW (fun i=>ztg (chr s i)) 0 (s.size - 0) then some (true,()) else some (false,()) :=
      z8 (i0:=0) (n:=s.size) (by unfold Go.maxLen; omega) (Nat.zero_le _) (fun i=>(s,i)) (fun k i h1 h2=>by
        simp only [zhH]
        have hc:((UInt8.toNat (List.getD s.data.toList (Int.toNat (i:Int)) 0):Nat):Int) = chr s i:=by rw [Int.toNat_natCast]; rfl
        rw [hc,ltT h2,zk h2,zQV]; rfl) (fun k=>by simp only [zhH]; rw [ltF]; rfl)
    rw [hw,zk (by omega),hc,hc0,hloop]
    grind
  · grind
def zlq (x:qr):Bool:=bif x.1 then (qn x.2.1 && (qn x.2.2.1 && qn x.2.2.2.1)) && zC0 x.2.2.2.2.1 else eqI zY x (zd zY)
theorem zJJ (x:qr):zk1 (x,()) = some (!zlq x,()):=by
  rw [zF]
  simp only [zk1,zlZ,zOM,zLG,Option.bind_some,zlq]
  grind
theorem zJK {l:List qr} (hl:l.length ≤ Go.maxLen):zk4 (l,()) = some (l.all zlq,()):=by
  rw [zF]
  simp only [zk4]
  rw [zlN (p:=fun x=>!zlq x) hl fun x _=>zJJ x,Option.bind_some,← ve]
  cases l.any fun x=>!zlq x <;> rfl
theorem zG1 {l:List qr} (hl:l.length ≤ Go.maxLen):znp (l,()) = some (l.all zlq,()):=by
  rw [zF]
  exact jF (B:=zcT) (l:=l) zaR (fun i=>(l,i)) hl (fun k i x hi hx _=>by
    simp only [zcT]
    rw [ltT hi]
    simp only [zk hi,zG,hx,zJI,zLE,Option.bind_some,cond_true,zlq]
    grind) (fun k=>by simp only [zcT]; rw [ltF]; rfl)
end Go.Proofs.YtejbgeokcpillaaGreatDoor
end
section
namespace Go.Proofs.YtejbgeokcpillaaGreatDoor
open Go.Ev
abbrev M62:Int:=4611686018427387904
abbrev U64:Int:=18446744073709551616
def qH (x:Int):Bool:=decide (0 ≤ x ∧ x ≤ 3)
theorem zbQ (x:Int):ju (x,()) = some (qH x,()):=by simp only [ju,qH]; grind
def zt6 (a b:Int):Int × Int × Unit:=bif decide (a + b > M62) then (0,7,()) else (a + b,0,())
theorem zLH {a b:Int} (ha:0 ≤ a) (hb:0 ≤ b ∧ b < U64):zmr (a,b,()) = some (zt6 a b):=by
  simp only [zmr,extA,extB,zt6,cond_true]
  have h0:0 ≤ (a + b) / 18446744073709551616:=by omega
  have h1:((a + b) / 18446744073709551616 != 0) = decide (18446744073709551616 ≤ a + b):=by
    rw [Bool.eq_iff_iff]; simp only [bne_iff_ne,ne_eq,decide_eq_true_eq]; omega
  have h2:a + b < 18446744073709551616→(a + b) % 18446744073709551616 = a + b:=fun h=>by omega
  unfold M62 at *
  unfold U64 at *
  grind
theorem zfa {a b:Int} (ha:0 ≤ a ∧ a < U64) (hb:0 ≤ b ∧ b < U64):vY (a,b,()) = some (zt6 a b):=by
  simp only [vY,zt6]
  unfold M62
  unfold U64 at *
  by_cases h1:a > 4611686018427387904
  · grind
  · have hw:wU (4611686018427387904 - a) = 4611686018427387904 - a:=zln (by omega)
    rw [hw]
    by_cases h2:b > 4611686018427387904 - a
    · grind
    · have hw:wU (a + b) = a + b:=zln (by omega)
      rw [hw]
      grind
def zth (a b:Int):Int × Int × Unit:=bif decide (a * b > M62) then (0,7,()) else (a * b,0,())
theorem zQY (a b:Nat) (ha:a < 18446744073709551616) (hb:b < 18446744073709551616):zd1 ((a:Int),(b:Int),()) = some ((((a * b) / 18446744073709551616:Nat):Int),(((a * b) % 18446744073709551616:Nat):Int),()):=by
  have e32:((2:Int) ^ min (Int.toNat 32) (Go.IntKind.bits .u64)) = 4294967296:=rfl
  have hand:∀ x:Nat,x < 18446744073709551616→wU (BitVec.toNat (BitVec.ofInt (Go.IntKind.bits .u64) (x:Int) &&& BitVec.ofInt (Go.IntKind.bits .u64) 4294967295):Int) = ((x % 4294967296:Nat):Int):=fun x hx=>by
    have h1:BitVec.ofInt (Go.IntKind.bits .u64) 4294967295 = BitVec.ofNat 64 4294967295:=rfl
    rw [zm6,h1]
    have h2:(BitVec.ofNat 64 x &&& BitVec.ofNat 64 4294967295).toNat = x % 4294967296:=by
      rw [BitVec.toNat_and,BitVec.toNat_ofNat,BitVec.toNat_ofNat,Nat.mod_eq_of_lt (show x < 2 ^ 64 by omega)]
      exact Nat.and_two_pow_sub_one_eq_mod x 32
    have h3:((BitVec.ofNat 64 x &&& BitVec.ofNat 64 4294967295:BitVec (Go.IntKind.bits .u64)).toNat:Int) = ((x % 4294967296:Nat):Int):=congrArg _ h2
    exact (congrArg wU h3).trans (zln (by omega))
  have hdiv:∀ x:Nat,Int.fdiv (x:Int) 4294967296 = ((x / 4294967296:Nat):Int):=fun x=>by
    rw [Int.fdiv_eq_ediv_of_nonneg _ (by omega)]; rfl
  have hw:∀ x:Nat,x < 18446744073709551616→wU (x:Int) = (x:Int):=fun x hx=>zln (by omega)
  have hmod:wU ((a:Int) * (b:Int)) = (((a * b) % 18446744073709551616:Nat):Int):=by
    rw [show ((a:Int) * (b:Int)) = ((a * b:Nat):Int) by simp]
    show ((a * b:Nat):Int) % ((2 ^ 64:Nat):Int) = _
    rfl
  simp only [zd1,e32]
  have ha1:a / 4294967296 ≤ 4294967295:=by omega
  have ha0:a % 4294967296 ≤ 4294967295:=by omega
  have hb1:b / 4294967296 ≤ 4294967295:=by omega
  have hb0:b % 4294967296 ≤ 4294967295:=by omega
  have hp:=Nat.mul_le_mul ha1 hb1
  have hq:=Nat.mul_le_mul ha1 hb0
  have hr:=Nat.mul_le_mul ha0 hb1
  have hs:=Nat.mul_le_mul ha0 hb0
  have hab:a * b = (a / 4294967296 * (b / 4294967296)) * 18446744073709551616 + (a / 4294967296 * (b % 4294967296) + a % 4294967296 * (b / 4294967296)) * 4294967296 + a % 4294967296 * (b % 4294967296):=by
    conv=>lhs; rw [← Nat.div_add_mod a 4294967296,← Nat.div_add_mod b 4294967296]
    grind
  rw [hmod,hab,hand a ha,hand b hb,hdiv a,hdiv b]
  generalize a / 4294967296 = a1 at *
  generalize a % 4294967296 = a0 at *
  generalize b / 4294967296 = b1 at *
  generalize b % 4294967296 = b0 at *
  simp only [← Int.natCast_mul]
  generalize a1 * b1 = p at *
  generalize a1 * b0 = q at *
  generalize a0 * b1 = r at *
  generalize a0 * b0 = s at *
  rw [hw p (by omega),hw q (by omega),hw r (by omega),hw s (by omega),hdiv s]
  simp only [← Int.natCast_add]
  rw [hw (q + s / 4294967296) (by omega),hdiv (q + s / 4294967296),hand _ (by omega)]
  simp only [← Int.natCast_add]
  rw [hw (p + (q + s / 4294967296) / 4294967296) (by omega),hw ((q + s / 4294967296) % 4294967296 + r) (by omega),hdiv]
  simp only [← Int.natCast_add]
  rw [hw _ (by omega)]
  have:p + (q + s / 4294967296) / 4294967296 + ((q + s / 4294967296) % 4294967296 + r) / 4294967296 = (p * 18446744073709551616 + (q + r) * 4294967296 + s) / 18446744073709551616:=by omega
  rw [this]
theorem zJL {a b:Int} (ha:0 ≤ a ∧ a < U64) (hb:0 ≤ b ∧ b < U64):zg4 (a,b,()) = some (zth a b):=by
  obtain ⟨m,rfl⟩:=Int.eq_ofNat_of_zero_le ha.1
  obtain ⟨n,rfl⟩:=Int.eq_ofNat_of_zero_le hb.1
  unfold U64 at *
  simp only [zg4]
  rw [zQY m n (by omega) (by omega),Option.bind_some]
  unfold zth M62
  have e:((m:Int) * (n:Int)) = ((m * n:Nat):Int):=by simp
  rw [e]
  generalize m * n = p
  by_cases h:p < 18446744073709551616
  · have h1:p / 18446744073709551616 = 0:=by omega
    have h2:p % 18446744073709551616 = p:=by omega
    simp only [h1,h2]
    grind
  · have h1:(((p / 18446744073709551616:Nat):Int) != 0) = true:=by simp only [bne_iff_ne,ne_eq]; omega
    simp only [h1]
    grind
theorem zG2 {a b:Int} (ha:0 ≤ a ∧ a < U64) (hb:0 ≤ b ∧ b < U64):ziZ (a,b,()) = some (zth a b):=by
  obtain ⟨m,rfl⟩:=Int.eq_ofNat_of_zero_le ha.1
  obtain ⟨n,rfl⟩:=Int.eq_ofNat_of_zero_le hb.1
  unfold U64 at *
  simp only [ziZ,zth]
  unfold M62
  by_cases h0:m = 0
  · subst h0
    simp only [Int.natCast_zero,Int.zero_mul]
    rfl
  · have e:((m:Int) * (n:Int)) = ((m * n:Nat):Int):=by simp
    have hd:Int.tdiv 4611686018427387904 (m:Int) = ((4611686018427387904 / m:Nat):Int):=rfl
    have hle:4611686018427387904 / m ≤ 4611686018427387904:=Nat.div_le_self _ _
    have h1:4611686018427387904 / m < n ↔ 4611686018427387904 < m * n:=by
      have:=Nat.div_lt_iff_lt_mul (x:=4611686018427387904) (y:=n) (k:=m) (by omega)
      rw [Nat.mul_comm] at this
      exact this
    rw [hd]
    generalize 4611686018427387904 / m = q at *
    have hw:wU ((q:Nat):Int) = (q:Int):=zln (by omega)
    have b1:(((m:Nat):Int) != 0) = true:=by simp only [bne_iff_ne,ne_eq]; omega
    have b2:(((m:Nat):Int) == 0) = false:=by simp only [beq_eq_false_iff_ne,ne_eq]; omega
    rw [hw,b1,b2,e]
    by_cases h2:m * n > 4611686018427387904
    · have:=h1.2 h2
      rw [decide_eq_true (by omega),decide_eq_true (by omega)]
      rfl
    · have h3:¬ q < n:=fun h=>h2 (h1.1 h)
      have hw2:wU ((m * n:Nat):Int) = ((m * n:Nat):Int):=zln (by omega)
      rw [decide_eq_false (by omega),decide_eq_false (by omega),hw2]
      rfl
def zmb:Int→List Int→Int × Int × Unit
  | a,[]=>(a,0,())
  | a,x :: l=>bif decide (a + x > M62) then (0,7,()) else zmb (a + x) l
theorem j5 {σ α β ρ:Type} {B:(σ→Option ρ)→σ→Option ρ} {l:List β} (d:β) (I:Nat→α→Prop) (st:Int→α→σ) (G:List β→α→Option ρ) (hl:l.length ≤ Go.maxLen)
    (hin:∀ k (i:Nat) x rest s,i < l.length→I i s→l.getD i d = x→x ∈ l→l.drop (i + 1) = rest→(∀ s',I (i + 1) s'→k (st (wI (i + 1)) s') = G rest s')→B k (st i s) = G (x :: rest) s) (hout:∀ k s,I l.length s→B k (st l.length s) = G [] s) (s:α) (h0:I 0 s):zg B K0 (st 0 s) = G l s:=by
  have:=vA (B:=B) hl st (fun i s=>G (l.drop i) s) I (fun k i s hi hI h=>?_) (fun k s hI=>?_) s h0
  · simpa using this
  · rw [jC d hi]
    exact hin k i _ _ s hi hI rfl (zV hi) rfl fun s' hI'=>h s' hI'
  · rw [hout _ _ hI,List.drop_of_length_le (Nat.le_refl _)]
theorem zog {l:List Int} (hl:l.length ≤ Go.maxLen) (h:∀ x ∈ l,0 ≤ x ∧ x < U64):zhB (l,()) = some (zmb 0 l) :=
  j5 (B:=zg6) (l:=l) (α:=Int) (0:Int) (fun _ s=>0 ≤ s) (fun i s=>(s,l,(l.length:Int),i)) (fun rest s=>some (zmb s rest)) hl (fun k i x rest s hi hI hx hm hr hk=>by
    simp only [zg6]
    have hxx:=h x hm
    rw [ltT hi,zk hi,zG,hx,zLH hI hxx]
    simp only [cond_true,Option.bind_some,zt6,zmb]
    by_cases hb:s + x > M62
    · rw [decide_eq_true hb]; rfl
    · rw [decide_eq_false hb]
      exact hk (s + x) (by omega)) (fun k s _=>by simp only [zg6]; rw [ltF]; rfl) 0 (Int.le_refl 0)
def zEQ (a b:zC):Bool:=decide (a.1 ≤ b.1) && (List.range' 0 64).all fun i=>!znI a.2.1 i || znI b.2.1 i
def zpJ (a:zC):Prop:=0 ≤ a.2.1 ∧ a.2.1 < U64
theorem zzh {a b:zC} (ha:zpJ a) (hb:zpJ b):ziw (a,b,()) = some (zEQ a b,()):=by
  rw [zF]
  simp only [ziw]
  unfold zEQ
  unfold zpJ U64 at *
  obtain ⟨m,hm⟩:=Int.eq_ofNat_of_zero_le ha.1
  obtain ⟨n,hn⟩:=Int.eq_ofNat_of_zero_le hb.1
  have h1:=zzg m n (by omega) (by omega)
  unfold zhV at h1
  have h2:(wU (BitVec.toNat (BitVec.ofInt (Go.IntKind.bits .u64) (a.2.1:Int) &&& ~~~BitVec.ofInt (Go.IntKind.bits .u64) (b.2.1:Int)):Int) == 0) = (List.range' 0 64).all fun i=>!znI a.2.1 i || znI b.2.1 i:=by
    rw [hm,hn]
    have h3:∀ z:Int,(z != 0) = !(z == 0):=fun z=>rfl
    rw [h3] at h1
    have h4:=congrArg (!·) h1
    simp only [Bool.not_not] at h4
    exact h4
  rw [h2]
  grind
theorem zLI {a b:zC} (ha:zpJ a) (hb:zpJ b):zrM (a,b,()) = some (zEQ a b,()):=by
  rw [zF]
  unfold zEQ
  unfold zpJ U64 at *
  have hr:List.range 64 = List.range' 0 64:=List.range_eq_range'
  rw [← hr]
  have hloop:=zFw (B:=zf3) (n:=64) (by unfold Go.maxLen; omega) (p:=fun i=>!znI a.2.1 i || znI b.2.1 i) (fin:=bif decide (a.1 ≤ b.1) then some (true,()) else some (false,())) (bad:=some (false,())) (fun i=>(i,a,b)) (fun k i hi=>by
    simp only [zf3]
    rw [decide_eq_true (by omega),zrP _ _ ha.1 (by omega),zrP _ _ hb.1 (by omega),Int.toNat_natCast]
    simp only [cond_true,Option.bind_some]
    grind) (fun k=>by simp only [zf3]; rfl)
  refine hloop.trans ?_
  grind
theorem zC2 (x:Int):zhw (x,()) = some (qn x,()):=by simp only [zhw,qn]; grind
theorem zLJ (x:Int):jx (x,()) = some (qn x,()):=by simp only [jx,qn]; grind
def ziI (x:zj8):Bool:=qH x.1 && (decide (x.2.1 ≤ M62) && decide (-1 ≤ x.2.2.1 ∧ x.2.2.1 ≤ 127))
theorem zLK (x:zj8):ziC (x,()) = some (ziI x,()):=by
  rw [zF]
  simp only [ziC,zbQ,zC2,Option.bind_some,ziI,qn]
  unfold M62
  grind
theorem zLL (x:zj8):jy (x,()) = some (ziI x,()):=by
  rw [zF]
  simp only [jy,ziI,qH]
  unfold M62
  grind
def zrc (x:zj8):Bool:=(x.2.1:Int) == 0 && (x.2.2.1:Int) == -1
theorem zJM (x:zj8):zg1 (x,()) = some (zrc x,()):=by
  rw [zF]
  simp only [zg1,zrc]
  have h:eqI zd0 x (x.1,(zd zd0).2.1,-1,(zd zd0).2.2.2) = ((x.2.1:Int) == 0 && (x.2.2.1:Int) == -1):=by
    show cond ((x.1:Int) == x.1) (cond ((x.2.1:Int) == 0) (cond ((x.2.2.1:Int) == -1) true false) false) false = _
    rw [beq_self_eq_true]
    cases ((x.2.1:Int) == 0) <;> cases ((x.2.2.1:Int) == -1) <;> rfl
  rw [h]
def zpK (x:zx):Bool:=(qn x.2.1 && (qn x.2.2.1 && (x.2.1:Int) != x.2.2.1)) && ((ziI x.2.2.2.1 && ziI x.2.2.2.2.1) && !(zrc x.2.2.2.1 && zrc x.2.2.2.2.1))
def zhX (x:zx):Prop:=(0 ≤ x.2.2.2.1.2.1 ∧ x.2.2.2.1.2.1 < U64) ∧ (0 ≤ x.2.2.2.2.1.2.1 ∧ x.2.2.2.2.1.2.1 < U64)
theorem zLM (x:zx):zmw (x,()) = some (zpK x,()):=by
  rw [zF]
  simp only [zmw,zC2,zLK,zJM,Option.bind_some,zpK]
  grind
theorem zJN {x:zx} (h:zhX x):zkC (x,()) = some (zpK x,()):=by
  rw [zF]
  simp only [zkC,zLJ,zLL,Option.bind_some,zpK]
  have h1:ziI x.2.2.2.1 = true→zrc x.2.2.2.1 = !(decide (x.2.2.2.1.2.1 > 0) || decide (x.2.2.2.1.2.2.1 ≥ 0)):=fun hp=>by
    unfold ziI at hp; unfold zrc; unfold zhX at h; grind
  have h2:ziI x.2.2.2.2.1 = true→zrc x.2.2.2.2.1 = !(decide (x.2.2.2.2.1.2.1 > 0) || decide (x.2.2.2.2.1.2.2.1 ≥ 0)):=fun hp=>by
    unfold ziI at hp; unfold zrc; unfold zhX at h; grind
  generalize decide (x.2.2.2.1.2.1 > 0) = c1 at *
  generalize decide (x.2.2.2.1.2.2.1 ≥ 0) = c2 at *
  generalize decide (x.2.2.2.2.1.2.1 > 0) = c3 at *
  generalize decide (x.2.2.2.2.1.2.2.1 ≥ 0) = c4 at *
  cases c1 <;> cases c2 <;> cases c3 <;> cases c4 <;> grind
def zhY (x:zx):Bool:=bif x.1 then zpK x else eqI zz x (zd zz)
theorem zC3 (x:zx):zgF (x,()) = some (!zhY x,()):=by
  rw [zF]
  simp only [zgF,zLM,Option.bind_some,zhY]
  grind
theorem zG3 {l:List zx} (hl:l.length ≤ Go.maxLen):zja (l,()) = some (l.all zhY,()):=by
  rw [zF]
  simp only [zja]
  rw [zlj (p:=fun x=>!zhY x) hl fun x _=>zC3 x,Option.bind_some,← ve]
  cases l.any fun x=>!zhY x <;> rfl
theorem zG4 {l:List zx} (hl:l.length ≤ Go.maxLen) (h:∀ x ∈ l,zhX x):znr (l,()) = some (l.all zhY,()):=by
  rw [zF]
  exact jF (B:=zcV) (l:=l) zR (fun i=>(l,i)) hl (fun k i x hi hx hm=>by
    simp only [zcV]
    rw [ltT hi]
    simp only [zk hi,zG,hx,zJN (h x hm),Option.bind_some,cond_true,zhY]
    grind) (fun k=>by simp only [zcV]; rw [ltF]; rfl)
end Go.Proofs.YtejbgeokcpillaaGreatDoor
end
section
namespace Go.Proofs.YtejbgeokcpillaaGreatDoor
open Go.Ev
theorem zmc {α:Type} {p:α→Bool} {x:α} {l:List α}:(x :: l).filter p = bif p x then x :: l.filter p else l.filter p:=by
  rw [List.filter_cons]; cases p x <;> rfl
def z5 {α:Type} (p:α→Bool):Nat→List α→List Int
  | _,[]=>[]
  | i,x :: l=>bif p x then (i:Int) :: z5 p (i + 1) l else z5 p (i + 1) l
theorem zfS {α:Type} {p:α→Bool}:∀ (l:List α) (i:Nat),(z5 p i l).length ≤ l.length
  | [],_=>Nat.le_refl _
  | x :: l,i=>by
    have:=zfS (p:=p) l (i + 1)
    simp only [z5,List.length_cons]
    cases p x <;> simp <;> omega
theorem zoh {α:Type} {p:α→Bool}:∀ (l:List α) (i:Nat),∀ z ∈ z5 p i l,∃ j:Nat,z = (j:Int) ∧ i ≤ j ∧ j < i + l.length
  | [],i,z,h=>by cases h
  | x :: l,i,z,h=>by
    simp only [z5] at h
    have ih:=zoh (p:=p) l (i + 1)
    cases hp:p x with
    | true =>
      rw [hp,cond_true] at h
      rcases List.mem_cons.1 h with rfl | h
      · exact ⟨i,rfl,Nat.le_refl _,by simp⟩
      · obtain ⟨j,h1,h2,h3⟩:=ih z h
        exact ⟨j,h1,by omega,by simp; omega⟩
    | false =>
      rw [hp,cond_false] at h
      obtain ⟨j,h1,h2,h3⟩:=ih z h
      exact ⟨j,h1,by omega,by simp; omega⟩
theorem znL {α β:Type} {p q:α→Bool} {g:α→β} (d:α) (L:List α):∀ (l:List α) (i:Nat),(∀ j,j < l.length→L.getD (i + j) d = l.getD j d)→((z5 p i l).filter fun z=>q (L.getD z.toNat d)).map (fun z=>g (L.getD z.toNat d)) = (l.filter fun x=>p x && q x).map g
  | [],_,_=>rfl
  | x :: l,i,h=>by
    have ih:=znL (p:=p) (q:=q) (g:=g) d L l (i + 1) fun j hj=>by
      have:=h (j + 1) (by simp; omega)
      rw [show i + 1 + j = i + (j + 1) by omega,this]; rfl
    have h0:L.getD i d = x:=h 0 (by simp)
    simp only [z5,zmc]
    cases hp:p x with
    | false=>simp only [cond_false,Bool.false_and]; exact ih
    | true =>
      simp only [cond_true,Bool.true_and,zmc,Int.toNat_natCast,h0]
      cases hq:q x with
      | false=>exact ih
      | true=>simp only [cond_true,List.map_cons,Int.toNat_natCast,h0,ih]
theorem zxI {l:List zx} {g:zx × Unit→Option (Bool × Unit)}:zfz (some (l,some g,()),()) = some (true,()):=rfl
theorem zzi {l:List zx} {g:zx × Unit→Option (Bool × Unit)} {p:zx→Bool} (hg:∀ x,g (x,()) = some (p x,())) {i:Nat} (hi:i < l.length):yb (some (l,some g,()),(i:Int),()) = some (p (l.getD i zR),()):=by
  rw [zF]
  simp only [yb,zxI,Option.bind_some,cond_true]
  rw [decide_eq_true (by omega),ltT hi,zk hi,zG,hg]
  simp only [cond_true,Option.bind_some]
theorem zvo {l:List zx} {g:zx × Unit→Option (Bool × Unit)} {p:zx→Bool} (hl:l.length ≤ lim) (hg:∀ x,g (x,()) = some (p x,())):zd7 (some (l,some g,()),()) = some (z5 p 0 l,()):=by
  have hl':l.length ≤ Go.maxLen:=by unfold lim at hl; unfold Go.maxLen; omega
  have:=vA (B:=yL) (α:=List Int) hl' (fun i o=>(some (l,some g,()),(l.length:Int),i,o)) (fun i o=>some (o ++ z5 p i (l.drop i),())) (fun i o=>o.length ≤ i) (fun k i o hi hI hk=>by
    simp only [yL]
    rw [ltT hi,zzi hg hi,zgp,jC zR hi]
    simp only [cond_true,Option.bind_some,z5]
    rw [decide_eq_true (by simp; omega)]
    cases hp:p (l.getD i zR) with
    | false =>
      simp only [cond_false]
      exact hk o (by omega)
    | true =>
      simp only [cond_true]
      rw [hk _ (by simp; omega)]
      simp) (fun k o _=>by
    simp only [yL]
    rw [ltF,List.drop_of_length_le (Nat.le_refl _)]
    simp [z5]) [] (Nat.le_refl _)
  refine Eq.trans ?_ (this.trans ?_)
  · rfl
  · simp
theorem zJO {l:List zu} {g:zu × Unit→Option (Bool × Unit)}:zfA (some (l,some g,()),()) = some (true,()):=rfl
theorem zLN {l:List zu} {g:zu × Unit→Option (Bool × Unit)} {p:zu→Bool} (hg:∀ x,g (x,()) = some (p x,())) {i:Nat} (hi:i < l.length):zgD (some (l,some g,()),(i:Int),()) = some (p (l.getD i zK),()):=by
  rw [zF]
  simp only [zgD,zJO,Option.bind_some,cond_true]
  rw [decide_eq_true (by omega),ltT hi,zk hi,zG,hg]
  simp only [cond_true,Option.bind_some]
theorem zG5 {l:List zu} {g:zu × Unit→Option (Bool × Unit)} {p:zu→Bool} (hl:l.length ≤ lim) (hg:∀ x,g (x,()) = some (p x,())):zij (some (l,some g,()),()) = some (z5 p 0 l,()):=by
  have hl':l.length ≤ Go.maxLen:=by unfold lim at hl; unfold Go.maxLen; omega
  have:=vA (B:=yN) (α:=List Int) hl' (fun i o=>(some (l,some g,()),(l.length:Int),i,o)) (fun i o=>some (o ++ z5 p i (l.drop i),())) (fun i o=>o.length ≤ i) (fun k i o hi hI hk=>by
    simp only [yN]
    rw [ltT hi,zLN hg hi,zgp,jC zK hi]
    simp only [cond_true,Option.bind_some,z5]
    rw [decide_eq_true (by simp; omega)]
    cases hp:p (l.getD i zK) with
    | false =>
      simp only [cond_false]
      exact hk o (by omega)
    | true =>
      simp only [cond_true]
      rw [hk _ (by simp; omega)]
      simp) (fun k o _=>by
    simp only [yN]
    rw [ltF,List.drop_of_length_le (Nat.le_refl _)]
    simp [z5]) [] (Nat.le_refl _)
  refine Eq.trans ?_ (this.trans ?_)
  · rfl
  · simp
def zjX (l:List zx) (c:Int):Int × Int × Unit:=bif qH c then zmb 0 ((l.filter fun x=>x.1 && (x.2.2.2.1.1:Int) == c).map fun x=>x.2.2.2.1.2.1) else (0,1,())
theorem zLO (l:List zx) (hl:l.length ≤ lim):zmx (l,()) = some (some (l,some ziT,()),()):=by
  simp only [zmx,yS,znG hl,Option.bind_some]
  rfl
theorem zG6 (x:zx):ziT (x,()) = some (x.1,()):=by
  rw [zF]; rfl
theorem zJP {l:List zx} (hl:l.length ≤ lim) (h:∀ x ∈ l,zhX x) (c:Int):zkY (l,c,()) = some (zjX l c):=by
  have hl':l.length ≤ Go.maxLen:=by unfold lim at hl; unfold Go.maxLen; omega
  simp only [zkY,zkX,zbQ,Option.bind_some]
  unfold zjX
  cases hc:qH c with
  | false=>rfl
  | true =>
    simp only [cond_true]
    rw [zLO l hl,Option.bind_some,zvo hl zG6,Option.bind_some]
    have hsl:=zfS (p:=fun x:zx=>x.1) l 0
    have hsm:=zoh (p:=fun x:zx=>x.1) l 0
    have hloop:=j5 (B:=ze0) (l:=z5 (fun x:zx=>x.1) 0 l) (α:=List Int) (0:Int) (fun i o=>o.length ≤ i ∧ ∀ x ∈ o,0 ≤ x ∧ x < U64) (fun i o=>(l,c,z5 (fun x:zx=>x.1) 0 l,((z5 (fun x:zx=>x.1) 0 l).length:Int),i,o))
      (fun rest o=>some (zmb 0 (o ++ (rest.filter fun z=>((l.getD z.toNat zR).2.2.2.1.1:Int) == c).map fun z=>(l.getD z.toNat zR).2.2.2.1.2.1))) (by omega) (fun k i x rest o hi hI hx hm hr hk=>by
        simp only [ze0]
        obtain ⟨j,rfl,-,hj⟩:=hsm x hm
        rw [ltT hi,zk hi,zG,hx,zk (by omega),zk (by omega),Int.toNat_natCast,zgp]
        have hxx:=(h (l.getD j zR) (zV (by omega))).1
        simp only [cond_true,zmc,Int.toNat_natCast]
        rw [decide_eq_true (by simp; omega)]
        simp only [cond_true]
        cases hq:((l.getD j zR).2.2.2.1.1:Int) == c with
        | false =>
          exact hk o ⟨by omega,hI.2⟩
        | true =>
          simp only [cond_true,List.map_cons,Int.toNat_natCast]
          refine (hk _ ⟨by simp; omega,fun x hx=>?_⟩).trans ?_
          · rcases List.mem_append.1 hx with hx | hx
            · exact hI.2 x hx
            · rcases List.mem_singleton.1 hx with rfl
              exact hxx
          · rw [List.append_assoc]; rfl) (fun k o hI=>by
        simp only [ze0]
        rw [ltF]
        simp only [cond_false]
        rw [zog (by omega) hI.2,List.filter_nil,List.map_nil,List.append_nil]
        rfl) [] ⟨Nat.le_refl _,fun x hx=>by cases hx⟩
    refine hloop.trans ?_
    rw [List.nil_append,znL (q:=fun x:zx=>(x.2.2.2.1.1:Int) == c) (g:=fun x:zx=>x.2.2.2.1.2.1) zR l l 0 fun j _=>by rw [Nat.zero_add]]
theorem zJQ {l:List zx} (hl:l.length ≤ Go.maxLen) (h:∀ x ∈ l,zhX x) (c:Int):zkH (l,c,()) = some (zjX l c):=by
  simp only [zkH,zkG]
  unfold zjX
  cases hc:qH c with
  | false=>unfold qH at hc; grind
  | true =>
    have hloop:=j5 (B:=zeI) (l:=l) (α:=Int) zR (fun _ s=>0 ≤ s ∧ s ≤ M62) (fun i s=>(l,c,s,i)) (fun rest s=>some (zmb s ((rest.filter fun x=>x.1 && (x.2.2.2.1.1:Int) == c).map fun x=>x.2.2.2.1.2.1))) hl (fun k i x rest s hi hI hx hm hr hk=>by
      simp only [zeI]
      have hxx:=(h x hm).1
      rw [ltT hi]
      simp only [zk hi,zG,hx,cond_true,zmc]
      unfold M62 at *
      unfold U64 at *
      rw [zfa (by unfold U64; omega) (by unfold U64; omega)]
      cases hl:x.1 with
      | false=>exact hk s hI
      | true =>
        cases hq:(x.2.2.2.1.1:Int) == c with
        | false=>exact hk s hI
        | true =>
          simp only [cond_true,Option.bind_some,zt6,Bool.and_self,List.map_cons,zmb]
          unfold M62
          by_cases hb:s + x.2.2.2.1.2.1 > 4611686018427387904
          · rw [decide_eq_true hb]; rfl
          · rw [decide_eq_false hb]
            exact hk (s + x.2.2.2.1.2.1) (by omega)) (fun k s _=>by simp only [zeI]; rw [ltF]; rfl) 0 (by unfold M62; omega)
    refine Eq.trans ?_ hloop
    unfold qH at hc
    grind
end Go.Proofs.YtejbgeokcpillaaGreatDoor
end
section
namespace Go.Proofs.YtejbgeokcpillaaGreatDoor
open Go.Ev
def zAD (x:Int):Bool:=decide (0 ≤ x ∧ x ≤ 2)
theorem zER (x:Int):za7 (x,()) = some (!zAD x,()):=by simp only [za7,zAD]; grind
def zti (r:ze) (i:Nat) (row:List Int):Bool:=decide (row.length = r.2.2.1.length) && (row.all zAD && row.getD (Int.toNat (r.2.2.2.1.getD i qB).2.1) (0:Int) == 2)
def ziJ (r:ze) (l:List (List Int)):Bool:=decide (l.length = r.2.2.2.1.length) && zW (fun i=>zti r i (l.getD i [])) 0 (l.length - 0)
structure zhZ (r:ze):Prop where
  labels:1 ≤ r.1.length ∧ r.1.length ≤ 8
  lines:1 ≤ r.2.1.length ∧ r.2.1.length ≤ 8
  accounts:1 ≤ r.2.2.1.length ∧ r.2.2.1.length ≤ 8
  guilds:r.2.2.2.1.length ≤ 8
  quotas:r.2.2.2.2.1.length = r.1.length
  heads:∀ i,i < r.2.2.2.1.length→0 ≤ (r.2.2.2.1.getD i qB).2.1 ∧ (r.2.2.2.1.getD i qB).2.1 < (r.2.2.1.length:Int)
theorem vM {r:ze} (h:qZ r = true):zhZ r:=by
  simp only [qZ,Bool.and_eq_true] at h
  obtain ⟨h1,h2,h3,h4,h5,-⟩:=h
  simp only [zcb,zm5,zff,zoo,zhU,zT,Bool.and_eq_true,decide_eq_true_eq,zCY,qL] at h1 h2 h3 h4 h5
  refine ⟨by omega,by omega,by omega,h4.1,by omega,fun i hi=>?_⟩
  have:=h4.2.1 i (by omega) (by omega)
  simp only [zAC,zT,Bool.and_eq_true,decide_eq_true_eq] at this
  omega
theorem ixR {n:Nat} {x:Int} {ρ:Type} {y:Option ρ} (h:0 ≤ x ∧ x < (n:Int)):inR x (n:Int) y = y:=zOE h.1 h.2
theorem zJR {r:ze} (hr:z9 r) (l:List (List Int)):zld (r,l,()) = some (qZ r && ziJ r l,()):=by
  rw [zF]
  simp only [zld,zlc,znJ r hr,Option.bind_some]
  cases hb:qZ r with
  | false=>rfl
  | true =>
    have ok:=vM hb
    rw [ziQ]
    unfold ziJ
    by_cases hn:l.length = r.2.2.2.1.length
    · have hg:=ok.guilds
      have hloop:zl7 K0 (some za7,l,(l.length:Int),0,r) = bif zW (fun i=>zti r i (l.getD i [])) 0 (l.length - 0) then some (true,()) else some (false,()) :=
        z8 (i0:=0) (n:=l.length) (by unfold Go.maxLen; omega) (Nat.zero_le _) (fun i=>(some za7,l,(l.length:Int),i,r)) (fun k i h1 h2=>by
          simp only [zhQ]
          rw [ltT h2,zk h2,Int.toNat_natCast,ziQ]
          unfold zti
          by_cases hm:(l.getD i []).length = r.2.2.1.length
          · have ha:=ok.accounts
            have hh:=ok.heads i (by omega)
            rw [zdC (p:=fun x=>!zAD x) (l:=l.getD i []) (by unfold Go.maxLen; omega) fun x _=>zER x,zk (by omega),zG,ixR (by rw [hm]; exact hh)]
            have:=ve (l:=l.getD i []) (p:=zAD)
            simp only [Option.bind_some,cond_true]
            grind
          · grind) (fun k=>by simp only [zhQ]; rw [ltF]; rfl)
      rw [hloop]
      grind
    · grind
theorem zG7 {r:ze} (hr:z9 r) (l:List (List Int)):zi8 (r,l,()) = some (qZ r && ziJ r l,()):=by
  rw [zF]
  simp only [zi8,zi7,zvn r hr,Option.bind_some]
  cases hb:qZ r with
  | false=>rfl
  | true =>
    have ok:=vM hb
    rw [ziQ]
    unfold ziJ
    by_cases hn:l.length = r.2.2.2.1.length
    · have hg:=ok.guilds
      have ha:=ok.accounts
      have inner:∀ k0 (i:Nat),i < l.length→(l.getD i []).length = r.2.2.1.length→zgH K0 k0 (l,(i:Int),0,r) = bif (l.getD i []).all zAD then k0 (l,wI ((i:Int) + 1),r) else some (false,()):=fun k0 i hi hm =>
        jF (l:=l.getD i []) (0:Int) (fun j=>(l,(i:Int),j,r)) (by unfold Go.maxLen; omega) (fun k j x h1 h2 _=>by
          simp only [zgG]
          have h2':List.getD (l.getD i []) j (0:Int) = x:=h2
          simp only [zk hi,Int.toNat_natCast,ltT h1,zk h1,h2',cond_true,zAD]
          grind) (fun k=>by
          simp only [zgG]
          simp only [zk hi,Int.toNat_natCast]
          rw [ltF]; rfl)
      have hloop:zk0 K0 (l,0,r) = bif zW (fun i=>zti r i (l.getD i [])) 0 (l.length - 0) then some (true,()) else some (false,()) :=
        z8 (i0:=0) (n:=l.length) (by unfold Go.maxLen; omega) (Nat.zero_le _) (fun i=>(l,i,r)) (fun k i h1 h2=>by
          simp only [zc2]
          rw [ltT h2]
          simp only [zk h2,Int.toNat_natCast]
          rw [ziQ]
          unfold zti
          by_cases hm:(l.getD i []).length = r.2.2.1.length
          · have hh:=ok.heads i (by omega)
            have hi:=inner k i h2 hm
            rw [zk (by omega),zG,ixR (by rw [hm]; exact hh),hi]
            simp only [cond_true]
            grind
          · grind) (fun k=>by simp only [zc2]; rw [ltF]; rfl)
      rw [hloop]
      grind
    · grind
theorem zOO (x:Int):zmT (x,()) = some (qn x,()):=by simp only [zmT,qn]; grind
theorem zLP (x:Int):zix (x,()) = some (qn x,()):=by simp only [zix,qn]; grind
theorem zNy (x:Int):zfv (x,()) = some (qn x,()):=by simp only [zfv,qn]; grind
theorem zLQ (x:Int):zdQ (x,()) = some (qn x,()):=by simp only [zdQ,qn]; grind
def zlr (k a b:Int):Int × Int × Unit:=bif (k != 1 && k != 2) || (a == 0 || b == 0) then (0,1,()) else bif decide (a * b > M62) then (0,7,()) else bif k == 2 then (a,0,()) else (a * b,0,())
theorem zzj {k a b:Int} (ha:0 ≤ a ∧ a < U64) (hb:0 ≤ b ∧ b < U64):ziF (k,a,b,()) = some (zlr k a b):=by
  simp only [ziF,zJL ha hb,Option.bind_some,zth,zlr]
  generalize a * b = p
  cases h:decide (p > M62) <;> simp only [cond_true,cond_false] <;> grind
theorem zxJ {k a b:Int} (ha:0 ≤ a ∧ a < U64) (hb:0 ≤ b ∧ b < U64):zg8 (k,a,b,()) = some (zlr k a b):=by
  simp only [zg8,zG2 ha hb,Option.bind_some,zth,zlr]
  generalize a * b = p
  cases h:decide (p > M62) <;> simp only [cond_true,cond_false] <;> grind
def zgP (x:Int):Prop:=0 ≤ x ∧ x < U64
structure zh0 (x:zu):Prop where
  amount:zgP x.2.2.2.2.2.2.1
  price:zgP x.2.2.2.2.2.2.2.1
  held:zgP x.2.2.2.2.2.2.2.2.1
def zjE (x:zu):Bool:=((zlr x.2.2.2.1 x.2.2.2.2.2.2.2.1 x.2.2.2.2.2.2.1).2.1 == 0 && (zlr x.2.2.2.1 x.2.2.2.2.2.2.2.1 x.2.2.2.2.2.2.1).1 == x.2.2.2.2.2.2.2.2.1) && ((qn x.2.1 && qn x.2.2.1) && ((qH x.2.2.2.2.1 && qH x.2.2.2.2.2.1) && ((x.2.2.2.2.1:Int) != x.2.2.2.2.2.1 && decide (0 ≤ x.2.2.2.2.2.2.2.2.2.1))))
theorem zNz {x:zu} (h:zh0 x):zod (x,()) = some (zjE x,()):=by
  rw [zF]
  simp only [zod,zzj h.price h.amount,zOO,zbQ,Option.bind_some,zjE]
  generalize zlr x.2.2.2.1 x.2.2.2.2.2.2.2.1 x.2.2.2.2.2.2.1 = n
  grind
theorem zLR {x:zu} (h:zh0 x):ziG (x,()) = some (zjE x,()):=by
  rw [zF]
  simp only [ziG,zxJ h.price h.amount,zLP,Option.bind_some,zjE]
  generalize zlr x.2.2.2.1 x.2.2.2.2.2.2.2.1 x.2.2.2.2.2.2.1 = n
  unfold qH
  grind
def zmd (x:zu):Bool:=bif x.1 then zjE x else eqI zr x (zd zr)
def zrQ (l:List zu):List Int:=(l.filter fun x=>x.1).map fun x=>x.2.2.2.2.2.2.2.2.2.1
theorem zNA (o:List (Int × Int)) (x z v:Int):jK tI (jP tI o x v) z = (jK tI o z || z == x):=by
  induction o with
  | nil=>simp only [jP,jK]; show (bif z == x then true else false) = (false || z == x); cases z == x <;> rfl
  | cons e o ih =>
    obtain ⟨e1,e2⟩:=e
    have hx:∀ y:Int,eqI tI y e1 = (y == e1):=fun y=>rfl
    simp only [jP,jK,hx]
    cases h:x == e1 with
    | true =>
      have:=eq_of_beq h
      subst this
      simp only [cond_true,jK,hx]
      cases z == x <;> simp
    | false =>
      simp only [cond_false,jK,ih,hx]
      cases z == e1 <;> rfl
theorem zFB (o:List (Int × Int)) (x v:Int):(jP tI o x v).length = o.length + (bif jK tI o x then 0 else 1):=by
  induction o with
  | nil=>rfl
  | cons e o ih =>
    simp only [jP,jK]
    cases h:eqI tI x e.1 with
    | true=>simp only [cond_true,List.length_cons,Nat.add_zero]
    | false =>
      simp only [cond_false,List.length_cons,ih]
      generalize (bif jK tI o x then 0 else 1) = n
      omega
def zrR:List Int→List (Int × Int)→Nat
  | [],o=>o.length
  | x :: l,o=>zrR l (jP tI o x (wI (zaP tI (0:Int) o x + 1)))
theorem zMn:∀ (l:List Int) (o:List (Int × Int)),zrR l o ≤ o.length + l.length
  | [],o=>Nat.le_refl _
  | x :: l,o=>by
    have h:=zMn l (jP tI o x (wI (zaP tI (0:Int) o x + 1)))
    rw [zFB] at h
    simp only [zrR,List.length_cons]
    cases hm:jK tI o x <;> (rw [hm] at h; simp only [cond_true,cond_false] at h; omega)
theorem zMo:∀ (l:List Int) (o:List (Int × Int)),zrR l o = o.length + l.length ↔ (l.Pairwise (· ≠ ·) ∧ ∀ x ∈ l,jK tI o x = false)
  | [],o=>by simp [zrR]
  | x :: l,o=>by
    have h:=zMn l (jP tI o x (wI (zaP tI (0:Int) o x + 1)))
    have ih:=zMo l (jP tI o x (wI (zaP tI (0:Int) o x + 1)))
    rw [zFB] at h ih
    simp only [zrR,List.length_cons,List.pairwise_cons]
    cases hm:jK tI o x with
    | true =>
      rw [hm] at h
      simp only [cond_true] at h
      constructor
      · intro h1; omega
      · rintro ⟨-,h1⟩
        have:=h1 x (by simp)
        rw [hm] at this; cases this
    | false =>
      rw [hm] at ih
      simp only [cond_false] at ih
      rw [show o.length + (l.length + 1) = o.length + 1 + l.length by omega,ih]
      simp only [zNA]
      constructor
      · rintro ⟨h1,h2⟩
        refine ⟨⟨fun z hz=>?_,h1⟩,fun z hz=>?_⟩
        · have:=h2 z hz
          simp only [Bool.or_eq_false_iff,beq_eq_false_iff_ne] at this
          exact fun e=>this.2 e.symm
        · rcases List.mem_cons.1 hz with rfl | hz
          · exact hm
          · have:=h2 z hz
            simp only [Bool.or_eq_false_iff] at this
            exact this.1
      · rintro ⟨⟨h1,h2⟩,h3⟩
        refine ⟨h2,fun z hz=>?_⟩
        simp only [Bool.or_eq_false_iff,beq_eq_false_iff_ne]
        exact ⟨h3 z (by simp [hz]),fun e=>h1 z hz e.symm⟩
def zgk (l:List zu):Bool:=l.all zmd && zrR (zrQ l) [] == (zrQ l).length
theorem zJS {l:List zu} (hl:l.length ≤ 1000000) (h:∀ x ∈ l,zh0 x):zpt (l,()) = some (zgk l,()):=by
  have hloop:=j5 (B:=ze2) (l:=l) (α:=Nat × List (Int × Int)) zK (fun i s=>s.1 ≤ i) (fun i s=>((s.1:Int),l,(l.length:Int),i,s.2))
    (fun rest s=>some (rest.all zmd && zrR (zrQ rest) s.2 == s.1 + (zrQ rest).length,())) (by unfold Go.maxLen; omega) (fun k i x rest s hi hI hx hm hr hk=>by
      obtain ⟨n,o⟩:=s
      simp only [ze2]
      have hn:n ≤ i:=hI
      have hw:wI ((n:Int) + 1) = ((n + 1:Nat):Int):=by
        unfold wI
        rw [IntWalk.i64_in _ (by omega)]; rfl
      rw [ltT hi,zk hi]
      simp only [zG,hx,cond_true,zNz (h x hm),Option.bind_some,hw,zrQ,zmc,List.all_cons,zmd]
      cases hlive:x.1 with
      | false =>
        simp only [cond_false]
        have:=hk (n,o) (by show n ≤ i + 1; omega)
        cases eqI zr x (zd zr) with
        | false=>rfl
        | true=>exact this
      | true =>
        simp only [cond_true,List.map_cons,zrR,List.length_cons]
        have:=hk (n + 1,jP tI o x.2.2.2.2.2.2.2.2.2.1 (wI (zaP tI (0:Int) o x.2.2.2.2.2.2.2.2.2.1 + 1))) (by show n + 1 ≤ i + 1; omega)
        cases zjE x with
        | false=>rfl
        | true =>
          refine this.trans ?_
          simp only [zrQ,Bool.true_and]
          rw [show n + 1 + (List.map (fun x:zu=>x.2.2.2.2.2.2.2.2.2.1) (List.filter (fun x=>x.1) rest)).length = n + ((List.map (fun x:zu=>x.2.2.2.2.2.2.2.2.2.1) (List.filter (fun x=>x.1) rest)).length + 1) by omega]) (fun k s _=>by
      obtain ⟨n,o⟩:=s
      simp only [ze2]
      rw [ltF]
      simp only [cond_false,zrQ,List.filter_nil,List.map_nil,zrR,List.length_nil,List.all_nil,Bool.true_and,Nat.add_zero]
      rw [zOK]
      cases o.length == n <;> rfl) (0,[]) (Nat.le_refl _)
  refine hloop.trans ?_
  unfold zgk
  rw [Nat.zero_add]
theorem zLS {l:List zu} (hl:l.length ≤ Go.maxLen) (n:Nat) (hn:n ≤ l.length) (b:Int):zmt (l,(n:Int),b,()) = some (!zW (fun j=>!((l.getD j zK).1 && ((l.getD j zK).2.2.2.2.2.2.2.2.2.1:Int) == b)) 0 (n - 0),()):=by
  have hloop:=z8 (B:=zfZ) (i0:=0) (n:=n) (p:=fun j=>!((l.getD j zK).1 && ((l.getD j zK).2.2.2.2.2.2.2.2.2.1:Int) == b)) (fin:=some (false,())) (bad:=some (true,())) (by omega) (Nat.zero_le _) (fun i=>(l,(n:Int),b,i)) (fun k i h1 h2=>by
    simp only [zfZ]
    rw [ltT h2]
    simp only [zk (show i < l.length by omega),zG,cond_true]
    grind) (fun k=>by simp only [zfZ]; rw [ltF]; rfl)
  refine hloop.trans ?_
  cases zW (fun j=>!((l.getD j zK).1 && ((l.getD j zK).2.2.2.2.2.2.2.2.2.1:Int) == b)) 0 (n - 0) <;> rfl
theorem zNB {l:List zu}:(zrQ l).Pairwise (· ≠ ·) ↔ ∀ i j:Nat,i < j→j < l.length→(l.getD i zK).1 = true→(l.getD j zK).1 = true→(l.getD i zK).2.2.2.2.2.2.2.2.2.1 ≠ (l.getD j zK).2.2.2.2.2.2.2.2.2.1:=by
  unfold zrQ
  rw [List.pairwise_map,List.pairwise_filter,List.pairwise_iff_getElem]
  have e:∀ i (h:i < l.length),l.getD i zK = l[i]:=fun i h=>by simp [List.getD,h]
  constructor
  · intro h i j hij hj h1 h2
    rw [e i (by omega)] at h1 ⊢
    rw [e j hj] at h2 ⊢
    exact h i j (by omega) hj hij h1 h2
  · intro h i j hi hj hij h1 h2
    have:=h i j hij hj (by rw [e i hi]; exact h1) (by rw [e j hj]; exact h2)
    rw [e i hi,e j hj] at this
    exact this
end Go.Proofs.YtejbgeokcpillaaGreatDoor
end
