import Derived.Test.YtejbgeokcpillaaGreatDoorGsd
set_option linter.unusedVariables false
set_option linter.unusedSimpArgs false
section
namespace Go.Proofs.YtejbgeokcpillaaGreatDoor
open Go.Ev
noncomputable section
abbrev zcQ:Type:=(List zh) × Int
abbrev zB3:zcQ→St:=fun (v0,v3)=>St.mk [(0,.dat (.sl zi) v0),(3,.dat tI v3)] []
def zcR (k0:zcQ→Option (Bool × Unit)):zcQ→Option (Bool × Unit):=fun (v0,v3) =>
  bif decide (v3 < ((List.length v0):Int)) then inR v3 ((List.length v0):Int) (bif (ix zj v0 v3).1 then bif (ix zj v0 v3).2.2.1 == 1 then Option.bind (vo ((ix zj v0 v3).2.2.2.1,())) fun q0=>bif q0.1 then bif eqI zv (ix zj v0 v3).2.2.2.2.1 (zd zv) then bif (ix zj v0 v3).2.2.1 == 2 then bif (ix zj v0 v3).2.2.2.1 == 0 then Option.bind (qx ((ix zj v0 v3).2.2.2.2.1,())) fun q1=>bif q1.1 then Option.bind (zH ((ix zj v0 v3).2.1,())) fun q2=>bif q2.1 then k0 (v0,wI (v3 + 1)) else some (false,()) else Option.bind (zH ((ix zj v0 v3).2.1,())) fun q3=>bif q3.1 then k0 (v0,wI (v3 + 1)) else some (false,()) else Option.bind (zH ((ix zj v0 v3).2.1,())) fun q4=>bif q4.1 then k0 (v0,wI (v3 + 1)) else some (false,()) else Option.bind (zH ((ix zj v0 v3).2.1,())) fun q5=>bif q5.1 then k0 (v0,wI (v3 + 1)) else some (false,()) else bif (ix zj v0 v3).2.2.1 == 2 then bif (ix zj v0 v3).2.2.2.1 == 0 then Option.bind (qx ((ix zj v0 v3).2.2.2.2.1,())) fun q6=>bif q6.1 then Option.bind (zH ((ix zj v0 v3).2.1,())) fun q7=>bif q7.1 then k0 (v0,wI (v3 + 1)) else some (false,()) else Option.bind (zH ((ix zj v0 v3).2.1,())) fun q8=>bif q8.1 then some (false,()) else some (false,()) else Option.bind (zH ((ix zj v0 v3).2.1,())) fun q9=>bif q9.1 then some (false,()) else some (false,()) else Option.bind (zH ((ix zj v0 v3).2.1,())) fun q10=>bif q10.1 then some (false,()) else some (false,()) else bif (ix zj v0 v3).2.2.1 == 2 then bif (ix zj v0 v3).2.2.2.1 == 0 then Option.bind (qx ((ix zj v0 v3).2.2.2.2.1,())) fun q11=>bif q11.1 then Option.bind (zH ((ix zj v0 v3).2.1,())) fun q12=>bif q12.1 then k0 (v0,wI (v3 + 1)) else some (false,()) else Option.bind (zH ((ix zj v0 v3).2.1,())) fun q13=>bif q13.1 then some (false,()) else some (false,()) else Option.bind (zH ((ix zj v0 v3).2.1,())) fun q14=>bif q14.1 then some (false,()) else some (false,()) else Option.bind (zH ((ix zj v0 v3).2.1,())) fun q15=>bif q15.1 then some (false,()) else some (false,()) else bif (ix zj v0 v3).2.2.1 == 3 then Option.bind (vo ((ix zj v0 v3).2.2.2.1,())) fun q16=>bif q16.1 then bif eqI zv (ix zj v0 v3).2.2.2.2.1 (zd zv) then bif (ix zj v0 v3).2.2.1 == 2 then bif (ix zj v0 v3).2.2.2.1 == 0 then Option.bind (qx ((ix zj v0 v3).2.2.2.2.1,())) fun q17=>bif q17.1 then Option.bind (zH ((ix zj v0 v3).2.1,())) fun q18=>bif q18.1 then k0 (v0,wI (v3 + 1)) else some (false,()) else Option.bind (zH ((ix zj v0 v3).2.1,())) fun q19=>bif q19.1 then k0 (v0,wI (v3 + 1)) else some (false,()) else Option.bind (zH ((ix zj v0 v3).2.1,())) fun q20=>bif q20.1 then k0 (v0,wI (v3 + 1)) else some (false,()) else Option.bind (zH ((ix zj v0 v3).2.1,())) fun q21=>bif q21.1 then k0 (v0,wI (v3 + 1)) else some (false,()) else bif (ix zj v0 v3).2.2.1 == 2 then bif (ix zj v0 v3).2.2.2.1 == 0 then Option.bind (qx ((ix zj v0 v3).2.2.2.2.1,())) fun q22=>bif q22.1 then Option.bind (zH ((ix zj v0 v3).2.1,())) fun q23=>bif q23.1 then k0 (v0,wI (v3 + 1)) else some (false,()) else Option.bind (zH ((ix zj v0 v3).2.1,())) fun q24=>bif q24.1 then some (false,()) else some (false,()) else Option.bind (zH ((ix zj v0 v3).2.1,())) fun q25=>bif q25.1 then some (false,()) else some (false,()) else Option.bind (zH ((ix zj v0 v3).2.1,())) fun q26=>bif q26.1 then some (false,()) else some (false,()) else bif (ix zj v0 v3).2.2.1 == 2 then bif (ix zj v0 v3).2.2.2.1 == 0 then Option.bind (qx ((ix zj v0 v3).2.2.2.2.1,())) fun q27=>bif q27.1 then Option.bind (zH ((ix zj v0 v3).2.1,())) fun q28=>bif q28.1 then k0 (v0,wI (v3 + 1)) else some (false,()) else Option.bind (zH ((ix zj v0 v3).2.1,())) fun q29=>bif q29.1 then some (false,()) else some (false,()) else Option.bind (zH ((ix zj v0 v3).2.1,())) fun q30=>bif q30.1 then some (false,()) else some (false,()) else Option.bind (zH ((ix zj v0 v3).2.1,())) fun q31=>bif q31.1 then some (false,()) else some (false,()) else bif (ix zj v0 v3).2.2.1 == 2 then bif (ix zj v0 v3).2.2.2.1 == 0 then Option.bind (qx ((ix zj v0 v3).2.2.2.2.1,())) fun q32=>bif q32.1 then Option.bind (zH ((ix zj v0 v3).2.1,())) fun q33=>bif q33.1 then k0 (v0,wI (v3 + 1)) else some (false,()) else Option.bind (zH ((ix zj v0 v3).2.1,())) fun q34=>bif q34.1 then some (false,()) else some (false,()) else Option.bind (zH ((ix zj v0 v3).2.1,())) fun q35=>bif q35.1 then some (false,()) else some (false,()) else Option.bind (zH ((ix zj v0 v3).2.1,())) fun q36=>bif q36.1 then some (false,()) else some (false,()) else bif !eqI zi (ix zj v0 v3) (zd zi) then some (false,()) else k0 (v0,wI (v3 + 1))) else some (true,())
abbrev zqB (K:Nat):zcQ→Option (Bool × Unit):=zg zcR K
theorem zB4 (K:Nat):∀ n,evV Es1 K Tryz.f84 0 (ch [.bool]) [1,0,1,0] [] zB3 n = zg zcR n:=zq fun n0 (v0,v3)=>by kernel_rfl
def znl (L0:zcQ→Option (Bool × Unit)):((List zh) × Unit)→Option (Bool × Unit):=fun (x0,()) =>
  L0 (x0,0)
def yr:((List zh) × Unit)→Option (Bool × Unit):=znl (zqB K0)
abbrev zuH:Fun:=⟨84,(ch [(.sl zi)]),(ch [.bool]),0,yr⟩
theorem zGj:Sq zuH:=ml1 (d:=false) (S:=fun K=>znl (zqB K)) Tryz.func84 (by kernel_rfl) (fun K=>tr1 (T:=znl) (zB4 K K) fun (x0,())=>by kernel_rfl) rfl
abbrev zeH:Type:=ByteArray × Int
abbrev zD8:zeH→St:=fun (v0,v3)=>St.mk [(0,.dat .str v0),(3,.dat tI v3)] []
def zhH (k0:zeH→Option (Bool × Unit)):zeH→Option (Bool × Unit):=fun (v0,v3) =>
  bif decide (v3 < (↑(ByteArray.size v0):Int)) then inR v3 (↑(ByteArray.size v0):Int) (Option.bind (zmt ((↑(UInt8.toNat (List.getD (Array.toList (ByteArray.data v0)) (Int.toNat v3) 0)):Int),())) fun q0=>bif q0.1 then k0 (v0,wI (v3 + 1)) else some (false,())) else some (true,())
abbrev zl1 (K:Nat):zeH→Option (Bool × Unit):=zg zhH K
theorem zD9 (K:Nat):∀ n,evV Es1 K Tryz.f307 0 (ch [.bool]) [1,1,0,1,0] [] zD8 n = zg zhH n:=zq fun n0 (v0,v3)=>by kernel_rfl
def zkz (L0:zeH→Option (Bool × Unit)):(ByteArray × Unit)→Option (Bool × Unit):=fun (x0,()) =>
  bif (↑(ByteArray.size x0):Int) == 0 then some (false,()) else bif decide ((↑(ByteArray.size x0):Int) > 40) then some (false,()) else bif decide (0 < (↑(ByteArray.size x0):Int)) then bif (↑(UInt8.toNat (List.getD (Array.toList (ByteArray.data x0)) (Int.toNat 0) 0)):Int) == 32 then some (false,()) else inR (wI ((↑(ByteArray.size x0):Int) - 1)) (↑(ByteArray.size x0):Int) (bif (↑(UInt8.toNat (List.getD (Array.toList (ByteArray.data x0)) (Int.toNat (wI ((↑(ByteArray.size x0):Int) - 1))) 0)):Int) == 32 then some (false,()) else L0 (x0,0)) else none
def zkA:(ByteArray × Unit)→Option (Bool × Unit):=zkz (zl1 K0)
abbrev zwW:Fun:=⟨307,(ch [.str]),(ch [.bool]),0,zkA⟩
theorem zIY:Sq zwW:=ml1 (d:=false) (S:=fun K=>zkz (zl1 K)) Tryz.func307 (by kernel_rfl) (fun K=>tr1 (T:=zkz) (zD9 K K) fun (x0,())=>by kernel_rfl) rfl
def zkB:(zx × Unit)→Option (Bool × Unit):=fun (x0,()) =>
  bif decide (x0.2.2.2.1.2.1 > 0) then Option.bind (jw (x0.2.1,())) fun q0=>bif q0.1 then Option.bind (jw (x0.2.2.1,())) fun q1=>bif q1.1 then bif x0.2.1 != x0.2.2.1 then Option.bind (jx (x0.2.2.2.1,())) fun q2=>bif q2.1 then Option.bind (jx (x0.2.2.2.2.1,())) fun q3=>bif q3.1 then some (true,()) else some (false,()) else some (false,()) else some (false,()) else some (false,()) else some (false,()) else bif decide (x0.2.2.2.1.2.2.1 ≥ 0) then Option.bind (jw (x0.2.1,())) fun q4=>bif q4.1 then Option.bind (jw (x0.2.2.1,())) fun q5=>bif q5.1 then bif x0.2.1 != x0.2.2.1 then Option.bind (jx (x0.2.2.2.1,())) fun q6=>bif q6.1 then Option.bind (jx (x0.2.2.2.2.1,())) fun q7=>bif q7.1 then some (true,()) else some (false,()) else some (false,()) else some (false,()) else some (false,()) else some (false,()) else bif decide (x0.2.2.2.2.1.2.1 > 0) then Option.bind (jw (x0.2.1,())) fun q8=>bif q8.1 then Option.bind (jw (x0.2.2.1,())) fun q9=>bif q9.1 then bif x0.2.1 != x0.2.2.1 then Option.bind (jx (x0.2.2.2.1,())) fun q10=>bif q10.1 then Option.bind (jx (x0.2.2.2.2.1,())) fun q11=>bif q11.1 then some (true,()) else some (false,()) else some (false,()) else some (false,()) else some (false,()) else some (false,()) else bif decide (x0.2.2.2.2.1.2.2.1 ≥ 0) then Option.bind (jw (x0.2.1,())) fun q12=>bif q12.1 then Option.bind (jw (x0.2.2.1,())) fun q13=>bif q13.1 then bif x0.2.1 != x0.2.2.1 then Option.bind (jx (x0.2.2.2.1,())) fun q14=>bif q14.1 then Option.bind (jx (x0.2.2.2.2.1,())) fun q15=>bif q15.1 then some (true,()) else some (false,()) else some (false,()) else some (false,()) else some (false,()) else some (false,()) else Option.bind (jw (x0.2.1,())) fun q16=>bif q16.1 then Option.bind (jw (x0.2.2.1,())) fun q17=>bif q17.1 then bif x0.2.1 != x0.2.2.1 then Option.bind (jx (x0.2.2.2.1,())) fun q18=>bif q18.1 then Option.bind (jx (x0.2.2.2.2.1,())) fun q19=>bif q19.1 then some (false,()) else some (false,()) else some (false,()) else some (false,()) else some (false,()) else some (false,())
abbrev zwX:Fun:=⟨308,(ch [zz]),(ch [.bool]),0,zkB⟩
theorem zIZ:Sq zwX:=ms1 (d:=false) (K:=0) Tryz.func308 (by kernel_rfl) (funext fun (x0,())=>by kernel_rfl)
abbrev zf3:Type:=Int × zC × zC
abbrev zGk:zf3→St:=fun (v5,o0,o1)=>St.mk [(2,.bp 0 []),(3,.bp 1 []),(5,.dat tI v5)] [.bx (.dat zt o0) false,.bx (.dat zt o1) false]
def zf4 (k0:zf3→Option (Bool × Unit)):zf3→Option (Bool × Unit):=fun (v5,o0,o1) =>
  bif decide (v5 < 64) then Option.bind (zgh (o0,v5,())) fun q0=>bif q0.1 then Option.bind (zgh (o1,v5,())) fun q1=>bif q1.1 then k0 (wI (v5 + 1),o0,o1) else some (false,()) else k0 (wI (v5 + 1),o0,o1) else bif decide (o0.1 ≤ o1.1) then some (true,()) else some (false,())
abbrev zuI (K:Nat):zf3→Option (Bool × Unit):=zg zf4 K
theorem zGl (K:Nat):∀ n,evV Es1 K Tryz.f93 0 (ch [.bool]) [1,0,1,0] [] zGk n = zg zf4 n:=zq fun n0 (v5,o0,o1)=>by kernel_rfl
def zrG (L0:zf3→Option (Bool × Unit)):(zC × (zC × Unit))→Option (Bool × Unit):=fun (x0,x1,()) =>
  L0 (0,x0,x1)
def zrH:(zC × zC × Unit)→Option (Bool × Unit):=zrG (zuI K0)
abbrev zyX:Fun:=⟨93,(ch [zt,zt]),(ch [.bool]),0,zrH⟩
theorem zLj:Sq zyX:=ml1 (d:=false) (S:=fun K=>zrG (zuI K)) Tryz.func93 (by kernel_rfl) (fun K=>tr1 (T:=zrG) (zGl K K) fun (x0,x1,())=>by kernel_rfl) rfl
def zkC:(zf × (zp × (Int × Unit)))→Option (Bool × Unit):=fun (x0,x1,x2,()) =>
  inR x2 ((List.length x1.2.2.2.2.1):Int) (bif (ix zR x1.2.2.2.2.1 x2).1 then Option.bind (jY (x0,(ix zR x1.2.2.2.2.1 x2).2.1,())) fun q0=>bif q0.1 then Option.bind (jY (x0,(ix zR x1.2.2.2.2.1 x2).2.2.1,())) fun q1=>bif q1.1 then bif decide ((ix zR x1.2.2.2.2.1 x2).2.2.2.1.2.2.1 ≥ ((List.length x1.2.2.1):Int)) then some (false,()) else bif decide ((ix zR x1.2.2.2.2.1 x2).2.2.2.2.1.2.2.1 ≥ ((List.length x1.2.2.1):Int)) then some (false,()) else bif decide ((ix zR x1.2.2.2.2.1 x2).2.2.2.1.2.2.1 < 0) then some (true,()) else inR (ix zR x1.2.2.2.2.1 x2).2.2.2.1.2.2.1 ((List.length x1.2.2.1):Int) (bif (List.getD x1.2.2.1 (Int.toNat (ix zR x1.2.2.2.2.1 x2).2.2.2.1.2.2.1) (zd zi)).1 then bif (List.getD x1.2.2.1 (Int.toNat (ix zR x1.2.2.2.2.1 x2).2.2.2.1.2.2.1) (zd zi)).2.2.1 == 3 then bif (List.getD x1.2.2.1 (Int.toNat (ix zR x1.2.2.2.2.1 x2).2.2.2.1.2.2.1) (zd zi)).2.2.2.1 == x2 then some (true,()) else some (false,()) else some (false,()) else some (false,())) else some (false,()) else some (false,()) else some (true,()))
abbrev zwY:Fun:=⟨247,(ch [zw,zy,tI]),(ch [.bool]),0,zkC⟩
theorem zI0:Sq zwY:=ms1 (d:=false) (K:=0) Tryz.func247 (by kernel_rfl) (funext fun (x0,x1,x2,())=>by kernel_rfl)
abbrev zeI:Type:=(List zu) × Int × Int × Int
abbrev zEa:zeI→St:=fun (v0,v1,v6,v7)=>St.mk [(0,.dat (.sl zr) v0),(1,.dat tI v1),(6,.dat tU v6),(7,.dat tI v7)] []
def zeJ (k0:zeI→Option (Int × (Int × Unit))):zeI→Option (Int × (Int × Unit)):=fun (v0,v1,v6,v7) =>
  bif decide (v7 < ((List.length v0):Int)) then inR v7 ((List.length v0):Int) (Option.bind (ziZ (ix zK v0 v7,v1,())) fun q0=>Option.bind (vZ (v6,q0.1,())) fun q1=>bif q1.2.1 != 0 then some (0,q1.2.1,()) else k0 (v0,v1,q1.1,wI (v7 + 1))) else some (v6,0,())
abbrev zsF (K:Nat):zeI→Option (Int × (Int × Unit)):=zg zeJ K
theorem zEb (K:Nat):∀ n,evV Es1 K Tryz.f248 0 (ch [tU,tI]) [1,1,1,0,1,0] [] zEa n = zg zeJ n:=zq fun n0 (v0,v1,v6,v7)=>by kernel_rfl
def zkD (L0:zeI→Option (Int × (Int × Unit))):((List zu) × (Int × Unit))→Option (Int × (Int × Unit)):=fun (x0,x1,()) =>
  bif decide (x1 < 0) then some (0,1,()) else bif decide (x1 > 3) then some (0,1,()) else L0 (x0,x1,0,0)
def zkE:((List zu) × Int × Unit)→Option (Int × Int × Unit):=zkD (zsF K0)
abbrev zwZ:Fun:=⟨248,(ch [(.sl zr),tI]),(ch [tU,tI]),0,zkE⟩
theorem zI1:Sq zwZ:=ml1 (d:=false) (S:=fun K=>zkD (zsF K)) Tryz.func248 (by kernel_rfl) (fun K=>tr1 (T:=zkD) (zEb K K) fun (x0,x1,())=>by kernel_rfl) rfl
abbrev zeK:Type:=(List zx) × Int × Int × Int
abbrev zEc:zeK→St:=fun (v0,v1,v6,v7)=>St.mk [(0,.dat (.sl zz) v0),(1,.dat tI v1),(6,.dat tU v6),(7,.dat tI v7)] []
def zeL (k0:zeK→Option (Int × (Int × Unit))):zeK→Option (Int × (Int × Unit)):=fun (v0,v1,v6,v7) =>
  bif decide (v7 < ((List.length v0):Int)) then inR v7 ((List.length v0):Int) (bif (ix zR v0 v7).1 then inR v7 ((List.length v0):Int) (bif (ix zR v0 v7).2.2.2.1.1 == v1 then inR v7 ((List.length v0):Int) (Option.bind (vZ (v6,(ix zR v0 v7).2.2.2.1.2.1,())) fun q0=>bif q0.2.1 != 0 then some (0,q0.2.1,()) else k0 (v0,v1,q0.1,wI (v7 + 1))) else k0 (v0,v1,v6,wI (v7 + 1))) else k0 (v0,v1,v6,wI (v7 + 1))) else some (v6,0,())
abbrev zsG (K:Nat):zeK→Option (Int × (Int × Unit)):=zg zeL K
theorem zEd (K:Nat):∀ n,evV Es1 K Tryz.f249 0 (ch [tU,tI]) [1,1,1,0,1,0] [] zEc n = zg zeL n:=zq fun n0 (v0,v1,v6,v7)=>by kernel_rfl
def zkF (L0:zeK→Option (Int × (Int × Unit))):((List zx) × (Int × Unit))→Option (Int × (Int × Unit)):=fun (x0,x1,()) =>
  bif decide (x1 < 0) then some (0,1,()) else bif decide (x1 > 3) then some (0,1,()) else L0 (x0,x1,0,0)
def zkG:((List zx) × Int × Unit)→Option (Int × Int × Unit):=zkF (zsG K0)
abbrev zw0:Fun:=⟨249,(ch [(.sl zz),tI]),(ch [tU,tI]),0,zkG⟩
theorem zI2:Sq zw0:=ml1 (d:=false) (S:=fun K=>zkF (zsG K)) Tryz.func249 (by kernel_rfl) (fun K=>tr1 (T:=zkF) (zEd K K) fun (x0,x1,())=>by kernel_rfl) rfl
abbrev zeM:Type:=Int × Int × Int × Int × Int × zb
abbrev zsH:zeM→St:=fun (v1,v6,v7,v8,v10,o0)=>St.mk [(1,.dat tI v1),(2,.bp 0 []),(6,.dat tU v6),(7,.dat tU v7),(8,.dat tI v8),(10,.dat tI v10)] [.bx (.dat zo o0) false]
abbrev zeN:Type:=Int × Int × Int × Int × Int × zb
abbrev zEe:zeN→St:=fun (v1,v6,v7,v8,v9,o0)=>St.mk [(1,.dat tI v1),(2,.bp 0 []),(6,.dat tU v6),(7,.dat tU v7),(8,.dat tI v8),(9,.dat tI v9)] [.bx (.dat zo o0) false]
def zeO (k1:zeM→Option (Int × (Int × Unit))):zeM→Option (Int × (Int × Unit)):=fun (v1,v6,v7,v8,v10,o0) =>
  bif decide (v10 < ((List.length o0.2.1):Int)) then bif v8 == 0 then inR v10 ((List.length o0.2.1):Int) (inR v1 (↑4:Int) (Option.bind (vZ (v7,List.getD (ix ze o0.2.1 v10).2.2.2.2.2.2.2.2.1 (Int.toNat v1) (0:Int),())) fun q1=>k1 (v1,v6,q1.1,q1.2.1,wI (v10 + 1),o0))) else bif v8 != 0 then some (0,v8,()) else Option.bind (zf2 (v6,v7,())) fun q2=>some (q2.1,q2.2.1,()) else bif v8 != 0 then some (0,v8,()) else Option.bind (zf2 (v6,v7,())) fun q3=>some (q3.1,q3.2.1,())
abbrev zbb (K:Nat):zeM→Option (Int × (Int × Unit)):=zg zeO K
theorem zEf (K:Nat):∀ n,evV Es1 K Tryz.f165 0 (ch [tU,tI]) [1,1,1,1,1,1,0,1,0] [] zsH n = zg zeO n:=zq fun n1 (v1,v6,v7,v8,v10,o0)=>by kernel_rfl
def zbc (L1:zeM→Option (Int × (Int × Unit))) (k0:zeN→Option (Int × (Int × Unit))):zeN→Option (Int × (Int × Unit)):=fun (v1,v6,v7,v8,v9,o0) =>
  bif decide (v9 < ((List.length o0.2.1):Int)) then bif v8 == 0 then inR v9 ((List.length o0.2.1):Int) (inR v1 (↑4:Int) (Option.bind (vZ (v6,List.getD (ix ze o0.2.1 v9).2.2.2.2.2.2.2.1 (Int.toNat v1) (0:Int),())) fun q0=>k0 (v1,q0.1,v7,q0.2.1,wI (v9 + 1),o0))) else L1 (v1,v6,v7,v8,0,o0) else L1 (v1,v6,v7,v8,0,o0)
abbrev zsI (K:Nat):zeN→Option (Int × (Int × Unit)):=zg (fun k0=>zbc (zbb K) k0) K
theorem zEg (K:Nat):∀ n,evV Es1 K Tryz.f165 0 (ch [tU,tI]) [1,1,1,1,1,0,1,0] [] zEe n = zg (fun k0=>zbc (zbb K) k0) n:=qu (B:=fun L1 k0=>zbc L1 k0) (V1:=fun n0=>evV Es1 K Tryz.f165 0 (ch [tU,tI]) [1,1,1,1,1,1,0,1,0] [] zsH K) (W1:=fun k0=>(zbb K)) (fun n0=>zEf K K) fun n0 (v1,v6,v7,v8,v9,o0)=>by kernel_rfl
def zkH (L0:zeN→Option (Int × (Int × Unit))):(zb × (Int × Unit))→Option (Int × (Int × Unit)):=fun (x0,x1,()) =>
  bif decide (x1 < 0) then some (0,1,()) else bif decide (x1 > 3) then some (0,1,()) else L0 (x1,0,0,0,0,x0)
def zkI:(zb × Int × Unit)→Option (Int × Int × Unit):=zkH (zsI K0)
abbrev zw1:Fun:=⟨165,(ch [zo,tI]),(ch [tU,tI]),0,zkI⟩
theorem zI3:Sq zw1:=ml1 (d:=false) (S:=fun K=>zkH (zsI K)) Tryz.func165 (by kernel_rfl) (fun K=>tr1 (T:=zkH) (zEg K K) fun (x0,x1,())=>by kernel_rfl) rfl
def zkJ:(zf × (pMe × Unit))→Option (Bool × Unit):=fun (x0,x1,()) =>
  bif decide (x1.1 ≥ 0) then bif decide (x1.1 < ((List.length x0.2.1):Int)) then inR x1.1 ((List.length x0.2.1):Int) (bif x1.2.1 == ix (0:Int) x0.2.1 x1.1 then Option.bind (jY (x0,x1.2.2.1,())) fun q0=>bif q0.1 then some (true,()) else some (false,()) else some (false,())) else some (false,()) else some (false,())
abbrev zw2:Fun:=⟨83,(ch [zw,tMe]),(ch [.bool]),0,zkJ⟩
theorem zI4:Sq zw2:=ms1 (d:=false) (K:=0) Tryz.func83 (by kernel_rfl) (funext fun (x0,x1,())=>by kernel_rfl)
abbrev zcS:Type:=(List zh) × Int × Int × qS × List Int
abbrev zB5:zcS→St:=fun (v8,v9,v10,o0,o1)=>St.mk [(3,.bp 0 []),(5,.ow 1),(8,.dat (.sl zi) v8),(9,.dat tI v9),(10,.dat tI v10)] [.bx (.dat qm o0) false,.row tI o1 false]
def zcT (k0:zcS→Option ((List Int) × Unit)):zcS→Option ((List Int) × Unit):=fun (v8,v9,v10,o0,o1) =>
  bif decide (v10 < v9) then inR v10 ((List.length v8):Int) (bif (ix zj v8 v10).1 then Option.bind (zhv (ix zj v8 v10,())) fun q0=>bif eqI qm q0.1 o0 then bif decide (List.length o1 + List.length (zm (List.replicate 1 (0:Int)) 0 v10) ≤ lim) then k0 (v8,v9,wI (v10 + 1),o0,o1 ++ zm (List.replicate 1 (0:Int)) 0 v10) else none else k0 (v8,v9,wI (v10 + 1),o0,o1) else k0 (v8,v9,wI (v10 + 1),o0,o1)) else some (o1,())
abbrev zqC (K:Nat):zcS→Option ((List Int) × Unit):=zg zcT K
theorem zB6 (K:Nat):∀ n,evV Es1 K Tryz.f89 0 (ch [(.sl tI)]) [1,1,0,1,0] [] zB5 n = zg zcT n:=zq fun n0 (v8,v9,v10,o0,o1)=>by kernel_rfl
def znm (L0:zcS→Option ((List Int) × Unit)):((List zh) × (qS × Unit))→Option ((List Int) × Unit):=fun (x0,x1,()) =>
  L0 (x0,((List.length x0):Int),0,x1,[])
def zi1:((List zh) × qS × Unit)→Option ((List Int) × Unit):=znm (zqC K0)
abbrev zuJ:Fun:=⟨89,(ch [(.sl zi),qm]),(ch [(.sl tI)]),0,zi1⟩
theorem zGm:Sq zuJ:=ml1 (d:=false) (S:=fun K=>znm (zqC K)) Tryz.func89 (by kernel_rfl) (fun K=>tr1 (T:=znm) (zB6 K K) fun (x0,x1,())=>by kernel_rfl) rfl
abbrev zeP:Type:=(List zh) × Int × Int × List Int
abbrev zEh:zeP→St:=fun (v0,v1,v6,o0)=>St.mk [(0,.dat (.sl zi) v0),(1,.dat tI v1),(5,.ow 0),(6,.dat tI v6)] [.row tI o0 false]
def zeQ (k0:zeP→Option ((List Int) × Unit)):zeP→Option ((List Int) × Unit):=fun (v0,v1,v6,o0) =>
  bif decide (v6 < ((List.length v0):Int)) then Option.bind (vI (v0,v6,v1,())) fun q0=>bif q0.1 then inR v6 ((List.length v0):Int) (bif eqI zv (ix zj v0 v6).2.2.2.2.1 (zd zv) then bif decide (List.length o0 + List.length (zm (List.replicate 1 (0:Int)) 0 v6) ≤ lim) then k0 (v0,v1,wI (v6 + 1),o0 ++ zm (List.replicate 1 (0:Int)) 0 v6) else none else k0 (v0,v1,wI (v6 + 1),o0)) else k0 (v0,v1,wI (v6 + 1),o0) else some (o0,())
abbrev zsJ (K:Nat):zeP→Option ((List Int) × Unit):=zg zeQ K
theorem zEi (K:Nat):∀ n,evV Es1 K Tryz.f51 0 (ch [(.sl tI)]) [1,1,0,1,0] [] zEh n = zg zeQ n:=zq fun n0 (v0,v1,v6,o0)=>by kernel_rfl
def zpd (L0:zeP→Option ((List Int) × Unit)):((List zh) × (Int × Unit))→Option ((List Int) × Unit):=fun (x0,x1,()) =>
  L0 (x0,x1,0,[])
def zpe:((List zh) × Int × Unit)→Option ((List Int) × Unit):=zpd (zsJ K0)
abbrev zw3:Fun:=⟨51,(ch [(.sl zi),tI]),(ch [(.sl tI)]),0,zpe⟩
theorem zI5:Sq zw3:=ml1 (d:=false) (S:=fun K=>zpd (zsJ K)) Tryz.func51 (by kernel_rfl) (fun K=>tr1 (T:=zpd) (zEi K K) fun (x0,x1,())=>by kernel_rfl) rfl
abbrev yI:Type:=Int × zp × zp
abbrev zlI:yI→St:=fun (v6,o0,o1)=>St.mk [(2,.bp 0 []),(3,.bp 1 []),(6,.dat tI v6)] [.bx (.dat zy o0) false,.bx (.dat zy o1) false]
abbrev yJ:Type:=Int × zp × zp
abbrev zvG:yJ→St:=fun (v5,o0,o1)=>St.mk [(2,.bp 0 []),(3,.bp 1 []),(5,.dat tI v5)] [.bx (.dat zy o0) false,.bx (.dat zy o1) false]
def yK (k1:yI→Option (Bool × Unit)):yI→Option (Bool × Unit):=fun (v6,o0,o1) =>
  bif decide (v6 < ((List.length o0.2.2.2.2.2.2.1):Int)) then inR v6 ((List.length o0.2.2.2.2.2.2.1):Int) (inR v6 ((List.length o1.2.2.2.2.2.2.1):Int) (bif !eqI zv (ix zzG o0.2.2.2.2.2.2.1 v6) (ix zzG o1.2.2.2.2.2.2.1 v6) then some (false,()) else k1 (wI (v6 + 1),o0,o1))) else some (true,())
abbrev zb4 (K:Nat):yI→Option (Bool × Unit):=zg yK K
theorem zvH (K:Nat):∀ n,evV Es1 K Tryz.f61 0 (ch [.bool]) [1,1,1,1,0,1,0] [] zlI n = zg yK n:=zq fun n1 (v6,o0,o1)=>by kernel_rfl
def vf (L1:yI→Option (Bool × Unit)) (k0:yJ→Option (Bool × Unit)):yJ→Option (Bool × Unit):=fun (v5,o0,o1) =>
  bif decide (v5 < ((List.length o0.2.2.2.2.2.1):Int)) then inR v5 ((List.length o0.2.2.2.2.2.1):Int) (inR v5 ((List.length o1.2.2.2.2.2.1):Int) (bif !eqI (.arr 4 tU) (List.getD o0.2.2.2.2.2.1 (Int.toNat v5) (zd (.arr 4 tU))) (List.getD o1.2.2.2.2.2.1 (Int.toNat v5) (zd (.arr 4 tU))) then some (false,()) else k0 (wI (v5 + 1),o0,o1))) else L1 (0,o0,o1)
abbrev zgw (K:Nat):yJ→Option (Bool × Unit):=zg (fun k0=>vf (zb4 K) k0) K
theorem zvI (K:Nat):∀ n,evV Es1 K Tryz.f61 0 (ch [.bool]) [1,1,1,0,1,0] [] zvG n = zg (fun k0=>vf (zb4 K) k0) n:=qu (B:=fun L1 k0=>vf L1 k0) (V1:=fun n0=>evV Es1 K Tryz.f61 0 (ch [.bool]) [1,1,1,1,0,1,0] [] zlI K) (W1:=fun k0=>(zb4 K)) (fun n0=>zvH K K) fun n0 (v5,o0,o1)=>by kernel_rfl
def zd7 (L0:yJ→Option (Bool × Unit)):(zp × (zp × Unit))→Option (Bool × Unit):=fun (x0,x1,()) =>
  Option.bind (zib (x0.1,x1.1,())) fun q0=>bif q0.1 then Option.bind (zid (x0.2.1,x1.2.1,())) fun q1=>bif q1.1 then Option.bind (zoT (x0.2.2.1,x1.2.2.1,())) fun q2=>bif q2.1 then Option.bind (zoV (x0.2.2.2.1,x1.2.2.2.1,())) fun q3=>bif q3.1 then Option.bind (zoX (x0.2.2.2.2.1,x1.2.2.2.2.1,())) fun q4=>bif q4.1 then bif ((List.length x0.2.2.2.2.2.1):Int) != ((List.length x1.2.2.2.2.2.1):Int) then some (false,()) else bif ((List.length x0.2.2.2.2.2.2.1):Int) != ((List.length x1.2.2.2.2.2.2.1):Int) then some (false,()) else bif !eqI (.arr 4 tU) x0.2.2.2.2.2.2.2.1 x1.2.2.2.2.2.2.2.1 then some (false,()) else bif !eqI (.arr 4 tU) x0.2.2.2.2.2.2.2.2.1 x1.2.2.2.2.2.2.2.2.1 then some (false,()) else L0 (0,x0,x1) else some (false,()) else some (false,()) else some (false,()) else some (false,()) else some (false,())
def zd8:(zp × zp × Unit)→Option (Bool × Unit):=zd7 (zgw K0)
abbrev znU:Fun:=⟨61,(ch [zy,zy]),(ch [.bool]),0,zd8⟩
theorem zyj:Sq znU:=ml1 (d:=false) (S:=fun K=>zd7 (zgw K)) Tryz.func61 (by kernel_rfl) (fun K=>tr1 (T:=zd7) (zvI K K) fun (x0,x1,())=>by kernel_rfl) rfl
abbrev L2:List Fun:=zuE :: zo0 :: zh3 :: znT :: zkv :: zqt :: zjU :: zix :: zsw :: zgC :: zlH :: zo1 :: zwN :: zh4 :: ziy :: zwO :: zwP :: ziz :: zm0 :: ziA :: zsx :: zsy :: zh5 :: zyV :: zwR :: zo2 :: zh6 :: zo3 :: zh7 :: zo4 :: zyW :: ziD :: zjV :: zo5 :: zo6 :: zo7 :: zqu :: zo8 :: zqv :: zBX :: zqw :: zo9 :: zsA :: zsB :: zsC :: zpa :: zsD :: zsE :: zwV :: zuF :: zuG :: zuH :: zwW :: zwX :: zyX :: zwY :: zwZ :: zw0 :: zw1 :: zw2 :: zuJ :: zw3 :: znU :: L1
theorem h2:Sds Tryz.prog E0 L2:=⟨zGg,zzQ,zpR,zyi,ztT,zBU,zsv,zrB,zD0,zn8,zvF,zzR,zIR,zpS,zrC,zIS,zIT,zrD,zwQ,zrE,zD1,zD2,zpT,zLh,zIU,zzS,zpU,zzT,zpV,zzU,zLi,zrF,zsz,zzV,zzW,zzX,zBV,zzY,zBW,zNq,zBY,zzZ,zD3,zD4,zD5,zz2,zD6,zD7,zIX,zGh,zGi,zGj,zIY,zIZ,zLj,zI0,zI1,zI2,zI3,zI4,zGm,zI5,zyj,h1⟩
theorem ms2 {d:Bool} {F:Fun} {f:Go.Func} {K:Nat} (hf:Tryz.prog.funcs[F.id]? = some f) (ho:jm f = true) (h:evF (En E0 d L2) K f F.md F.a F.r = F.spec):Sd Tryz.prog E0 F:=mkS h2 hf ho h
theorem ml2 {d:Bool} {F:Fun} {f:Go.Func} {S:Nat→F.a.I→Option F.r.I} (hf:Tryz.prog.funcs[F.id]? = some f) (ho:jm f = true) (h:∀ K,evF (En E0 d L2) K f F.md F.a F.r = S K) (e:S K0 = F.spec):Sd Tryz.prog E0 F:=mkS h2 hf ho ((h K0).trans e)
abbrev Es2:Env:=En E0 false L2
def zmu:(zC × (zC × Unit))→Option (Int × Unit):=fun (x0,x1,()) =>
  Option.bind (zaN (x0.1,x1.1,())) fun q0=>Option.bind (yb (x0.2.1,x1.2.1,())) fun q1=>Option.bind (zej (zm (zm (List.replicate 2 (0:Int)) 0 q0.1) 1 q1.1,())) fun q2=>some (q2.1,())
abbrev zyY:Fun:=⟨254,(ch [zt,zt]),(ch [tI]),0,zmu⟩
theorem zLk:Sq zyY:=ms2 (d:=false) (K:=0) Tryz.func254 (by kernel_rfl) (funext fun (x0,x1,())=>by kernel_rfl)
def yt:(zf × Unit)→Option (Bool × Unit):=fun (x0,()) =>
  Option.bind (qw (((List.length x0.2.1):Int),1,8,())) fun q0=>bif q0.1 then Option.bind (qN (x0.2.1,some fun z=>zcI (z.1,some x0,()),())) fun q1=>bif q1.1 then some (false,()) else some (true,()) else some (false,())
abbrev zuK:Fun:=⟨171,(ch [zw]),(ch [.bool]),0,yt⟩
theorem zGn:Sq zuK:=ms2 (d:=false) (K:=0) Tryz.func171 (by kernel_rfl) (funext fun (x0,())=>by kernel_rfl)
def zn9:(ByteArray × ((Option ((Int × Unit)→Option (Bool × Unit))) × Unit))→Option (Bool × Unit):=fun (x0,x1,()) =>
  Option.bind (vp (List.map (fun b=>(↑(UInt8.toNat b):Int)) (Array.toList (ByteArray.data x0)),some fun z=>zke (z.1,some x1,()),())) fun q0=>bif q0.1 then some (false,()) else some (true,())
abbrev zB7:Fun:=⟨225,(ch [.str,(.fn (ch [(.int .u8)]) (ch [.bool]))]),(ch [.bool]),0,zn9⟩
theorem zNr:Sq zB7:=ms2 (d:=false) (K:=0) Tryz.func225 (by kernel_rfl) (funext fun (x0,x1,())=>by kernel_rfl)
abbrev zbz:Type:=Int × (List zE) × Int × Int × zf × Int
abbrev zz9:zbz→St:=fun (v4,v11,v12,v13,o0,o1)=>St.mk [(1,.bp 0 []),(3,.bp 1 []),(4,.dat tI v4),(11,.dat (.sl jq) v11),(12,.dat tI v12),(13,.dat tI v13)] [.bx (.dat zw o0) false,.bx (.dat tU o1) false]
def zbA (k0:zbz→Option (Bool × Unit)):zbz→Option (Bool × Unit):=fun (v4,v11,v12,v13,o0,o1) =>
  bif decide (v13 < v12) then inR v13 ((List.length v11):Int) (Option.bind (zkg ((ix qB v11 v13).1,())) fun q0=>bif q0.2.1 != 0 then some (false,()) else bif decide ((ix qB v11 v13).1 ≤ v4) then some (false,()) else Option.bind (qw ((ix qB v11 v13).2.1,0,wI (((List.length o0.2.2.1):Int) - 1),())) fun q1=>bif q1.1 then Option.bind (zb3 (o0.1,q0.1,())) fun q2=>bif q2.1 then k0 ((ix qB v11 v13).1,v11,v12,wI (v13 + 1),o0,wU (↑(BitVec.toNat (BitVec.ofInt (IntKind.bits IntKind.u64) o1 ||| BitVec.ofInt (IntKind.bits IntKind.u64) q0.1.2.1)):Int)) else some (false,()) else some (false,())) else bif decide (((List.length o0.2.2.2.1):Int) ≤ 8) then Option.bind (yw (o0.1,some fun z=>zjs (z.1,some o1,()),())) fun q3=>bif q3.1 then some (false,()) else some (true,()) else some (false,())
abbrev zpf (K:Nat):zbz→Option (Bool × Unit):=zg zbA K
theorem zAa (K:Nat):∀ n,evV Es2 K Tryz.f173 0 (ch [.bool]) [1,1,1,0,1,0] [] zz9 n = zg zbA n:=zq fun n0 (v4,v11,v12,v13,o0,o1)=>by kernel_rfl
def zl2 (L0:zbz→Option (Bool × Unit)):(zf × Unit)→Option (Bool × Unit):=fun (x0,()) =>
  L0 ((-1),x0.2.2.2.1,((List.length x0.2.2.2.1):Int),0,x0,0)
def vK:(zf × Unit)→Option (Bool × Unit):=zl2 (zpf K0)
abbrev zsK:Fun:=⟨173,(ch [zw]),(ch [.bool]),0,vK⟩
theorem zEj:Sq zsK:=ml2 (d:=false) (S:=fun K=>zl2 (zpf K)) Tryz.func173 (by kernel_rfl) (fun K=>tr1 (T:=zl2) (zAa K K) fun (x0,())=>by kernel_rfl) rfl
abbrev zbB:Type:=Int × (List zbn) × Int × Int
abbrev zAb:zbB→St:=fun (v3,v23,v24,v25)=>St.mk [(3,.dat tU v3),(23,.dat (.sl zcp) v23),(24,.dat tI v24),(25,.dat tI v25)] []
def zfL (k0:zbB→Option (Bool × Unit)):zbB→Option (Bool × Unit):=fun (v3,v23,v24,v25) =>
  bif decide (v25 < v24) then inR v25 ((List.length v23):Int) (bif decide ((ix qt v23 v25).2.2.2.2.2.1 > v3) then some (false,()) else Option.bind (zkh (ix qt v23 v25,())) fun q0=>Option.bind (qN (q0.1,some zfE,())) fun q1=>bif q1.1 then some (false,()) else k0 (wU (v3 - (ix qt v23 v25).2.2.2.2.2.1),v23,v24,wI (v25 + 1))) else some (true,())
abbrev zjz (K:Nat):zbB→Option (Bool × Unit):=zg zfL K
theorem zAc (K:Nat):∀ n,evV Es2 K Tryz.f174 0 (ch [.bool]) [1,1,1,0,1,0] [] zAb n = zg zfL n:=zq fun n0 (v3,v23,v24,v25)=>by kernel_rfl
def zhI (L0:zbB→Option (Bool × Unit)):(zf × Unit)→Option (Bool × Unit):=fun (x0,()) =>
  bif ((List.length x0.2.2.2.2.1):Int) != ((List.length x0.1):Int) then some (false,()) else bif decide (0 < ((List.length x0.2.2.2.2.1):Int)) then bif decide ((ix qt x0.2.2.2.2.1 0).1 < 1) then some (false,()) else L0 (4611686018427387904,x0.2.2.2.2.1,((List.length x0.2.2.2.2.1):Int),0) else none
def vL:(zf × Unit)→Option (Bool × Unit):=zhI (zjz K0)
abbrev zsL:Fun:=⟨174,(ch [zw]),(ch [.bool]),0,vL⟩
theorem zEk:Sq zsL:=ml2 (d:=false) (S:=fun K=>zhI (zjz K)) Tryz.func174 (by kernel_rfl) (fun K=>tr1 (T:=zhI) (zAc K K) fun (x0,())=>by kernel_rfl) rfl
def zie:((List zp) × ((Option ((zp × Unit)→Option (Bool × Unit))) × Unit))→Option (Bool × Unit):=fun (x0,x1,()) =>
  Option.bind (j8 (x0,some fun z=>zbX (z.1,some x1,()),())) fun q0=>bif q0.1 then some (false,()) else some (true,())
abbrev znV:Fun:=⟨102,(ch [(.sl zy),(.fn (ch [zy]) (ch [.bool]))]),(ch [.bool]),0,zie⟩
theorem zyk:Sq znV:=ms2 (d:=false) (K:=0) Tryz.func102 (by kernel_rfl) (funext fun (x0,x1,())=>by kernel_rfl)
abbrev zeR:Type:=(List qe) × (List qe) × Int × Int
abbrev zEl:zeR→St:=fun (v0,v5,v6,v7)=>St.mk [(0,.dat (.sl zU) v0),(5,.dat (.sl zU) v5),(6,.dat tI v6),(7,.dat tI v7)] []
def zeS (k0:zeR→Option (Bool × Unit)):zeR→Option (Bool × Unit):=fun (v0,v5,v6,v7) =>
  bif decide (v7 < v6) then inR v7 ((List.length v5):Int) (Option.bind (zkw (ix qh v5 v7,())) fun q0=>bif q0.1 then some (false,()) else bif (ix qh v5 v7).1 then Option.bind (zkx (v0,(ix qh v5 v7).2.1,(ix qh v5 v7).2.2.2.1,())) fun q1=>bif q1.1 != v7 then some (false,()) else k0 (v0,v5,v6,wI (v7 + 1)) else k0 (v0,v5,v6,wI (v7 + 1))) else some (true,())
abbrev zsM (K:Nat):zeR→Option (Bool × Unit):=zg zeS K
theorem zEm (K:Nat):∀ n,evV Es2 K Tryz.f105 0 (ch [.bool]) [1,0,1,0] [] zEl n = zg zeS n:=zq fun n0 (v0,v5,v6,v7)=>by kernel_rfl
def zpg (L0:zeR→Option (Bool × Unit)):((List qe) × Unit)→Option (Bool × Unit):=fun (x0,()) =>
  L0 (x0,x0,((List.length x0):Int),0)
def zph:((List qe) × Unit)→Option (Bool × Unit):=zpg (zsM K0)
abbrev zw4:Fun:=⟨105,(ch [(.sl zU)]),(ch [.bool]),0,zph⟩
theorem zI6:Sq zw4:=ml2 (d:=false) (S:=fun K=>zpg (zsM K)) Tryz.func105 (by kernel_rfl) (fun K=>tr1 (T:=zpg) (zEm K K) fun (x0,())=>by kernel_rfl) rfl
def zmv:(zx × Unit)→Option (Bool × Unit):=fun (x0,()) =>
  Option.bind (zhw (x0.2.1,())) fun q0=>bif q0.1 then Option.bind (zhw (x0.2.2.1,())) fun q1=>bif q1.1 then bif x0.2.1 != x0.2.2.1 then Option.bind (ziB (x0.2.2.2.1,())) fun q2=>bif q2.1 then Option.bind (ziB (x0.2.2.2.2.1,())) fun q3=>bif q3.1 then Option.bind (zg0 (x0.2.2.2.1,())) fun q4=>bif q4.1 then Option.bind (zg0 (x0.2.2.2.2.1,())) fun q5=>bif q5.1 then some (false,()) else some (true,()) else some (true,()) else some (false,()) else some (false,()) else some (false,()) else some (false,()) else some (false,())
abbrev zyZ:Fun:=⟨188,(ch [zz]),(ch [.bool]),0,zmv⟩
theorem zLl:Sq zyZ:=ms2 (d:=false) (K:=0) Tryz.func188 (by kernel_rfl) (funext fun (x0,())=>by kernel_rfl)
def ziE:(Int × (Int × (Int × Unit)))→Option (Int × (Int × Unit)):=fun (x0,x1,x2,()) =>
  bif x0 != 1 then bif x0 != 2 then some (0,1,()) else bif x1 == 0 then some (0,1,()) else bif x2 == 0 then some (0,1,()) else Option.bind (zg3 (x1,x2,())) fun q0=>bif q0.2.1 != 0 then some (0,q0.2.1,()) else bif x0 == 2 then some (x1,0,()) else some (q0.1,0,()) else bif x1 == 0 then some (0,1,()) else bif x2 == 0 then some (0,1,()) else Option.bind (zg3 (x1,x2,())) fun q1=>bif q1.2.1 != 0 then some (0,q1.2.1,()) else bif x0 == 2 then some (x1,0,()) else some (q1.1,0,())
abbrev zy0:Fun:=⟨279,(ch [tI,tU,tU]),(ch [tU,tI]),0,ziE⟩
theorem zLm:Sq zy0:=ms2 (d:=false) (K:=0) Tryz.func279 (by kernel_rfl) (funext fun (x0,x1,x2,())=>by kernel_rfl)
def zi2:(zJ × (zJ × Unit))→Option (Int × Unit):=fun (x0,x1,()) =>
  Option.bind (yb (x0.1,x1.1,())) fun q0=>Option.bind (zaN (x0.2.1,x1.2.1,())) fun q1=>Option.bind (zej (zm (zm (List.replicate 2 (0:Int)) 0 q0.1) 1 q1.1,())) fun q2=>some (q2.1,())
abbrev zuL:Fun:=⟨193,(ch [zA,zA]),(ch [tI]),0,zi2⟩
theorem zGo:Sq zuL:=ms2 (d:=false) (K:=0) Tryz.func193 (by kernel_rfl) (funext fun (x0,x1,())=>by kernel_rfl)
def zif:((List zu) × ((Option ((zu × Unit)→Option (Bool × Unit))) × Unit))→Option (Bool × Unit):=fun (x0,x1,()) =>
  Option.bind (j9 (x0,some fun z=>zb0 (z.1,some x1,()),())) fun q0=>bif q0.1 then some (false,()) else some (true,())
abbrev znW:Fun:=⟨113,(ch [(.sl zr),(.fn (ch [zr]) (ch [.bool]))]),(ch [.bool]),0,zif⟩
theorem zyl:Sq znW:=ms2 (d:=false) (K:=0) Tryz.func113 (by kernel_rfl) (funext fun (x0,x1,())=>by kernel_rfl)
def zd9:((List zJ) × ((Option ((zJ × Unit)→Option (Bool × Unit))) × Unit))→Option (Bool × Unit):=fun (x0,x1,()) =>
  Option.bind (va (x0,some fun z=>zb1 (z.1,some x1,()),())) fun q0=>bif q0.1 then some (false,()) else some (true,())
abbrev znX:Fun:=⟨117,(ch [(.sl zA),(.fn (ch [zA]) (ch [.bool]))]),(ch [.bool]),0,zd9⟩
theorem zym:Sq znX:=ms2 (d:=false) (K:=0) Tryz.func117 (by kernel_rfl) (funext fun (x0,x1,())=>by kernel_rfl)
def zav:((List Int) × ((Option ((Int × Unit)→Option (Bool × Unit))) × Unit))→Option (Bool × Unit):=fun (x0,x1,()) =>
  Option.bind (qN (x0,some fun z=>zd5 (z.1,some x1,()),())) fun q0=>bif q0.1 then some (false,()) else some (true,())
abbrev zqD:Fun:=⟨119,(ch [(.sl tI),(.fn (ch [tI]) (ch [.bool]))]),(ch [.bool]),0,zav⟩
theorem zB8:Sq zqD:=ms2 (d:=false) (K:=0) Tryz.func119 (by kernel_rfl) (funext fun (x0,x1,())=>by kernel_rfl)
def ye:(zE × ((Option qW) × ((Option Int) × Unit)))→Option (Bool × Unit):=fun (x0,x1,x2,()) =>
  Option.bind x1 fun q0=>Option.bind (zfW (q0.2.1,x0,())) fun q1=>bif q1.1 then Option.bind x1 fun q2=>Option.bind x2 fun q3=>Option.bind (ziC (q2,x0.1,q3,())) fun q4=>bif q4.1 then some (true,()) else some (false,()) else some (false,())
abbrev zqE:Fun:=⟨199,(ch [zv,(.ptr qp),(.ptr tI)]),(ch [.bool]),0,ye⟩
theorem zB9:Sq zqE:=ms2 (d:=false) (K:=0) Tryz.func199 (by kernel_rfl) (funext fun (x0,x1,x2,())=>by kernel_rfl)
def zjA:((List qe) × ((Option ((qe × Unit)→Option (Bool × Unit))) × Unit))→Option (Bool × Unit):=fun (x0,x1,()) =>
  Option.bind (vq (x0,some fun z=>zct (z.1,some x1,()),())) fun q0=>bif q0.1 then some (false,()) else some (true,())
abbrev zpi:Fun:=⟨122,(ch [(.sl zU),(.fn (ch [zU]) (ch [.bool]))]),(ch [.bool]),0,zjA⟩
theorem zAd:Sq zpi:=ms2 (d:=false) (K:=0) Tryz.func122 (by kernel_rfl) (funext fun (x0,x1,())=>by kernel_rfl)
def yW:((List zh) × ((Option ((zh × Unit)→Option (Bool × Unit))) × Unit))→Option (Bool × Unit):=fun (x0,x1,()) =>
  Option.bind (jy (x0,some fun z=>zcv (z.1,some x1,()),())) fun q0=>bif q0.1 then some (false,()) else some (true,())
abbrev zpj:Fun:=⟨124,(ch [(.sl zi),(.fn (ch [zi]) (ch [.bool]))]),(ch [.bool]),0,yW⟩
theorem zAe:Sq zpj:=ms2 (d:=false) (K:=0) Tryz.func124 (by kernel_rfl) (funext fun (x0,x1,())=>by kernel_rfl)
def zkK:((List zE) × ((Option ((zE × Unit)→Option (Bool × Unit))) × Unit))→Option (Bool × Unit):=fun (x0,x1,()) =>
  Option.bind (vJ (x0,some fun z=>zd6 (z.1,some x1,()),())) fun q0=>bif q0.1 then some (false,()) else some (true,())
abbrev zqF:Fun:=⟨126,(ch [(.sl zv),(.fn (ch [zv]) (ch [.bool]))]),(ch [.bool]),0,zkK⟩
theorem zCa:Sq zqF:=ms2 (d:=false) (K:=0) Tryz.func126 (by kernel_rfl) (funext fun (x0,x1,())=>by kernel_rfl)
def vw:(qr × ((Option qW) × ((Option Int) × Unit)))→Option (Bool × Unit):=fun (x0,x1,x2,()) =>
  bif x0.1 then Option.bind x1 fun q0=>Option.bind x2 fun q1=>Option.bind (ziC (q0,x0.2.1,q1,())) fun q2=>bif q2.1 then Option.bind x1 fun q3=>Option.bind (qX (q3,x0.2.2.1,())) fun q4=>bif q4.1 then Option.bind x1 fun q5=>Option.bind (qX (q5,x0.2.2.2.1,())) fun q6=>bif q6.1 then some (true,()) else some (false,()) else some (false,()) else some (false,()) else some (true,())
abbrev zpk:Fun:=⟨129,(ch [zY,(.ptr qp),(.ptr tI)]),(ch [.bool]),0,vw⟩
theorem zAf:Sq zpk:=ms2 (d:=false) (K:=0) Tryz.func129 (by kernel_rfl) (funext fun (x0,x1,x2,())=>by kernel_rfl)
def yX:((List qr) × ((Option ((qr × Unit)→Option (Bool × Unit))) × Unit))→Option (Bool × Unit):=fun (x0,x1,()) =>
  Option.bind (jz (x0,some fun z=>zcx (z.1,some x1,()),())) fun q0=>bif q0.1 then some (false,()) else some (true,())
abbrev zpl:Fun:=⟨128,(ch [(.sl zY),(.fn (ch [zY]) (ch [.bool]))]),(ch [.bool]),0,yX⟩
theorem zAg:Sq zpl:=ms2 (d:=false) (K:=0) Tryz.func128 (by kernel_rfl) (funext fun (x0,x1,())=>by kernel_rfl)
def qO:((List zx) × ((Option ((zx × Unit)→Option (Bool × Unit))) × Unit))→Option (Bool × Unit):=fun (x0,x1,()) =>
  Option.bind (jk (x0,some fun z=>zb2 (z.1,some x1,()),())) fun q0=>bif q0.1 then some (false,()) else some (true,())
abbrev znY:Fun:=⟨131,(ch [(.sl zz),(.fn (ch [zz]) (ch [.bool]))]),(ch [.bool]),0,qO⟩
theorem zyn:Sq znY:=ms2 (d:=false) (K:=0) Tryz.func131 (by kernel_rfl) (funext fun (x0,x1,())=>by kernel_rfl)
abbrev yL:Type:=(Option zcq) × Int × Int × List Int
abbrev zvJ:yL→St:=fun (v0,v12,v13,o0)=>St.mk [(0,.dat (.ptr vV) v0),(3,.ow 0),(12,.dat tI v12),(13,.dat tI v13)] [.row tI o0 false]
def yM (k0:yL→Option ((List Int) × Unit)):yL→Option ((List Int) × Unit):=fun (v0,v12,v13,o0) =>
  bif decide (v13 < v12) then Option.bind (yc (v0,v13,())) fun q2=>bif q2.1 then bif decide (List.length o0 + List.length (zm (List.replicate 1 (0:Int)) 0 v13) ≤ lim) then k0 (v0,v12,wI (v13 + 1),o0 ++ zm (List.replicate 1 (0:Int)) 0 v13) else none else k0 (v0,v12,wI (v13 + 1),o0) else some (o0,())
abbrev zlJ (K:Nat):yL→Option ((List Int) × Unit):=zg yM K
theorem zvK (K:Nat):∀ n,evV Es2 K Tryz.f136 0 (ch [(.sl tI)]) [1,1,1,0,1,0] [] zvJ n = zg yM n:=zq fun n0 (v0,v12,v13,o0)=>by kernel_rfl
def zig (L0:yL→Option ((List Int) × Unit)):((Option zcq) × Unit)→Option ((List Int) × Unit):=fun (x0,()) =>
  Option.bind (zfA (x0,())) fun q0=>bif q0.1 then Option.bind x0 fun q1=>L0 (x0,((List.length q1.1):Int),0,[]) else some ([],())
def zea:((Option zcq) × Unit)→Option ((List Int) × Unit):=zig (zlJ K0)
abbrev znZ:Fun:=⟨136,(ch [(.ptr vV)]),(ch [(.sl tI)]),0,zea⟩
theorem zyo:Sq znZ:=ml2 (d:=false) (S:=fun K=>zig (zlJ K)) Tryz.func136 (by kernel_rfl) (fun K=>tr1 (T:=zig) (zvK K K) fun (x0,())=>by kernel_rfl) rfl
def zoa:((List zu) × Unit)→Option ((Option zfq) × Unit):=fun (x0,()) =>
  Option.bind (zju (x0,some zkp,())) fun q0=>some (q0.1,())
abbrev zCb:Fun:=⟨319,(ch [(.sl zr)]),(ch [(.ptr y8)]),0,zoa⟩
theorem zNs:Sq zCb:=ms2 (d:=false) (K:=0) Tryz.func319 (by kernel_rfl) (funext fun (x0,())=>by kernel_rfl)
abbrev yN:Type:=(Option zfq) × Int × Int × List Int
abbrev zvL:yN→St:=fun (v0,v12,v13,o0)=>St.mk [(0,.dat (.ptr y8) v0),(3,.ow 0),(12,.dat tI v12),(13,.dat tI v13)] [.row tI o0 false]
def yO (k0:yN→Option ((List Int) × Unit)):yN→Option ((List Int) × Unit):=fun (v0,v12,v13,o0) =>
  bif decide (v13 < v12) then Option.bind (zgD (v0,v13,())) fun q2=>bif q2.1 then bif decide (List.length o0 + List.length (zm (List.replicate 1 (0:Int)) 0 v13) ≤ lim) then k0 (v0,v12,wI (v13 + 1),o0 ++ zm (List.replicate 1 (0:Int)) 0 v13) else none else k0 (v0,v12,wI (v13 + 1),o0) else some (o0,())
abbrev zlK (K:Nat):yN→Option ((List Int) × Unit):=zg yO K
theorem zvM (K:Nat):∀ n,evV Es2 K Tryz.f320 0 (ch [(.sl tI)]) [1,1,1,0,1,0] [] zvL n = zg yO n:=zq fun n0 (v0,v12,v13,o0)=>by kernel_rfl
def zih (L0:yN→Option ((List Int) × Unit)):((Option zfq) × Unit)→Option ((List Int) × Unit):=fun (x0,()) =>
  Option.bind (zfB (x0,())) fun q0=>bif q0.1 then Option.bind x0 fun q1=>L0 (x0,((List.length q1.1):Int),0,[]) else some ([],())
def zii:((Option zfq) × Unit)→Option ((List Int) × Unit):=zih (zlK K0)
abbrev zn0:Fun:=⟨320,(ch [(.ptr y8)]),(ch [(.sl tI)]),0,zii⟩
theorem zyp:Sq zn0:=ml2 (d:=false) (S:=fun K=>zih (zlK K)) Tryz.func320 (by kernel_rfl) (fun K=>tr1 (T:=zih) (zvM K K) fun (x0,())=>by kernel_rfl) rfl
def zmw:((List zx) × Unit)→Option ((Option zcq) × Unit):=fun (x0,()) =>
  Option.bind (yT (x0,some ziS,())) fun q0=>some (q0.1,())
abbrev zy1:Fun:=⟨290,(ch [(.sl zz)]),(ch [(.ptr vV)]),0,zmw⟩
theorem zLn:Sq zy1:=ms2 (d:=false) (K:=0) Tryz.func290 (by kernel_rfl) (funext fun (x0,())=>by kernel_rfl)
abbrev zbC:Type:=Int × (Option ((zp × Unit)→Option ((List Int) × Unit))) × (List zp) × Int × Int × List Int
abbrev zAh:zbC→St:=fun (v1,v2,v12,v13,v14,o0)=>St.mk [(1,.dat tI v1),(2,.dat (.fn (.pair zy .unit) (.pair (.arr 4 tU) .unit)) v2),(8,.ow 0),(12,.dat (.sl zy) v12),(13,.dat tI v13),(14,.dat tI v14)] [.row tU o0 false]
def zbD (k0:zbC→Option (Int × (Int × Unit))):zbC→Option (Int × (Int × Unit)):=fun (v1,v2,v12,v13,v14,o0) =>
  bif decide (v14 < v13) then inR v14 ((List.length v12):Int) (Option.bind v2 fun q0=>Option.bind (q0 (ix ze v12 v14,())) fun q1=>inR v1 (↑4:Int) (bif decide (List.length o0 + List.length (zm (List.replicate 1 (0:Int)) 0 (ix (0:Int) q1.1 v1)) ≤ lim) then k0 (v1,v2,v12,v13,wI (v14 + 1),o0 ++ zm (List.replicate 1 (0:Int)) 0 (ix (0:Int) q1.1 v1)) else none)) else Option.bind (zhB (o0,())) fun q2=>some (q2.1,q2.2.1,())
abbrev zpm (K:Nat):zbC→Option (Int × (Int × Unit)):=zg zbD K
theorem zAi (K:Nat):∀ n,evV Es2 K Tryz.f212 0 (ch [tU,tI]) [1,1,0,1,0] [] zAh n = zg zbD n:=zq fun n0 (v1,v2,v12,v13,v14,o0)=>by kernel_rfl
def zl3 (L0:zbC→Option (Int × (Int × Unit))):(zb × (Int × ((Option ((zp × Unit)→Option ((List Int) × Unit))) × Unit)))→Option (Int × (Int × Unit)):=fun (x0,x1,x2,()) =>
  L0 (x1,x2,x0.2.1,((List.length x0.2.1):Int),0,[])
def zhJ:(zb × (Int × ((Option ((zp × Unit)→Option ((List Int) × Unit))) × Unit)))→Option (Int × Int × Unit):=zl3 (zpm K0)
abbrev zsN:Fun:=⟨212,(ch [zo,tI,(.fn (ch [zy]) (ch [(.arr 4 tU)]))]),(ch [tU,tI]),0,zhJ⟩
theorem zEn:Sq zsN:=ml2 (d:=false) (S:=fun K=>zl3 (zpm K)) Tryz.func212 (by kernel_rfl) (fun K=>tr1 (T:=zl3) (zAi K K) fun (x0,x1,x2,())=>by kernel_rfl) rfl
def zdV:((List zh) × Unit)→Option ((Option zcr) × Unit):=fun (x0,()) =>
  Option.bind (zky (x0,some qT,())) fun q0=>some (q0.1,())
abbrev zy2:Fun:=⟨155,(ch [(.sl zi)]),(ch [(.ptr yn)]),0,zdV⟩
theorem zLo:Sq zy2:=ms2 (d:=false) (K:=0) Tryz.func155 (by kernel_rfl) (funext fun (x0,())=>by kernel_rfl)
def zhK:((Option zcr) × (zh × Unit))→Option ((List zh) × (Int × (Int × Unit))):=fun (x0,x1,()) =>
  Option.bind (zfG (x0,())) fun q0=>bif q0.2.1 != 0 then some ([],0,q0.2.1,()) else Option.bind (zba (x0,q0.1,x1,())) fun q1=>some (q1.1,q0.1,q1.2.1,())
abbrev zsO:Fun:=⟨156,(ch [(.ptr yn),zi]),(ch [(.sl zi),tI,tI]),0,zhK⟩
theorem zEo:Sq zsO:=ms2 (d:=false) (K:=0) Tryz.func156 (by kernel_rfl) (funext fun (x0,x1,())=>by kernel_rfl)
abbrev zcU:Type:=Int × zf
abbrev zCc:zcU→St:=fun (v3,o0)=>St.mk [(1,.bp 0 []),(3,.dat tI v3)] [.bx (.dat zw o0) false]
def zgE (k0:zcU→Option (Bool × Unit)):zcU→Option (Bool × Unit):=fun (v3,o0) =>
  bif decide (v3 < ((List.length o0.2.1):Int)) then inR v3 ((List.length o0.2.1):Int) (bif decide (ix (0:Int) o0.2.1 v3 < 0) then some (false,()) else inR v3 ((List.length o0.2.1):Int) (bif decide (ix (0:Int) o0.2.1 v3 ≥ ((List.length o0.1):Int)) then some (false,()) else k0 (wI (v3 + 1),o0))) else bif ((List.length o0.2.2.2.2.1):Int) != ((List.length o0.1):Int) then some (false,()) else Option.bind (zl0 (o0.2.2.2.2.1,())) fun q3=>bif q3.1 then bif decide (o0.2.2.2.2.2.1 ≥ 0) then bif decide (o0.2.2.2.2.2.1 ≤ 24) then bif decide (o0.2.2.2.2.2.2.1 ≥ 0) then bif decide (o0.2.2.2.2.2.2.1 ≤ 48) then bif decide (o0.2.2.2.2.2.2.2.1 ≥ 1) then bif decide (o0.2.2.2.2.2.2.2.1 ≤ 4) then bif decide (o0.2.2.2.2.2.2.2.2.1 ≥ 1) then bif decide (o0.2.2.2.2.2.2.2.2.1 ≤ 16) then some (true,()) else some (false,()) else some (false,()) else some (false,()) else some (false,()) else some (false,()) else some (false,()) else some (false,()) else some (false,()) else some (false,())
abbrev zkL (K:Nat):zcU→Option (Bool × Unit):=zg zgE K
theorem zCd (K:Nat):∀ n,evV Es2 K Tryz.f160 0 (ch [.bool]) [1,1,0,1,0] [] zCc n = zg zgE n:=zq fun n0 (v3,o0)=>by kernel_rfl
def zi3 (L0:zcU→Option (Bool × Unit)):(zf × Unit)→Option (Bool × Unit):=fun (x0,()) =>
  Option.bind (zhE (x0.1,())) fun q0=>bif q0.1 then bif decide (((List.length x0.2.1):Int) < 1) then some (false,()) else bif decide (((List.length x0.2.1):Int) > 8) then some (false,()) else Option.bind (zfJ (x0.2.2.1,())) fun q1=>bif q1.1 then Option.bind (zhG (x0.2.2.2.1,x0.1,((List.length x0.2.2.1):Int),())) fun q2=>bif q2.1 then L0 (0,x0) else some (false,()) else some (false,()) else some (false,())
def zf5:(zf × Unit)→Option (Bool × Unit):=zi3 (zkL K0)
abbrev zuM:Fun:=⟨160,(ch [zw]),(ch [.bool]),0,zf5⟩
theorem zGp:Sq zuM:=ml2 (d:=false) (S:=fun K=>zi3 (zkL K)) Tryz.func160 (by kernel_rfl) (fun K=>tr1 (T:=zi3) (zCd K K) fun (x0,())=>by kernel_rfl) rfl
end
end Go.Proofs.YtejbgeokcpillaaGreatDoor
end
section
namespace Go.Proofs.YtejbgeokcpillaaGreatDoor
open Go.Ev
noncomputable section
def ziF:(zu × Unit)→Option (Bool × Unit):=fun (x0,()) =>
  Option.bind (zg7 (x0.2.2.2.1,x0.2.2.2.2.2.2.2.1,x0.2.2.2.2.2.2.1,())) fun q0=>bif decide (x0.2.2.2.2.1 ≥ 0) then bif decide (x0.2.2.2.2.1 < 4) then bif decide (x0.2.2.2.2.2.1 ≥ 0) then bif decide (x0.2.2.2.2.2.1 < 4) then bif x0.2.2.2.2.1 != x0.2.2.2.2.2.1 then bif q0.2.1 == 0 then bif x0.2.2.2.2.2.2.2.2.1 == q0.1 then Option.bind (ziw (x0.2.1,())) fun q1=>bif q1.1 then Option.bind (ziw (x0.2.2.1,())) fun q2=>bif q2.1 then bif decide (x0.2.2.2.2.2.2.2.2.2.1 ≥ 0) then some (true,()) else some (false,()) else some (false,()) else some (false,()) else some (false,()) else some (false,()) else bif q0.2.1 == 0 then bif x0.2.2.2.2.2.2.2.2.1 == q0.1 then some (false,()) else some (false,()) else some (false,()) else bif q0.2.1 == 0 then bif x0.2.2.2.2.2.2.2.2.1 == q0.1 then some (false,()) else some (false,()) else some (false,()) else bif q0.2.1 == 0 then bif x0.2.2.2.2.2.2.2.2.1 == q0.1 then some (false,()) else some (false,()) else some (false,()) else bif q0.2.1 == 0 then bif x0.2.2.2.2.2.2.2.2.1 == q0.1 then some (false,()) else some (false,()) else some (false,()) else bif q0.2.1 == 0 then bif x0.2.2.2.2.2.2.2.2.1 == q0.1 then some (false,()) else some (false,()) else some (false,())
abbrev zy3:Fun:=⟨302,(ch [zr]),(ch [.bool]),0,ziF⟩
theorem zLp:Sq zy3:=ms2 (d:=false) (K:=0) Tryz.func302 (by kernel_rfl) (funext fun (x0,())=>by kernel_rfl)
def zmx:(zJ × Unit)→Option (Bool × Unit):=fun (x0,()) =>
  bif decide (x0.1 > 4611686018427387904) then some (false,()) else Option.bind (zdT (x0.2.1,())) fun q0=>bif q0.1 then Option.bind (zdT (x0.2.2.1,())) fun q1=>bif q1.1 then Option.bind (zdT (x0.2.2.2.1,())) fun q2=>bif q2.1 then bif x0.2.2.2.2.1 == 3 then Option.bind (zdT (x0.2.2.2.2.2.2.2.2.2.1,())) fun q3=>bif q3.1 then bif x0.2.2.2.2.2.1 == 0 then bif x0.2.2.2.2.2.2.1 == 0 then bif x0.2.2.2.2.2.2.2.1 == 0 then bif x0.2.2.2.2.2.2.2.2.1 == 0 then some (true,()) else some (false,()) else some (false,()) else some (false,()) else some (false,()) else some (false,()) else Option.bind (zg7 (x0.2.2.2.2.1,x0.2.2.2.2.2.2.2.1,x0.2.2.2.2.2.2.2.2.1,())) fun q4=>bif q4.2.1 == 0 then bif x0.2.2.2.2.2.2.2.2.2.1 == 0 then bif decide (x0.2.2.2.2.2.1 ≥ 0) then bif decide (x0.2.2.2.2.2.1 < 4) then bif decide (x0.2.2.2.2.2.2.1 ≥ 0) then bif decide (x0.2.2.2.2.2.2.1 < 4) then bif x0.2.2.2.2.2.1 != x0.2.2.2.2.2.2.1 then some (true,()) else some (false,()) else some (false,()) else some (false,()) else some (false,()) else some (false,()) else some (false,()) else some (false,()) else some (false,()) else some (false,()) else some (false,())
abbrev zy4:Fun:=⟨304,(ch [zA]),(ch [.bool]),0,zmx⟩
theorem zLq:Sq zy4:=ms2 (d:=false) (K:=0) Tryz.func304 (by kernel_rfl) (funext fun (x0,())=>by kernel_rfl)
abbrev zcV:Type:=(List qr) × Int
abbrev zCe:zcV→St:=fun (v0,v3)=>St.mk [(0,.dat (.sl zY) v0),(3,.dat tI v3)] []
def zcW (k0:zcV→Option (Bool × Unit)):zcV→Option (Bool × Unit):=fun (v0,v3) =>
  bif decide (v3 < ((List.length v0):Int)) then inR v3 ((List.length v0):Int) (bif (ix zaS v0 v3).1 then Option.bind (zgi ((ix zaS v0 v3).2.1,())) fun q0=>bif q0.1 then Option.bind (zgi ((ix zaS v0 v3).2.2.1,())) fun q1=>bif q1.1 then Option.bind (zgi ((ix zaS v0 v3).2.2.2.1,())) fun q2=>bif q2.1 then Option.bind (zkA ((ix zaS v0 v3).2.2.2.2.1,())) fun q3=>bif q3.1 then bif (ix zaS v0 v3).1 then k0 (v0,wI (v3 + 1)) else bif !eqI zY (ix zaS v0 v3) (zd zY) then some (false,()) else k0 (v0,wI (v3 + 1)) else some (false,()) else some (false,()) else some (false,()) else some (false,()) else bif (ix zaS v0 v3).1 then k0 (v0,wI (v3 + 1)) else bif !eqI zY (ix zaS v0 v3) (zd zY) then some (false,()) else k0 (v0,wI (v3 + 1))) else some (true,())
abbrev zqG (K:Nat):zcV→Option (Bool × Unit):=zg zcW K
theorem zCf (K:Nat):∀ n,evV Es2 K Tryz.f243 0 (ch [.bool]) [1,0,1,0] [] zCe n = zg zcW n:=zq fun n0 (v0,v3)=>by kernel_rfl
def znn (L0:zcV→Option (Bool × Unit)):((List qr) × Unit)→Option (Bool × Unit):=fun (x0,()) =>
  L0 (x0,0)
def zno:((List qr) × Unit)→Option (Bool × Unit):=znn (zqG K0)
abbrev zuN:Fun:=⟨243,(ch [(.sl zY)]),(ch [.bool]),0,zno⟩
theorem zGq:Sq zuN:=ml2 (d:=false) (S:=fun K=>znn (zqG K)) Tryz.func243 (by kernel_rfl) (fun K=>tr1 (T:=znn) (zCf K K) fun (x0,())=>by kernel_rfl) rfl
abbrev zcX:Type:=(List zx) × Int
abbrev zCg:zcX→St:=fun (v0,v3)=>St.mk [(0,.dat (.sl zz) v0),(3,.dat tI v3)] []
def zcY (k0:zcX→Option (Bool × Unit)):zcX→Option (Bool × Unit):=fun (v0,v3) =>
  bif decide (v3 < ((List.length v0):Int)) then inR v3 ((List.length v0):Int) (bif (ix zR v0 v3).1 then inR v3 ((List.length v0):Int) (Option.bind (zkB (ix zR v0 v3,())) fun q0=>bif q0.1 then inR v3 ((List.length v0):Int) (bif (ix zR v0 v3).1 then k0 (v0,wI (v3 + 1)) else inR v3 ((List.length v0):Int) (bif !eqI zz (ix zR v0 v3) (zd zz) then some (false,()) else k0 (v0,wI (v3 + 1)))) else some (false,())) else inR v3 ((List.length v0):Int) (bif (ix zR v0 v3).1 then k0 (v0,wI (v3 + 1)) else inR v3 ((List.length v0):Int) (bif !eqI zz (ix zR v0 v3) (zd zz) then some (false,()) else k0 (v0,wI (v3 + 1))))) else some (true,())
abbrev zqH (K:Nat):zcX→Option (Bool × Unit):=zg zcY K
theorem zCh (K:Nat):∀ n,evV Es2 K Tryz.f244 0 (ch [.bool]) [1,0,1,0] [] zCg n = zg zcY n:=zq fun n0 (v0,v3)=>by kernel_rfl
def znp (L0:zcX→Option (Bool × Unit)):((List zx) × Unit)→Option (Bool × Unit):=fun (x0,()) =>
  L0 (x0,0)
def znq:((List zx) × Unit)→Option (Bool × Unit):=znp (zqH K0)
abbrev zuO:Fun:=⟨244,(ch [(.sl zz)]),(ch [.bool]),0,znq⟩
theorem zGr:Sq zuO:=ml2 (d:=false) (S:=fun K=>znp (zqH K)) Tryz.func244 (by kernel_rfl) (fun K=>tr1 (T:=znp) (zCh K K) fun (x0,())=>by kernel_rfl) rfl
def zgj:(zf × (Int × (Int × Unit)))→Option (Bool × Unit):=fun (x0,x1,x2,()) =>
  bif decide (x1 ≥ 0) then bif decide (x2 ≥ 0) then bif decide (x1 < ((List.length x0.1):Int)) then bif decide (x2 < ((List.length x0.1):Int)) then inR x1 ((List.length x0.1):Int) (inR x2 ((List.length x0.1):Int) (Option.bind (zrH (ix jh x0.1 x1,ix jh x0.1 x2,())) fun q0=>bif q0.1 then some (true,()) else some (false,()))) else some (false,()) else some (false,()) else some (false,()) else some (false,())
abbrev zy5:Fun:=⟨55,(ch [zw,tI,tI]),(ch [.bool]),0,zgj⟩
theorem zLr:Sq zy5:=ms2 (d:=false) (K:=0) Tryz.func55 (by kernel_rfl) (funext fun (x0,x1,x2,())=>by kernel_rfl)
abbrev zeT:Type:=Int × Int × Int × Int × zb
abbrev zsP:zeT→St:=fun (v1,v6,v8,v11,o0)=>St.mk [(1,.dat tI v1),(2,.bp 0 []),(6,.dat tU v6),(8,.dat tI v8),(11,.dat tI v11)] [.bx (.dat zo o0) false]
abbrev yY:Type:=Int × Int × Int × zb
abbrev zsQ:yY→St:=fun (v1,v6,v8,o0)=>St.mk [(1,.dat tI v1),(2,.bp 0 []),(6,.dat tU v6),(8,.dat tI v8)] [.bx (.dat zo o0) false]
def zeU (k0:yY→Option (Int × (Int × Unit))) (k1:zeT→Option (Int × (Int × Unit))):zeT→Option (Int × (Int × Unit)):=fun (v1,v6,v8,v11,o0) =>
  inR v8 ((List.length o0.2.1):Int) (bif decide (v11 < ((List.length (ix ze o0.2.1 v8).2.2.2.2.2.1):Int)) then inR v8 ((List.length o0.2.1):Int) (inR v11 ((List.length (ix ze o0.2.1 v8).2.2.2.2.2.1):Int) (inR v1 (↑4:Int) (Option.bind (vZ (v6,List.getD (List.getD (ix ze o0.2.1 v8).2.2.2.2.2.1 (Int.toNat v11) (zd (.arr 4 tU))) (Int.toNat v1) (0:Int),())) fun q3=>bif q3.2.1 != 0 then some (0,q3.2.1,()) else k1 (v1,q3.1,v8,wI (v11 + 1),o0)))) else k0 (v1,v6,wI (v8 + 1),o0))
abbrev zeV (K:Nat) (k0:yY→Option (Int × (Int × Unit))):zeT→Option (Int × (Int × Unit)):=zg (fun k1=>zeU k0 k1) K
theorem zEp (K:Nat) (n0:Nat):∀ n,evV Es2 K Tryz.f164 0 (ch [tU,tI]) [1,1,1,0,1,0,0,1,0,0,1,1,1,1,1,0] [n0] zsP n = zg (fun k1=>zeU (evV Es2 K Tryz.f164 0 (ch [tU,tI]) [1,1,1,0,1,0] [] zsQ n0) k1) n:=zq fun n1 (v1,v6,v8,v11,o0)=>by kernel_rfl
def zbd (L1:zeT→Option (Int × (Int × Unit))) (k0:yY→Option (Int × (Int × Unit))):yY→Option (Int × (Int × Unit)):=fun (v1,v6,v8,o0) =>
  bif decide (v8 < ((List.length o0.2.1):Int)) then inR v8 ((List.length o0.2.1):Int) (Option.bind (zkG ((ix ze o0.2.1 v8).2.2.2.2.1,v1,())) fun q1=>bif q1.2.1 != 0 then some (0,q1.2.1,()) else Option.bind (vZ (v6,q1.1,())) fun q2=>bif q2.2.1 != 0 then some (0,q2.2.1,()) else L1 (v1,q2.1,v8,0,o0)) else some (v6,0,())
abbrev zsR (K:Nat):yY→Option (Int × (Int × Unit)):=zg (fun k0=>zbd (zeV K k0) k0) K
theorem zEq (K:Nat):∀ n,evV Es2 K Tryz.f164 0 (ch [tU,tI]) [1,1,1,0,1,0] [] zsQ n = zg (fun k0=>zbd (zeV K k0) k0) n:=qu (B:=fun L1 k0=>zbd L1 k0) (V1:=fun n0=>evV Es2 K Tryz.f164 0 (ch [tU,tI]) [1,1,1,0,1,0,0,1,0,0,1,1,1,1,1,0] [n0] zsP K) (W1:=fun k0=>(zeV K k0)) (fun n0=>zEp K n0 K) fun n0 (v1,v6,v8,o0)=>by kernel_rfl
def zkM (L0:yY→Option (Int × (Int × Unit))):(zb × (Int × Unit))→Option (Int × (Int × Unit)):=fun (x0,x1,()) =>
  Option.bind (zkE (x0.2.2.2.1,x1,())) fun q0=>bif q0.2.1 != 0 then some (0,q0.2.1,()) else L0 (x1,q0.1,0,x0)
def zkN:(zb × Int × Unit)→Option (Int × Int × Unit):=zkM (zsR K0)
abbrev zw5:Fun:=⟨164,(ch [zo,tI]),(ch [tU,tI]),0,zkN⟩
theorem zI7:Sq zw5:=ml2 (d:=false) (S:=fun K=>zkM (zsR K)) Tryz.func164 (by kernel_rfl) (fun K=>tr1 (T:=zkM) (zEq K K) fun (x0,x1,())=>by kernel_rfl) rfl
abbrev zeW:Type:=(List zh) × ByteArray × Int × Int
abbrev zEr:zeW→St:=fun (v0,v1,v2,v9)=>St.mk [(0,.dat (.sl zi) v0),(1,.dat .str v1),(2,.dat tI v2),(9,.dat tI v9)] []
def zeX (k0:zeW→Option ((List zh) × (Int × (Int × Unit)))):zeW→Option ((List zh) × (Int × (Int × Unit))):=fun (v0,v1,v2,v9) =>
  bif decide (v9 < ((List.length v0):Int)) then inR v9 ((List.length v0):Int) (bif (ix zj v0 v9).1 then k0 (v0,v1,v2,wI (v9 + 1)) else Option.bind (za5 (v0,v9,(true,v1,1,v2,(zd zi).2.2.2.2),())) fun q3=>some (q3.1,v9,0,())) else some ([],0,8,())
abbrev zsS (K:Nat):zeW→Option ((List zh) × (Int × (Int × Unit))):=zg zeX K
theorem zEs (K:Nat):∀ n,evV Es2 K Tryz.f41 0 (ch [(.sl zi),tI,tI]) [1,1,1,0,1,0] [] zEr n = zg zeX n:=zq fun n0 (v0,v1,v2,v9)=>by kernel_rfl
def zkO (L0:zeW→Option ((List zh) × (Int × (Int × Unit)))):((List zh) × (ByteArray × (Int × Unit)))→Option ((List zh) × (Int × (Int × Unit))):=fun (x0,x1,x2,()) =>
  Option.bind (yr (x0,())) fun q0=>bif q0.1 then Option.bind (vo (x2,())) fun q1=>bif q1.1 then Option.bind (zH (x1,())) fun q2=>bif q2.1 then L0 (x0,x1,x2,0) else some ([],0,2,()) else some ([],0,1,()) else some ([],0,1,())
def zkP:((List zh) × ByteArray × Int × Unit)→Option ((List zh) × Int × Int × Unit):=zkO (zsS K0)
abbrev zw6:Fun:=⟨41,(ch [(.sl zi),.str,tI]),(ch [(.sl zi),tI,tI]),0,zkP⟩
theorem zI8:Sq zw6:=ml2 (d:=false) (S:=fun K=>zkO (zsS K)) Tryz.func41 (by kernel_rfl) (fun K=>tr1 (T:=zkO) (zEs K K) fun (x0,x1,x2,())=>by kernel_rfl) rfl
def zi4:((List zh) × (Int × (Int × Unit)))→Option ((List zh) × (Int × Unit)):=fun (x0,x1,x2,()) =>
  Option.bind (yr (x0,())) fun q0=>bif q0.1 then Option.bind (vo (x2,())) fun q1=>bif q1.1 then Option.bind (vI (x0,x1,x2,())) fun q2=>bif q2.1 then Option.bind (za5 (x0,x1,zd zi,())) fun q3=>some (q3.1,0,()) else some ([],3,()) else some ([],1,()) else some ([],1,())
abbrev zuP:Fun:=⟨42,(ch [(.sl zi),tI,tI]),(ch [(.sl zi),tI]),0,zi4⟩
theorem zGs:Sq zuP:=ms2 (d:=false) (K:=0) Tryz.func42 (by kernel_rfl) (funext fun (x0,x1,x2,())=>by kernel_rfl)
def zkQ:((List zh) × (Int × (Int × (zE × Unit))))→Option ((List zh) × (Int × Unit)):=fun (x0,x1,x2,x3,()) =>
  Option.bind (yr (x0,())) fun q0=>bif q0.1 then Option.bind (vo (x2,())) fun q1=>bif q1.1 then Option.bind (qx (x3,())) fun q2=>bif q2.1 then Option.bind (vI (x0,x1,x2,())) fun q3=>bif q3.1 then inR x1 ((List.length x0):Int) (Option.bind (za5 (x0,x1,(true,(ix zj x0 x1).2.1,2,(zd zi).2.2.2.1,x3,(zd zi).2.2.2.2.2),())) fun q4=>some (q4.1,0,())) else some ([],3,()) else some ([],1,()) else some ([],1,()) else some ([],1,())
abbrev zw7:Fun:=⟨43,(ch [(.sl zi),tI,tI,zv]),(ch [(.sl zi),tI]),0,zkQ⟩
theorem zI9:Sq zw7:=ms2 (d:=false) (K:=0) Tryz.func43 (by kernel_rfl) (funext fun (x0,x1,x2,x3,())=>by kernel_rfl)
def zkR:((List zh) × (Int × (Int × (zE × Unit))))→Option ((List zh) × (Int × Unit)):=fun (x0,x1,x2,x3,()) =>
  Option.bind (yr (x0,())) fun q0=>bif q0.1 then Option.bind (vo (x2,())) fun q1=>bif q1.1 then Option.bind (qx (x3,())) fun q2=>bif q2.1 then bif decide (x1 < 0) then some ([],3,()) else bif decide (x1 ≥ ((List.length x0):Int)) then some ([],3,()) else inR x1 ((List.length x0):Int) (bif (ix zj x0 x1).1 then inR x1 ((List.length x0):Int) (bif (ix zj x0 x1).2.2.1 != 2 then some ([],3,()) else inR x1 ((List.length x0):Int) (bif !eqI zv (ix zj x0 x1).2.2.2.2.1 x3 then some ([],3,()) else inR x1 ((List.length x0):Int) (Option.bind (za5 (x0,x1,(true,(ix zj x0 x1).2.1,1,x2,(zd zi).2.2.2.2),())) fun q3=>some (q3.1,0,())))) else some ([],3,())) else some ([],1,()) else some ([],1,()) else some ([],1,())
abbrev zw8:Fun:=⟨45,(ch [(.sl zi),tI,tI,zv]),(ch [(.sl zi),tI]),0,zkR⟩
theorem zJa:Sq zw8:=ms2 (d:=false) (K:=0) Tryz.func45 (by kernel_rfl) (funext fun (x0,x1,x2,x3,())=>by kernel_rfl)
def zkS:((List zh) × (Int × (Int × (Int × (Int × Unit)))))→Option ((List zh) × (Int × Unit)):=fun (x0,x1,x2,x3,x4,()) =>
  Option.bind (yr (x0,())) fun q0=>bif q0.1 then Option.bind (vo (x2,())) fun q1=>bif q1.1 then Option.bind (vo (x4,())) fun q2=>bif q2.1 then Option.bind (vI (x0,x1,x2,())) fun q3=>bif q3.1 then inR x1 ((List.length x0):Int) (Option.bind (za5 (x0,x1,(true,(ix zj x0 x1).2.1,x3,x4,(zd zi).2.2.2.2),())) fun q4=>some (q4.1,0,())) else some ([],3,()) else some ([],1,()) else some ([],1,()) else some ([],1,())
abbrev zw9:Fun:=⟨47,(ch [(.sl zi),tI,tI,tI,tI]),(ch [(.sl zi),tI]),0,zkS⟩
theorem zJb:Sq zw9:=ms2 (d:=false) (K:=0) Tryz.func47 (by kernel_rfl) (funext fun (x0,x1,x2,x3,x4,())=>by kernel_rfl)
def zkT:((List zh) × (Int × Unit))→Option ((List Int) × Unit):=fun (x0,x1,()) =>
  Option.bind (j4 (x1,())) fun q0=>Option.bind (zi1 (x0,q0.1,())) fun q1=>some (q1.1,())
abbrev zxa:Fun:=⟨49,(ch [(.sl zi),tI]),(ch [(.sl tI)]),0,zkT⟩
theorem zJc:Sq zxa:=ms2 (d:=false) (K:=0) Tryz.func49 (by kernel_rfl) (funext fun (x0,x1,())=>by kernel_rfl)
def zi5:((List zh) × (zE × Unit))→Option ((List Int) × Unit):=fun (x0,x1,()) =>
  Option.bind (zer (x1,())) fun q0=>Option.bind (zi1 (x0,q0.1,())) fun q1=>some (q1.1,())
abbrev zuQ:Fun:=⟨53,(ch [(.sl zi),zv]),(ch [(.sl tI)]),0,zi5⟩
theorem zGt:Sq zuQ:=ms2 (d:=false) (K:=0) Tryz.func53 (by kernel_rfl) (funext fun (x0,x1,())=>by kernel_rfl)
abbrev zeY:Type:=Int × zb × zb
abbrev zsT:zeY→St:=fun (v6,o0,o1)=>St.mk [(2,.bp 0 []),(3,.bp 1 []),(6,.dat tI v6)] [.bx (.dat zo o0) false,.bx (.dat zo o1) false]
abbrev zeZ:Type:=Int × zb × zb
abbrev zEt:zeZ→St:=fun (v5,o0,o1)=>St.mk [(2,.bp 0 []),(3,.bp 1 []),(5,.dat tI v5)] [.bx (.dat zo o0) false,.bx (.dat zo o1) false]
def ze0 (k1:zeY→Option (Bool × Unit)):zeY→Option (Bool × Unit):=fun (v6,o0,o1) =>
  bif decide (v6 < ((List.length o0.2.2.2.2.2.1):Int)) then inR v6 ((List.length o0.2.2.2.2.2.1):Int) (inR v6 ((List.length o1.2.2.2.2.2.1):Int) (bif ix (0:Int) o0.2.2.2.2.2.1 v6 != ix (0:Int) o1.2.2.2.2.2.1 v6 then some (false,()) else k1 (wI (v6 + 1),o0,o1))) else some (true,())
abbrev zhL (K:Nat):zeY→Option (Bool × Unit):=zg ze0 K
theorem zEu (K:Nat):∀ n,evV Es2 K Tryz.f14 0 (ch [.bool]) [1,1,1,0,1,0] [] zsT n = zg ze0 n:=zq fun n1 (v6,o0,o1)=>by kernel_rfl
def zbe (L1:zeY→Option (Bool × Unit)) (k0:zeZ→Option (Bool × Unit)):zeZ→Option (Bool × Unit):=fun (v5,o0,o1) =>
  bif decide (v5 < ((List.length o0.2.1):Int)) then inR v5 ((List.length o0.2.1):Int) (inR v5 ((List.length o1.2.1):Int) (Option.bind (zd8 (ix ze o0.2.1 v5,ix ze o1.2.1 v5,())) fun q3=>bif q3.1 then k0 (wI (v5 + 1),o0,o1) else some (false,()))) else L1 (0,o0,o1)
abbrev zl4 (K:Nat):zeZ→Option (Bool × Unit):=zg (fun k0=>zbe (zhL K) k0) K
theorem zEv (K:Nat):∀ n,evV Es2 K Tryz.f14 0 (ch [.bool]) [1,1,0,1,0] [] zEt n = zg (fun k0=>zbe (zhL K) k0) n:=qu (B:=fun L1 k0=>zbe L1 k0) (V1:=fun n0=>evV Es2 K Tryz.f14 0 (ch [.bool]) [1,1,1,0,1,0] [] zsT K) (W1:=fun k0=>(zhL K)) (fun n0=>zEu K K) fun n0 (v5,o0,o1)=>by kernel_rfl
def zkU (L0:zeZ→Option (Bool × Unit)):(zb × (zb × Unit))→Option (Bool × Unit):=fun (x0,x1,()) =>
  bif x0.1 != x1.1 then some (false,()) else bif ((List.length x0.2.1):Int) != ((List.length x1.2.1):Int) then some (false,()) else bif ((List.length x0.2.2.2.2.2.1):Int) != ((List.length x1.2.2.2.2.2.1):Int) then some (false,()) else Option.bind (zoN (x0.2.2.1,x1.2.2.1,())) fun q0=>bif q0.1 then Option.bind (zoP (x0.2.2.2.1,x1.2.2.2.1,())) fun q1=>bif q1.1 then Option.bind (zoR (x0.2.2.2.2.1,x1.2.2.2.2.1,())) fun q2=>bif q2.1 then L0 (0,x0,x1) else some (false,()) else some (false,()) else some (false,())
def ze1:(zb × zb × Unit)→Option (Bool × Unit):=zkU (zl4 K0)
abbrev zxb:Fun:=⟨14,(ch [zo,zo]),(ch [.bool]),0,ze1⟩
theorem zJd:Sq zxb:=ml2 (d:=false) (S:=fun K=>zkU (zl4 K)) Tryz.func14 (by kernel_rfl) (fun K=>tr1 (T:=zkU) (zEv K K) fun (x0,x1,())=>by kernel_rfl) rfl
abbrev L3:List Fun:=zyY :: zuK :: zB7 :: zsK :: zsL :: znV :: zw4 :: zyZ :: zy0 :: zuL :: znW :: znX :: zqD :: zqE :: zpi :: zpj :: zqF :: zpk :: zpl :: znY :: znZ :: zCb :: zn0 :: zy1 :: zsN :: zy2 :: zsO :: zuM :: zy3 :: zy4 :: zuN :: zuO :: zy5 :: zw5 :: zw6 :: zuP :: zw7 :: zw8 :: zw9 :: zxa :: zuQ :: zxb :: L2
theorem h3:Sds Tryz.prog E0 L3:=⟨zLk,zGn,zNr,zEj,zEk,zyk,zI6,zLl,zLm,zGo,zyl,zym,zB8,zB9,zAd,zAe,zCa,zAf,zAg,zyn,zyo,zNs,zyp,zLn,zEn,zLo,zEo,zGp,zLp,zLq,zGq,zGr,zLr,zI7,zI8,zGs,zI9,zJa,zJb,zJc,zGt,zJd,h2⟩
theorem ms3 {d:Bool} {F:Fun} {f:Go.Func} {K:Nat} (hf:Tryz.prog.funcs[F.id]? = some f) (ho:jm f = true) (h:evF (En E0 d L3) K f F.md F.a F.r = F.spec):Sd Tryz.prog E0 F:=mkS h3 hf ho h
theorem ml3 {d:Bool} {F:Fun} {f:Go.Func} {S:Nat→F.a.I→Option F.r.I} (hf:Tryz.prog.funcs[F.id]? = some f) (ho:jm f = true) (h:∀ K,evF (En E0 d L3) K f F.md F.a F.r = S K) (e:S K0 = F.spec):Sd Tryz.prog E0 F:=mkS h3 hf ho ((h K0).trans e)
abbrev Es3:Env:=En E0 false L3
abbrev zbE:Type:=Int × zf
abbrev zAj:zbE→St:=fun (v4,o0)=>St.mk [(1,.bp 0 []),(4,.dat tI v4)] [.bx (.dat zw o0) false]
def zfM (k0:zbE→Option (Bool × Unit)):zbE→Option (Bool × Unit):=fun (v4,o0) =>
  bif decide (v4 < ((List.length o0.1):Int)) then inR (wI (v4 - 1)) ((List.length o0.1):Int) (inR v4 ((List.length o0.1):Int) (Option.bind (zmu (List.getD o0.1 (Int.toNat (wI (v4 - 1))) (zd zt),ix jh o0.1 v4,())) fun q2=>bif decide (q2.1 ≥ 0) then some (false,()) else k0 (wI (v4 + 1),o0))) else some (true,())
abbrev zjB (K:Nat):zbE→Option (Bool × Unit):=zg zfM K
theorem zAk (K:Nat):∀ n,evV Es3 K Tryz.f170 0 (ch [.bool]) [1,1,1,0,1,0] [] zAj n = zg zfM n:=zq fun n0 (v4,o0)=>by kernel_rfl
def zhM (L0:zbE→Option (Bool × Unit)):(zf × Unit)→Option (Bool × Unit):=fun (x0,()) =>
  Option.bind (qw (((List.length x0.1):Int),1,8,())) fun q0=>bif q0.1 then bif decide (0 < ((List.length x0.1):Int)) then bif !eqI zt (ix jh x0.1 0) (zd zt) then some (false,()) else Option.bind (yw (x0.1,some zfD,())) fun q1=>bif q1.1 then some (false,()) else L0 (1,x0) else none else some (false,())
def vM:(zf × Unit)→Option (Bool × Unit):=zhM (zjB K0)
abbrev zsU:Fun:=⟨170,(ch [zw]),(ch [.bool]),0,vM⟩
theorem zEw:Sq zsU:=ml3 (d:=false) (S:=fun K=>zhM (zjB K)) Tryz.func170 (by kernel_rfl) (fun K=>tr1 (T:=zhM) (zAk K K) fun (x0,())=>by kernel_rfl) rfl
def zal:(ByteArray × Unit)→Option (Bool × Unit):=fun (x0,()) =>
  bif decide ((↑(ByteArray.size x0):Int) < 1) then some (false,()) else bif decide ((↑(ByteArray.size x0):Int) > 12) then some (false,()) else bif decide (0 < (↑(ByteArray.size x0):Int)) then Option.bind (zgW ((↑(UInt8.toNat (List.getD (Array.toList (ByteArray.data x0)) (Int.toNat 0) 0)):Int),())) fun q0=>bif q0.1 then Option.bind (zn9 (x0,some zhz,())) fun q1=>bif q1.1 then some (true,()) else some (false,()) else some (false,()) else none
abbrev zxc:Fun:=⟨154,(ch [.str]),(ch [.bool]),0,zal⟩
theorem zJe:Sq zxc:=ms3 (d:=false) (K:=0) Tryz.func154 (by kernel_rfl) (funext fun (x0,())=>by kernel_rfl)
def zmy:(ByteArray × Unit)→Option (Bool × Unit):=fun (x0,()) =>
  bif decide ((↑(ByteArray.size x0):Int) ≥ 1) then bif decide ((↑(ByteArray.size x0):Int) ≤ 40) then Option.bind (zn9 (x0,some zkk,())) fun q0=>bif q0.1 then Option.bind (zhA (x0,ByteArray.mk #[32],())) fun q1=>bif ByteArray.toList q1.1 == ByteArray.toList x0 then some (true,()) else some (false,()) else some (false,()) else some (false,()) else some (false,())
abbrev zy6:Fun:=⟨273,(ch [.str]),(ch [.bool]),0,zmy⟩
theorem zLs:Sq zy6:=ms3 (d:=false) (K:=0) Tryz.func273 (by kernel_rfl) (funext fun (x0,())=>by kernel_rfl)
def zgF:(zx × Unit)→Option (Bool × Unit):=fun (x0,()) =>
  bif x0.1 then Option.bind (zmv (x0,())) fun q0=>bif q0.1 then some (false,()) else some (true,()) else bif !eqI zz x0 (zd zz) then some (true,()) else some (false,())
abbrev zqI:Fun:=⟨187,(ch [zz]),(ch [.bool]),0,zgF⟩
theorem zCi:Sq zqI:=ms3 (d:=false) (K:=0) Tryz.func187 (by kernel_rfl) (funext fun (x0,())=>by kernel_rfl)
def zob:(zu × Unit)→Option (Bool × Unit):=fun (x0,()) =>
  Option.bind (ziE (x0.2.2.2.1,x0.2.2.2.2.2.2.2.1,x0.2.2.2.2.2.2.1,())) fun q0=>bif q0.2.1 == 0 then bif q0.1 == x0.2.2.2.2.2.2.2.2.1 then Option.bind (zmS (x0.2.1,())) fun q1=>bif q1.1 then Option.bind (zmS (x0.2.2.1,())) fun q2=>bif q2.1 then Option.bind (jt (x0.2.2.2.2.1,())) fun q3=>bif q3.1 then Option.bind (jt (x0.2.2.2.2.2.1,())) fun q4=>bif q4.1 then bif x0.2.2.2.2.1 != x0.2.2.2.2.2.1 then bif decide (x0.2.2.2.2.2.2.2.2.2.1 ≥ 0) then some (true,()) else some (false,()) else some (false,()) else some (false,()) else some (false,()) else some (false,()) else some (false,()) else some (false,()) else some (false,())
abbrev zCj:Fun:=⟨191,(ch [zr]),(ch [.bool]),0,zob⟩
theorem zNt:Sq zCj:=ms3 (d:=false) (K:=0) Tryz.func191 (by kernel_rfl) (funext fun (x0,())=>by kernel_rfl)
def zmz:(zJ × Unit)→Option (Bool × Unit):=fun (x0,()) =>
  bif decide (x0.1 > 4611686018427387904) then some (false,()) else Option.bind (zfw (x0.2.1,())) fun q0=>bif q0.1 then Option.bind (zfw (x0.2.2.1,())) fun q1=>bif q1.1 then Option.bind (zfw (x0.2.2.2.1,())) fun q2=>bif q2.1 then Option.bind (zfw (x0.2.2.2.2.2.2.2.2.2.1,())) fun q3=>bif q3.1 then bif x0.2.2.2.2.1 == 3 then bif eqI zA x0 (x0.1,x0.2.1,x0.2.2.1,x0.2.2.2.1,x0.2.2.2.2.1,(zd zA).2.2.2.2.2.1,(zd zA).2.2.2.2.2.2.1,(zd zA).2.2.2.2.2.2.2.1,(zd zA).2.2.2.2.2.2.2.2.1,x0.2.2.2.2.2.2.2.2.2.1,(zd zA).2.2.2.2.2.2.2.2.2.2) then some (true,()) else some (false,()) else Option.bind (ziE (x0.2.2.2.2.1,x0.2.2.2.2.2.2.2.1,x0.2.2.2.2.2.2.2.2.1,())) fun q4=>bif q4.2.1 == 0 then bif x0.2.2.2.2.2.2.2.2.2.1 == 0 then bif x0.2.2.2.2.2.1 != x0.2.2.2.2.2.2.1 then Option.bind (jt (x0.2.2.2.2.2.1,())) fun q5=>bif q5.1 then Option.bind (jt (x0.2.2.2.2.2.2.1,())) fun q6=>bif q6.1 then some (true,()) else some (false,()) else some (false,()) else some (false,()) else some (false,()) else some (false,()) else some (false,()) else some (false,()) else some (false,()) else some (false,())
abbrev zy7:Fun:=⟨192,(ch [zA]),(ch [.bool]),0,zmz⟩
theorem zLt:Sq zy7:=ms3 (d:=false) (K:=0) Tryz.func192 (by kernel_rfl) (funext fun (x0,())=>by kernel_rfl)
def znr:(qW × (Int × Unit))→Option ((Option ((zE × Unit)→Option (Bool × Unit))) × Unit):=fun (x0,x1,()) =>
  some (some fun z=>ye (z.1,some x0,some x1,()),())
abbrev zuR:Fun:=⟨121,(ch [qp,tI]),(ch [(.fn (ch [zv]) (ch [.bool]))]),0,znr⟩
theorem zGu:Sq zuR:=ms3 (d:=false) (K:=0) Tryz.func121 (by kernel_rfl) (funext fun (x0,x1,())=>by kernel_rfl)
abbrev vx:Type:=(List zp) × Int × Int × qW
abbrev zAl:vx→St:=fun (v10,v11,v12,o0)=>St.mk [(1,.bp 0 []),(10,.dat (.sl zy) v10),(11,.dat tI v11),(12,.dat tI v12)] [.bx (.dat qp o0) true]
abbrev zfN:Type:=(List zp) × Int × Int × qW
abbrev zAm:zfN→St:=fun (v10,v11,v12,o0)=>St.mk [(1,.bp 0 []),(10,.dat (.sl zy) v10),(11,.dat tI v11),(12,.dat tI v12)] [.bx (.dat qp o0) false]
def qY (k1:vx→Option (Bool × Unit)):vx→Option (Bool × Unit):=fun (v10,v11,v12,o0) =>
  bif decide (v12 < v11) then inR v12 ((List.length v10):Int) (Option.bind (yW ((ix ze v10 v12).2.2.1,some fun z=>zbs (z.1,some o0,()),())) fun q3=>bif q3.1 then Option.bind (yX ((ix ze v10 v12).2.2.2.1,some fun z=>vw (z.1,some o0,some v12,()),())) fun q4=>bif q4.1 then Option.bind (qO ((ix ze v10 v12).2.2.2.2.1,some fun z=>qM (z.1,some o0,()),())) fun q5=>bif q5.1 then k1 (v10,v11,wI (v12 + 1),o0) else some (false,()) else Option.bind (qO ((ix ze v10 v12).2.2.2.2.1,some fun z=>qM (z.1,some o0,()),())) fun q6=>bif q6.1 then some (false,()) else some (false,()) else Option.bind (yX ((ix ze v10 v12).2.2.2.1,some fun z=>vw (z.1,some o0,some v12,()),())) fun q7=>bif q7.1 then Option.bind (qO ((ix ze v10 v12).2.2.2.2.1,some fun z=>qM (z.1,some o0,()),())) fun q8=>bif q8.1 then some (false,()) else some (false,()) else Option.bind (qO ((ix ze v10 v12).2.2.2.2.1,some fun z=>qM (z.1,some o0,()),())) fun q9=>bif q9.1 then some (false,()) else some (false,())) else some (true,())
theorem zAn (K:Nat):∀ n,evV Es3 K Tryz.f66 0 (ch [.bool]) [1,0,1,0] [] zAl n = zg qY n:=zq fun n1 (v10,v11,v12,o0)=>by kernel_rfl
def zpn (k1:vx→Option (Bool × Unit)):zfN→Option (Bool × Unit):=fun (v10,v11,v12,o0) =>
  bif decide (v12 < v11) then inR v12 ((List.length v10):Int) (Option.bind (yW ((ix ze v10 v12).2.2.1,some fun z=>zbs (z.1,some o0,()),())) fun q0=>bif q0.1 then Option.bind (yX ((ix ze v10 v12).2.2.2.1,some fun z=>vw (z.1,some o0,some v12,()),())) fun q1=>bif q1.1 then Option.bind (qO ((ix ze v10 v12).2.2.2.2.1,some fun z=>qM (z.1,some o0,()),())) fun q2=>bif q2.1 then k1 (v10,v11,wI (v12 + 1),o0) else some (false,()) else Option.bind (qO ((ix ze v10 v12).2.2.2.2.1,some fun z=>qM (z.1,some o0,()),())) fun q10=>bif q10.1 then some (false,()) else some (false,()) else Option.bind (yX ((ix ze v10 v12).2.2.2.1,some fun z=>vw (z.1,some o0,some v12,()),())) fun q11=>bif q11.1 then Option.bind (qO ((ix ze v10 v12).2.2.2.2.1,some fun z=>qM (z.1,some o0,()),())) fun q12=>bif q12.1 then some (false,()) else some (false,()) else Option.bind (qO ((ix ze v10 v12).2.2.2.2.1,some fun z=>qM (z.1,some o0,()),())) fun q13=>bif q13.1 then some (false,()) else some (false,())) else some (true,())
abbrev zpo (K:Nat):zfN→Option (Bool × Unit):=zBt zpn qY K
theorem zAo (K:Nat):∀ n,evV Es3 K Tryz.f66 0 (ch [.bool]) [1,0,1,0] [] zAm n = zBt zpn qY n:=zON (zAn K) fun n0 (v10,v11,v12,o0)=>by kernel_rfl
def zl5 (L0:zfN→Option (Bool × Unit)):(qW × Unit)→Option (Bool × Unit):=fun (x0,()) =>
  L0 (x0.2.1.2.1,((List.length x0.2.1.2.1):Int),0,x0)
def zbf:(qW × Unit)→Option (Bool × Unit):=zl5 (zpo K0)
abbrev zsV:Fun:=⟨66,(ch [qp]),(ch [.bool]),0,zbf⟩
theorem zEx:Sq zsV:=ml3 (d:=false) (S:=fun K=>zl5 (zpo K)) Tryz.func66 (by kernel_rfl) (fun K=>tr1 (T:=zl5) (zAo K K) fun (x0,())=>by kernel_rfl) rfl
abbrev zcZ:Type:=(List zp) × Int × Int × (List Int) × Int × Int × zp
abbrev zqJ:zcZ→St:=fun (v14,v15,v16,v55,v56,v57,o0)=>St.mk [(4,.bp 0 []),(14,.dat (.sl zy) v14),(15,.dat tI v15),(16,.dat tI v16),(55,.dat (.sl tI) v55),(56,.dat tI v56),(57,.dat tI v57)] [.bx (.dat zy o0) false]
abbrev zc0:Type:=(Option zcq) × (List zp) × Int × Int × (List zh) × Int × Int × zp
abbrev zqK:zc0→St:=fun (v5,v14,v15,v16,v24,v25,v26,o0)=>St.mk [(4,.bp 0 []),(5,.dat (.ptr vV) v5),(14,.dat (.sl zy) v14),(15,.dat tI v15),(16,.dat tI v16),(24,.dat (.sl zi) v24),(25,.dat tI v25),(26,.dat tI v26)] [.bx (.dat zy o0) false]
abbrev jJ:Type:=(List zp) × Int × Int
abbrev zaw:jJ→St:=fun (v14,v15,v16)=>St.mk [(14,.dat (.sl zy) v14),(15,.dat tI v15),(16,.dat tI v16)] []
def zc1 (k0:jJ→Option (Bool × Unit)) (k2:zcZ→Option (Bool × Unit)):zcZ→Option (Bool × Unit):=fun (v14,v15,v16,v55,v56,v57,o0) =>
  bif decide (v57 < v56) then inR v57 ((List.length v55):Int) (inR (ix (0:Int) v55 v57) ((List.length o0.2.2.2.2.1):Int) (inR (ix (0:Int) v55 v57) ((List.length o0.2.2.2.2.1):Int) (bif decide ((List.getD o0.2.2.2.2.1 (Int.toNat (ix (0:Int) v55 v57)) (zd zz)).2.2.2.1.2.2.1 ≥ ((List.length o0.2.2.1):Int)) then some (false,()) else bif decide ((List.getD o0.2.2.2.2.1 (Int.toNat (ix (0:Int) v55 v57)) (zd zz)).2.2.2.2.1.2.2.1 ≥ ((List.length o0.2.2.1):Int)) then some (false,()) else bif decide ((List.getD o0.2.2.2.2.1 (Int.toNat (ix (0:Int) v55 v57)) (zd zz)).2.2.2.1.2.2.1 ≥ 0) then inR (List.getD o0.2.2.2.2.1 (Int.toNat (ix (0:Int) v55 v57)) (zd zz)).2.2.2.1.2.2.1 ((List.length o0.2.2.1):Int) (bif (List.getD o0.2.2.1 (Int.toNat (List.getD o0.2.2.2.2.1 (Int.toNat (ix (0:Int) v55 v57)) (zd zz)).2.2.2.1.2.2.1) (zd zi)).2.2.1 != 3 then some (false,()) else inR (List.getD o0.2.2.2.2.1 (Int.toNat (ix (0:Int) v55 v57)) (zd zz)).2.2.2.1.2.2.1 ((List.length o0.2.2.1):Int) (bif (List.getD o0.2.2.1 (Int.toNat (List.getD o0.2.2.2.2.1 (Int.toNat (ix (0:Int) v55 v57)) (zd zz)).2.2.2.1.2.2.1) (zd zi)).2.2.2.1 != ix (0:Int) v55 v57 then some (false,()) else k2 (v14,v15,v16,v55,v56,wI (v57 + 1),o0))) else k2 (v14,v15,v16,v55,v56,wI (v57 + 1),o0)))) else k0 (v14,v15,wI (v16 + 1))
abbrev zc2 (K:Nat) (k0:jJ→Option (Bool × Unit)):zcZ→Option (Bool × Unit):=zg (fun k2=>zc1 k0 k2) K
theorem zCk (K:Nat) (n0:Nat):∀ n,evV Es3 K Tryz.f67 0 (ch [.bool]) [1,0,1,0,0,1,1,0,0,1,1,1,1,0] [n0] zqJ n = zg (fun k2=>zc1 (evV Es3 K Tryz.f67 0 (ch [.bool]) [1,0,1,0] [] zaw n0) k2) n:=zq fun n2 (v14,v15,v16,v55,v56,v57,o0)=>by kernel_rfl
def zax (L2:zcZ→Option (Bool × Unit)) (k0:jJ→Option (Bool × Unit)) (k1:zc0→Option (Bool × Unit)):zc0→Option (Bool × Unit):=fun (v5,v14,v15,v16,v24,v25,v26,o0) =>
  bif decide (v26 < v25) then inR v26 ((List.length v24):Int) (bif (ix zj v24 v26).2.2.1 == 3 then Option.bind (yc (v5,(ix zj v24 v26).2.2.2.1,())) fun q1=>bif q1.1 then inR (ix zj v24 v26).2.2.2.1 ((List.length o0.2.2.2.2.1):Int) (bif (List.getD o0.2.2.2.2.1 (Int.toNat (ix zj v24 v26).2.2.2.1) (zd zz)).2.2.2.1.2.2.1 != v26 then some (false,()) else k1 (v5,v14,v15,v16,v24,v25,wI (v26 + 1),o0)) else some (false,()) else k1 (v5,v14,v15,v16,v24,v25,wI (v26 + 1),o0)) else Option.bind (zea (v5,())) fun q2=>L2 (v14,v15,v16,q2.1,((List.length q2.1):Int),0,o0)
abbrev zc3 (K:Nat) (k0:jJ→Option (Bool × Unit)):zc0→Option (Bool × Unit):=zg (fun k1=>zax (zc2 K k0) k0 k1) K
theorem zCl (K:Nat) (n0:Nat):∀ n,evV Es3 K Tryz.f67 0 (ch [.bool]) [1,0,1,0,0,1,1,0,0,1,1,0,1,0] [n0] zqK n = zg (fun k1=>zax (zc2 K (evV Es3 K Tryz.f67 0 (ch [.bool]) [1,0,1,0] [] zaw n0)) (evV Es3 K Tryz.f67 0 (ch [.bool]) [1,0,1,0] [] zaw n0) k1) n:=qu (B:=fun L2 k1=>zax L2 (evV Es3 K Tryz.f67 0 (ch [.bool]) [1,0,1,0] [] zaw n0) k1) (V1:=fun n1=>evV Es3 K Tryz.f67 0 (ch [.bool]) [1,0,1,0,0,1,1,0,0,1,1,1,1,0] [n0] zqJ K) (W1:=fun k1=>(zc2 K (evV Es3 K Tryz.f67 0 (ch [.bool]) [1,0,1,0] [] zaw n0))) (fun n1=>zCk K n0 K) fun n1 (v5,v14,v15,v16,v24,v25,v26,o0)=>by kernel_rfl
def zay (L1:zc0→Option (Bool × Unit)) (k0:jJ→Option (Bool × Unit)):jJ→Option (Bool × Unit):=fun (v14,v15,v16) =>
  bif decide (v16 < v15) then inR v16 ((List.length v14):Int) (Option.bind (yT ((ix ze v14 v16).2.2.2.2.1,some vY,())) fun q0=>L1 (q0.1,v14,v15,v16,(ix ze v14 v16).2.2.1,((List.length (ix ze v14 v16).2.2.1):Int),0,ix ze v14 v16)) else some (true,())
abbrev zqL (K:Nat):jJ→Option (Bool × Unit):=zg (fun k0=>zay (zc3 K k0) k0) K
theorem zCm (K:Nat):∀ n,evV Es3 K Tryz.f67 0 (ch [.bool]) [1,0,1,0] [] zaw n = zg (fun k0=>zay (zc3 K k0) k0) n:=qu (B:=fun L1 k0=>zay L1 k0) (V1:=fun n0=>evV Es3 K Tryz.f67 0 (ch [.bool]) [1,0,1,0,0,1,1,0,0,1,1,0,1,0] [n0] zqK K) (W1:=fun k0=>(zc3 K k0)) (fun n0=>zCl K n0 K) fun n0 (v14,v15,v16)=>by kernel_rfl
def zns (L0:jJ→Option (Bool × Unit)):(qW × Unit)→Option (Bool × Unit):=fun (x0,()) =>
  L0 (x0.2.1.2.1,((List.length x0.2.1.2.1):Int),0)
def zf6:(qW × Unit)→Option (Bool × Unit):=zns (zqL K0)
abbrev zuS:Fun:=⟨67,(ch [qp]),(ch [.bool]),0,zf6⟩
theorem zGv:Sq zuS:=ml3 (d:=false) (S:=fun K=>zns (zqL K)) Tryz.func67 (by kernel_rfl) (fun K=>tr1 (T:=zns) (zCm K K) fun (x0,())=>by kernel_rfl) rfl
def zkV:((List zu) × Unit)→Option ((List Int) × Unit):=fun (x0,()) =>
  Option.bind (zoa (x0,())) fun q0=>Option.bind (zii (q0.1,())) fun q1=>some (q1.1,())
abbrev zxd:Fun:=⟨288,(ch [(.sl zr)]),(ch [(.sl tI)]),0,zkV⟩
theorem zJf:Sq zxd:=ms3 (d:=false) (K:=0) Tryz.func288 (by kernel_rfl) (funext fun (x0,())=>by kernel_rfl)
abbrev ze2:Type:=(List zx) × Int × (List Int) × Int × Int × List Int
abbrev zEy:ze2→St:=fun (v0,v1,v14,v15,v16,o0)=>St.mk [(0,.dat (.sl zz) v0),(1,.dat tI v1),(6,.ow 0),(14,.dat (.sl tI) v14),(15,.dat tI v15),(16,.dat tI v16)] [.row tU o0 false]
def ze3 (k0:ze2→Option (Int × (Int × Unit))):ze2→Option (Int × (Int × Unit)):=fun (v0,v1,v14,v15,v16,o0) =>
  bif decide (v16 < v15) then inR v16 ((List.length v14):Int) (inR (ix (0:Int) v14 v16) ((List.length v0):Int) (bif (List.getD v0 (Int.toNat (ix (0:Int) v14 v16)) (zd zz)).2.2.2.1.1 == v1 then inR (ix (0:Int) v14 v16) ((List.length v0):Int) (bif decide (List.length o0 + List.length (zm (List.replicate 1 (0:Int)) 0 (List.getD v0 (Int.toNat (ix (0:Int) v14 v16)) (zd zz)).2.2.2.1.2.1) ≤ lim) then k0 (v0,v1,v14,v15,wI (v16 + 1),o0 ++ zm (List.replicate 1 (0:Int)) 0 (List.getD v0 (Int.toNat (ix (0:Int) v14 v16)) (zd zz)).2.2.2.1.2.1) else none) else k0 (v0,v1,v14,v15,wI (v16 + 1),o0))) else Option.bind (zhB (o0,())) fun q3=>some (q3.1,q3.2.1,())
abbrev zsW (K:Nat):ze2→Option (Int × (Int × Unit)):=zg ze3 K
theorem zEz (K:Nat):∀ n,evV Es3 K Tryz.f210 0 (ch [tU,tI]) [1,1,1,0,1,0] [] zEy n = zg ze3 n:=zq fun n0 (v0,v1,v14,v15,v16,o0)=>by kernel_rfl
def zkW (L0:ze2→Option (Int × (Int × Unit))):((List zx) × (Int × Unit))→Option (Int × (Int × Unit)):=fun (x0,x1,()) =>
  Option.bind (jt (x1,())) fun q0=>bif q0.1 then Option.bind (zmw (x0,())) fun q1=>Option.bind (zea (q1.1,())) fun q2=>L0 (x0,x1,q2.1,((List.length q2.1):Int),0,[]) else some (0,1,())
def zkX:((List zx) × Int × Unit)→Option (Int × Int × Unit):=zkW (zsW K0)
abbrev zxe:Fun:=⟨210,(ch [(.sl zz),tI]),(ch [tU,tI]),0,zkX⟩
theorem zJg:Sq zxe:=ml3 (d:=false) (S:=fun K=>zkW (zsW K)) Tryz.func210 (by kernel_rfl) (fun K=>tr1 (T:=zkW) (zEz K K) fun (x0,x1,())=>by kernel_rfl) rfl
def zkY:(zb × (Int × Unit))→Option (Int × (Int × Unit)):=fun (x0,x1,()) =>
  Option.bind (jt (x1,())) fun q0=>bif q0.1 then Option.bind (zhJ (x0,x1,some zlW,())) fun q1=>bif q1.2.1 != 0 then some (0,q1.2.1,()) else Option.bind (zhJ (x0,x1,some zlX,())) fun q2=>bif q2.2.1 != 0 then some (0,q2.2.1,()) else Option.bind (zkq (q1.1,q2.1,())) fun q3=>some (q3.1,q3.2.1,()) else some (0,1,())
abbrev zxf:Fun:=⟨138,(ch [zo,tI]),(ch [tU,tI]),0,zkY⟩
theorem zJh:Sq zxf:=ms3 (d:=false) (K:=0) Tryz.func138 (by kernel_rfl) (funext fun (x0,x1,())=>by kernel_rfl)
abbrev zc4:Type:=(List (List Int)) × Int × Int × zf
abbrev zqM:zc4→St:=fun (v1,v5,v6,o0)=>St.mk [(1,.dat (.sl (.sl tI)) v1),(2,.bp 0 []),(5,.dat tI v5),(6,.dat tI v6)] [.bx (.dat zw o0) false]
abbrev yf:Type:=(List (List Int)) × Int × zf
abbrev zqN:yf→St:=fun (v1,v5,o0)=>St.mk [(1,.dat (.sl (.sl tI)) v1),(2,.bp 0 []),(5,.dat tI v5)] [.bx (.dat zw o0) false]
def zgG (k0:yf→Option (Bool × Unit)) (k1:zc4→Option (Bool × Unit)):zc4→Option (Bool × Unit):=fun (v1,v5,v6,o0) =>
  inR v5 ((List.length v1):Int) (bif decide (v6 < ((List.length (List.getD v1 (Int.toNat v5) ([]:List Int))):Int)) then inR v5 ((List.length v1):Int) (inR v6 ((List.length (List.getD v1 (Int.toNat v5) ([]:List Int))):Int) (bif decide (List.getD (List.getD v1 (Int.toNat v5) ([]:List Int)) (Int.toNat v6) (0:Int) < 0) then some (false,()) else inR v5 ((List.length v1):Int) (inR v6 ((List.length (List.getD v1 (Int.toNat v5) ([]:List Int))):Int) (bif decide (List.getD (List.getD v1 (Int.toNat v5) ([]:List Int)) (Int.toNat v6) (0:Int) > 2) then some (false,()) else k1 (v1,v5,wI (v6 + 1),o0))))) else k0 (v1,wI (v5 + 1),o0))
abbrev zgH (K:Nat) (k0:yf→Option (Bool × Unit)):zc4→Option (Bool × Unit):=zg (fun k1=>zgG k0 k1) K
theorem zCn (K:Nat) (n0:Nat):∀ n,evV Es3 K Tryz.f237 0 (ch [.bool]) [1,1,0,1,0,0,1,0,0,1,1,0] [n0] zqM n = zg (fun k1=>zgG (evV Es3 K Tryz.f237 0 (ch [.bool]) [1,1,0,1,0] [] zqN n0) k1) n:=zq fun n1 (v1,v5,v6,o0)=>by kernel_rfl
def zc5 (L1:zc4→Option (Bool × Unit)) (k0:yf→Option (Bool × Unit)):yf→Option (Bool × Unit):=fun (v1,v5,o0) =>
  bif decide (v5 < ((List.length v1):Int)) then inR v5 ((List.length v1):Int) (bif ((List.length (List.getD v1 (Int.toNat v5) ([]:List Int))):Int) != ((List.length o0.2.2.1):Int) then some (false,()) else inR v5 ((List.length v1):Int) (inR v5 ((List.length o0.2.2.2.1):Int) (inR (ix qB o0.2.2.2.1 v5).2.1 ((List.length (List.getD v1 (Int.toNat v5) ([]:List Int))):Int) (bif List.getD (List.getD v1 (Int.toNat v5) ([]:List Int)) (Int.toNat (ix qB o0.2.2.2.1 v5).2.1) (0:Int) != 2 then some (false,()) else L1 (v1,v5,0,o0))))) else some (true,())
abbrev zkZ (K:Nat):yf→Option (Bool × Unit):=zg (fun k0=>zc5 (zgH K k0) k0) K
theorem zCo (K:Nat):∀ n,evV Es3 K Tryz.f237 0 (ch [.bool]) [1,1,0,1,0] [] zqN n = zg (fun k0=>zc5 (zgH K k0) k0) n:=qu (B:=fun L1 k0=>zc5 L1 k0) (V1:=fun n0=>evV Es3 K Tryz.f237 0 (ch [.bool]) [1,1,0,1,0,0,1,0,0,1,1,0] [n0] zqM K) (W1:=fun k0=>(zgH K k0)) (fun n0=>zCn K n0 K) fun n0 (v1,v5,o0)=>by kernel_rfl
def zi6 (L0:yf→Option (Bool × Unit)):(zf × ((List (List Int)) × Unit))→Option (Bool × Unit):=fun (x0,x1,()) =>
  Option.bind (zf5 (x0,())) fun q0=>bif q0.1 then bif ((List.length x1):Int) != ((List.length x0.2.2.2.1):Int) then some (false,()) else L0 (x1,0,x0) else some (false,())
def zi7:(zf × (List (List Int)) × Unit)→Option (Bool × Unit):=zi6 (zkZ K0)
abbrev zuT:Fun:=⟨237,(ch [zw,(.sl (.sl tI))]),(ch [.bool]),0,zi7⟩
theorem zGw:Sq zuT:=ml3 (d:=false) (S:=fun K=>zi6 (zkZ K)) Tryz.func237 (by kernel_rfl) (fun K=>tr1 (T:=zi6) (zCo K K) fun (x0,x1,())=>by kernel_rfl) rfl
abbrev zc6:Type:=(List zu) × Int
abbrev zCp:zc6→St:=fun (v0,v3)=>St.mk [(0,.dat (.sl zr) v0),(3,.dat tI v3)] []
def zc7 (k0:zc6→Option (Bool × Unit)):zc6→Option (Bool × Unit):=fun (v0,v3) =>
  bif decide (v3 < ((List.length v0):Int)) then inR v3 ((List.length v0):Int) (bif (ix zK v0 v3).1 then inR v3 ((List.length v0):Int) (bif (ix zK v0 v3).1 then inR v3 ((List.length v0):Int) (Option.bind (ziF (ix zK v0 v3,())) fun q0=>bif q0.1 then inR v3 ((List.length v0):Int) (Option.bind (zms (v0,v3,(ix zK v0 v3).2.2.2.2.2.2.2.2.2.1,())) fun q1=>bif q1.1 then some (false,()) else k0 (v0,wI (v3 + 1))) else some (false,())) else k0 (v0,wI (v3 + 1))) else inR v3 ((List.length v0):Int) (bif !eqI zr (ix zK v0 v3) (zd zr) then some (false,()) else inR v3 ((List.length v0):Int) (bif (ix zK v0 v3).1 then inR v3 ((List.length v0):Int) (Option.bind (ziF (ix zK v0 v3,())) fun q2=>bif q2.1 then inR v3 ((List.length v0):Int) (Option.bind (zms (v0,v3,(ix zK v0 v3).2.2.2.2.2.2.2.2.2.1,())) fun q3=>bif q3.1 then some (false,()) else k0 (v0,wI (v3 + 1))) else some (false,())) else k0 (v0,wI (v3 + 1))))) else some (true,())
abbrev zqO (K:Nat):zc6→Option (Bool × Unit):=zg zc7 K
theorem zCq (K:Nat):∀ n,evV Es3 K Tryz.f238 0 (ch [.bool]) [1,0,1,0] [] zCp n = zg zc7 n:=zq fun n0 (v0,v3)=>by kernel_rfl
def znt (L0:zc6→Option (Bool × Unit)):((List zu) × Unit)→Option (Bool × Unit):=fun (x0,()) =>
  L0 (x0,0)
def znu:((List zu) × Unit)→Option (Bool × Unit):=znt (zqO K0)
abbrev zuU:Fun:=⟨238,(ch [(.sl zr)]),(ch [.bool]),0,znu⟩
theorem zGx:Sq zuU:=ml3 (d:=false) (S:=fun K=>znt (zqO K)) Tryz.func238 (by kernel_rfl) (fun K=>tr1 (T:=znt) (zCq K K) fun (x0,())=>by kernel_rfl) rfl
abbrev zc8:Type:=(List zJ) × Int
abbrev zCr:zc8→St:=fun (v0,v3)=>St.mk [(0,.dat (.sl zA) v0),(3,.dat tI v3)] []
def zc9 (k0:zc8→Option (Bool × Unit)):zc8→Option (Bool × Unit):=fun (v0,v3) =>
  bif decide (v3 < ((List.length v0):Int)) then inR v3 ((List.length v0):Int) (Option.bind (zmx (ix vU v0 v3,())) fun q0=>bif q0.1 then bif decide (v3 > 0) then inR v3 ((List.length v0):Int) (inR (wI (v3 - 1)) ((List.length v0):Int) (Option.bind (zhx (ix vU v0 v3,List.getD v0 (Int.toNat (wI (v3 - 1))) (zd zA),())) fun q1=>bif q1.1 then k0 (v0,wI (v3 + 1)) else some (false,()))) else k0 (v0,wI (v3 + 1)) else some (false,())) else some (true,())
abbrev zqP (K:Nat):zc8→Option (Bool × Unit):=zg zc9 K
theorem zCs (K:Nat):∀ n,evV Es3 K Tryz.f239 0 (ch [.bool]) [1,0,1,0] [] zCr n = zg zc9 n:=zq fun n0 (v0,v3)=>by kernel_rfl
def znv (L0:zc8→Option (Bool × Unit)):((List zJ) × Unit)→Option (Bool × Unit):=fun (x0,()) =>
  L0 (x0,0)
def znw:((List zJ) × Unit)→Option (Bool × Unit):=znv (zqP K0)
abbrev zuV:Fun:=⟨239,(ch [(.sl zA)]),(ch [.bool]),0,znw⟩
theorem zGy:Sq zuV:=ml3 (d:=false) (S:=fun K=>znv (zqP K)) Tryz.func239 (by kernel_rfl) (fun K=>tr1 (T:=znv) (zCs K K) fun (x0,())=>by kernel_rfl) rfl
def zaH:(zf × (zb × (zE × (Int × Unit))))→Option (Bool × Unit):=fun (x0,x1,x2,x3,()) =>
  Option.bind (zf1 (x1,x2,())) fun q0=>bif q0.1 then Option.bind (zgj (x0,x2.1,x3,())) fun q1=>bif q1.1 then some (true,()) else some (false,()) else some (false,())
abbrev zuW:Fun:=⟨245,(ch [zw,zo,zv,tI]),(ch [.bool]),0,zaH⟩
theorem zGz:Sq zuW:=ms3 (d:=false) (K:=0) Tryz.func245 (by kernel_rfl) (funext fun (x0,x1,x2,x3,())=>by kernel_rfl)
abbrev L4:List Fun:=zsU :: zxc :: zy6 :: zqI :: zCj :: zy7 :: zuR :: zsV :: zuS :: zxd :: zxe :: zxf :: zuT :: zuU :: zuV :: zuW :: L3
theorem h4:Sds Tryz.prog E0 L4:=⟨zEw,zJe,zLs,zCi,zNt,zLt,zGu,zEx,zGv,zJf,zJg,zJh,zGw,zGx,zGy,zGz,h3⟩
theorem ms4 {d:Bool} {F:Fun} {f:Go.Func} {K:Nat} (hf:Tryz.prog.funcs[F.id]? = some f) (ho:jm f = true) (h:evF (En E0 d L4) K f F.md F.a F.r = F.spec):Sd Tryz.prog E0 F:=mkS h4 hf ho h
theorem ml4 {d:Bool} {F:Fun} {f:Go.Func} {S:Nat→F.a.I→Option F.r.I} (hf:Tryz.prog.funcs[F.id]? = some f) (ho:jm f = true) (h:∀ K,evF (En E0 d L4) K f F.md F.a F.r = S K) (e:S K0 = F.spec):Sd Tryz.prog E0 F:=mkS h4 hf ho ((h K0).trans e)
abbrev Es4:Env:=En E0 false L4
def zda:(qA × Unit)→Option (Bool × Unit):=fun (x0,()) =>
  Option.bind (zal (x0.1,())) fun q0=>bif q0.1 then Option.bind (zal (x0.2.1,())) fun q1=>bif q1.1 then Option.bind (qw (x0.2.2.1,0,3,())) fun q2=>bif q2.1 then some (false,()) else some (true,()) else some (true,()) else some (true,())
abbrev zm3:Fun:=⟨256,(ch [qD]),(ch [.bool]),0,zda⟩
theorem zxg:Sq zm3:=ms4 (d:=false) (K:=0) Tryz.func256 (by kernel_rfl) (funext fun (x0,())=>by kernel_rfl)
def zhN:(qV × Unit)→Option (Bool × Unit):=fun (x0,()) =>
  bif x0.1 then Option.bind (zal (x0.2.1,())) fun q0=>bif q0.1 then bif x0.1 then some (false,()) else bif !ByteArray.toList x0.2.1 == ByteArray.toList (ByteArray.mk #[]) then some (true,()) else some (false,()) else some (true,()) else bif x0.1 then some (false,()) else bif !ByteArray.toList x0.2.1 == ByteArray.toList (ByteArray.mk #[]) then some (true,()) else some (false,())
abbrev zsX:Fun:=⟨179,(ch [qk]),(ch [.bool]),0,zhN⟩
theorem zEA:Sq zsX:=ms4 (d:=false) (K:=0) Tryz.func179 (by kernel_rfl) (funext fun (x0,())=>by kernel_rfl)
def zi8:(zh × Unit)→Option (Bool × Unit):=fun (x0,()) =>
  bif x0.1 then Option.bind (zal (x0.2.1,())) fun q0=>bif q0.1 then Option.bind (zhv (x0,())) fun q1=>Option.bind (jU (q1.1,())) fun q2=>bif q2.1 then some (false,()) else some (true,()) else some (true,()) else bif !eqI zi x0 (zd zi) then some (true,()) else some (false,())
abbrev zuX:Fun:=⟨183,(ch [zi]),(ch [.bool]),0,zi8⟩
theorem zGA:Sq zuX:=ms4 (d:=false) (K:=0) Tryz.func183 (by kernel_rfl) (funext fun (x0,())=>by kernel_rfl)
def zk0:(qr × Unit)→Option (Bool × Unit):=fun (x0,()) =>
  bif x0.1 then Option.bind (zlY (x0,())) fun q0=>bif q0.1 then Option.bind (zmy (x0.2.2.2.2.1,())) fun q1=>bif q1.1 then some (false,()) else some (true,()) else some (true,()) else bif !eqI zY x0 (zd zY) then some (true,()) else some (false,())
abbrev zxh:Fun:=⟨185,(ch [zY]),(ch [.bool]),0,zk0⟩
theorem zJi:Sq zxh:=ms4 (d:=false) (K:=0) Tryz.func185 (by kernel_rfl) (funext fun (x0,())=>by kernel_rfl)
def zi9:((List zx) × Unit)→Option (Bool × Unit):=fun (x0,()) =>
  Option.bind (jk (x0,some zgF,())) fun q0=>bif q0.1 then some (false,()) else some (true,())
abbrev zuY:Fun:=⟨108,(ch [(.sl zz)]),(ch [.bool]),0,zi9⟩
theorem zGB:Sq zuY:=ms4 (d:=false) (K:=0) Tryz.func108 (by kernel_rfl) (funext fun (x0,())=>by kernel_rfl)
end
end Go.Proofs.YtejbgeokcpillaaGreatDoor
end
section
namespace Go.Proofs.YtejbgeokcpillaaGreatDoor
open Go.Ev
noncomputable section
abbrev ze4:Type:=Int × (List zu) × Int × Int × List (Int × Int)
abbrev zEB:ze4→St:=fun (v4,v8,v9,v10,o0)=>St.mk [(3,.om 0),(4,.dat tI v4),(8,.dat (.sl zr) v8),(9,.dat tI v9),(10,.dat tI v10)] [.mp tI tI o0]
def ze5 (k0:ze4→Option (Bool × Unit)):ze4→Option (Bool × Unit):=fun (v4,v8,v9,v10,o0) =>
  bif decide (v10 < v9) then inR v10 ((List.length v8):Int) (bif (ix zK v8 v10).1 then Option.bind (zob (ix zK v8 v10,())) fun q0=>bif q0.1 then bif (ix zK v8 v10).1 then bif (ix zK v8 v10).1 then k0 (wI (v4 + 1),v8,v9,wI (v10 + 1),jP tI o0 (ix zK v8 v10).2.2.2.2.2.2.2.2.2.1 (wI (zaQ tI (0:Int) o0 (ix zK v8 v10).2.2.2.2.2.2.2.2.2.1 + 1))) else k0 (v4,v8,v9,wI (v10 + 1),o0) else bif !eqI zr (ix zK v8 v10) (zd zr) then some (false,()) else bif (ix zK v8 v10).1 then k0 (wI (v4 + 1),v8,v9,wI (v10 + 1),jP tI o0 (ix zK v8 v10).2.2.2.2.2.2.2.2.2.1 (wI (zaQ tI (0:Int) o0 (ix zK v8 v10).2.2.2.2.2.2.2.2.2.1 + 1))) else k0 (v4,v8,v9,wI (v10 + 1),o0) else some (false,()) else bif (ix zK v8 v10).1 then bif (ix zK v8 v10).1 then k0 (wI (v4 + 1),v8,v9,wI (v10 + 1),jP tI o0 (ix zK v8 v10).2.2.2.2.2.2.2.2.2.1 (wI (zaQ tI (0:Int) o0 (ix zK v8 v10).2.2.2.2.2.2.2.2.2.1 + 1))) else k0 (v4,v8,v9,wI (v10 + 1),o0) else bif !eqI zr (ix zK v8 v10) (zd zr) then some (false,()) else bif (ix zK v8 v10).1 then k0 (wI (v4 + 1),v8,v9,wI (v10 + 1),jP tI o0 (ix zK v8 v10).2.2.2.2.2.2.2.2.2.1 (wI (zaQ tI (0:Int) o0 (ix zK v8 v10).2.2.2.2.2.2.2.2.2.1 + 1))) else k0 (v4,v8,v9,wI (v10 + 1),o0)) else bif ((List.length o0):Int) == v4 then some (true,()) else some (false,())
abbrev zsY (K:Nat):ze4→Option (Bool × Unit):=zg ze5 K
theorem zEC (K:Nat):∀ n,evV Es4 K Tryz.f110 0 (ch [.bool]) [1,1,1,0,1,0] [] zEB n = zg ze5 n:=zq fun n0 (v4,v8,v9,v10,o0)=>by kernel_rfl
def zpp (L0:ze4→Option (Bool × Unit)):((List zu) × Unit)→Option (Bool × Unit):=fun (x0,()) =>
  L0 (0,x0,((List.length x0):Int),0,[])
def zpq:((List zu) × Unit)→Option (Bool × Unit):=zpp (zsY K0)
abbrev zxi:Fun:=⟨110,(ch [(.sl zr)]),(ch [.bool]),0,zpq⟩
theorem zJj:Sq zxi:=ml4 (d:=false) (S:=fun K=>zpp (zsY K)) Tryz.func110 (by kernel_rfl) (fun K=>tr1 (T:=zpp) (zEC K K) fun (x0,())=>by kernel_rfl) rfl
abbrev zdb:Type:=(List zJ) × (List zJ) × Int × Int
abbrev zCt:zdb→St:=fun (v0,v5,v6,v7)=>St.mk [(0,.dat (.sl zA) v0),(5,.dat (.sl zA) v5),(6,.dat tI v6),(7,.dat tI v7)] []
def zdc (k0:zdb→Option (Bool × Unit)):zdb→Option (Bool × Unit):=fun (v0,v5,v6,v7) =>
  bif decide (v7 < v6) then inR v7 ((List.length v5):Int) (Option.bind (zmz (ix vU v5 v7,())) fun q0=>bif q0.1 then bif decide (v7 > 0) then inR (wI (v7 - 1)) ((List.length v0):Int) (Option.bind (zi2 (List.getD v0 (Int.toNat (wI (v7 - 1))) (zd zA),ix vU v5 v7,())) fun q1=>bif decide (q1.1 ≥ 0) then some (false,()) else k0 (v0,v5,v6,wI (v7 + 1))) else k0 (v0,v5,v6,wI (v7 + 1)) else some (false,())) else some (true,())
abbrev zqQ (K:Nat):zdb→Option (Bool × Unit):=zg zdc K
theorem zCu (K:Nat):∀ n,evV Es4 K Tryz.f111 0 (ch [.bool]) [1,0,1,0] [] zCt n = zg zdc n:=zq fun n0 (v0,v5,v6,v7)=>by kernel_rfl
def znx (L0:zdb→Option (Bool × Unit)):((List zJ) × Unit)→Option (Bool × Unit):=fun (x0,()) =>
  L0 (x0,x0,((List.length x0):Int),0)
def zny:((List zJ) × Unit)→Option (Bool × Unit):=znx (zqQ K0)
abbrev zuZ:Fun:=⟨111,(ch [(.sl zA)]),(ch [.bool]),0,zny⟩
theorem zGC:Sq zuZ:=ml4 (d:=false) (S:=fun K=>znx (zqQ K)) Tryz.func111 (by kernel_rfl) (fun K=>tr1 (T:=znx) (zCu K K) fun (x0,())=>by kernel_rfl) rfl
abbrev zdd:Type:=(List zp) × Int × Int × qW
abbrev zCv:zdd→St:=fun (v10,v11,v12,o0)=>St.mk [(1,.bp 0 []),(10,.dat (.sl zy) v10),(11,.dat tI v11),(12,.dat tI v12)] [.bx (.dat qp o0) false]
def zde (k0:zdd→Option (Bool × Unit)):zdd→Option (Bool × Unit):=fun (v10,v11,v12,o0) =>
  bif decide (v12 < v11) then inR v12 ((List.length v10):Int) (Option.bind (znr (o0,v12,())) fun q0=>Option.bind (zjA ((ix ze v10 v12).2.1,some fun z=>zgz (z.1,some q0.1,()),())) fun q1=>bif q1.1 then Option.bind (yW ((ix ze v10 v12).2.2.1,some fun z=>zcu (z.1,some q0.1,()),())) fun q2=>bif q2.1 then Option.bind (zkK ((ix ze v10 v12).2.2.2.2.2.2.1,q0.1,())) fun q3=>bif q3.1 then k0 (v10,v11,wI (v12 + 1),o0) else some (false,()) else some (false,()) else Option.bind (yW ((ix ze v10 v12).2.2.1,some fun z=>zcu (z.1,some q0.1,()),())) fun q4=>bif q4.1 then some (false,()) else some (false,())) else some (true,())
abbrev zqR (K:Nat):zdd→Option (Bool × Unit):=zg zde K
theorem zCw (K:Nat):∀ n,evV Es4 K Tryz.f65 0 (ch [.bool]) [1,0,1,0] [] zCv n = zg zde n:=zq fun n0 (v10,v11,v12,o0)=>by kernel_rfl
def znz (L0:zdd→Option (Bool × Unit)):(qW × Unit)→Option (Bool × Unit):=fun (x0,()) =>
  L0 (x0.2.1.2.1,((List.length x0.2.1.2.1):Int),0,x0)
def zf7:(qW × Unit)→Option (Bool × Unit):=znz (zqR K0)
abbrev zu0:Fun:=⟨65,(ch [qp]),(ch [.bool]),0,zf7⟩
theorem zGD:Sq zu0:=ml4 (d:=false) (S:=fun K=>znz (zqR K)) Tryz.func65 (by kernel_rfl) (fun K=>tr1 (T:=znz) (zCw K K) fun (x0,())=>by kernel_rfl) rfl
abbrev zf8:Type:=(List zu) × Int × (List Int) × Int × Int × List Int
abbrev zGE:zf8→St:=fun (v0,v1,v13,v14,v15,o0)=>St.mk [(0,.dat (.sl zr) v0),(1,.dat tI v1),(6,.ow 0),(13,.dat (.sl tI) v13),(14,.dat tI v14),(15,.dat tI v15)] [.row tU o0 false]
def zf9 (k0:zf8→Option (Int × (Int × Unit))):zf8→Option (Int × (Int × Unit)):=fun (v0,v1,v13,v14,v15,o0) =>
  bif decide (v15 < v14) then inR v15 ((List.length v13):Int) (inR (ix (0:Int) v13 v15) ((List.length v0):Int) (Option.bind (ziR (List.getD v0 (Int.toNat (ix (0:Int) v13 v15)) (zd zr),())) fun q2=>bif q2.1 == v1 then inR (ix (0:Int) v13 v15) ((List.length v0):Int) (bif decide (List.length o0 + List.length (zm (List.replicate 1 (0:Int)) 0 (List.getD v0 (Int.toNat (ix (0:Int) v13 v15)) (zd zr)).2.2.2.2.2.2.2.2.1) ≤ lim) then k0 (v0,v1,v13,v14,wI (v15 + 1),o0 ++ zm (List.replicate 1 (0:Int)) 0 (List.getD v0 (Int.toNat (ix (0:Int) v13 v15)) (zd zr)).2.2.2.2.2.2.2.2.1) else none) else k0 (v0,v1,v13,v14,wI (v15 + 1),o0))) else Option.bind (zhB (o0,())) fun q3=>some (q3.1,q3.2.1,())
abbrev zu1 (K:Nat):zf8→Option (Int × (Int × Unit)):=zg zf9 K
theorem zGF (K:Nat):∀ n,evV Es4 K Tryz.f209 0 (ch [tU,tI]) [1,1,1,0,1,0] [] zGE n = zg zf9 n:=zq fun n0 (v0,v1,v13,v14,v15,o0)=>by kernel_rfl
def zmA (L0:zf8→Option (Int × (Int × Unit))):((List zu) × (Int × Unit))→Option (Int × (Int × Unit)):=fun (x0,x1,()) =>
  Option.bind (jt (x1,())) fun q0=>bif q0.1 then Option.bind (zkV (x0,())) fun q1=>L0 (x0,x1,q1.1,((List.length q1.1):Int),0,[]) else some (0,1,())
def zmB:((List zu) × Int × Unit)→Option (Int × Int × Unit):=zmA (zu1 K0)
abbrev zy8:Fun:=⟨209,(ch [(.sl zr),tI]),(ch [tU,tI]),0,zmB⟩
theorem zLu:Sq zy8:=ml4 (d:=false) (S:=fun K=>zmA (zu1 K)) Tryz.func209 (by kernel_rfl) (fun K=>tr1 (T:=zmA) (zGF K K) fun (x0,x1,())=>by kernel_rfl) rfl
abbrev zbF:Type:=Int × zf × zb
abbrev zpr:zbF→St:=fun (v9,o0,o1)=>St.mk [(2,.bp 0 []),(3,.bp 1 []),(9,.dat tI v9)] [.bx (.dat zw o0) false,.bx (.dat zo o1) false]
abbrev zbG:Type:=Int × zf × zb
abbrev zps:zbG→St:=fun (v7,o0,o1)=>St.mk [(2,.bp 0 []),(3,.bp 1 []),(7,.dat tI v7)] [.bx (.dat zw o0) false,.bx (.dat zo o1) false]
abbrev zbH:Type:=Int × zf × zb
abbrev zAp:zbH→St:=fun (v5,o0,o1)=>St.mk [(2,.bp 0 []),(3,.bp 1 []),(5,.dat tI v5)] [.bx (.dat zw o0) false,.bx (.dat zo o1) false]
def zfO (k2:zbF→Option (Bool × Unit)):zbF→Option (Bool × Unit):=fun (v9,o0,o1) =>
  bif decide (v9 < ((List.length o1.2.2.2.2.2.1):Int)) then inR v9 ((List.length o1.2.2.2.2.2.1):Int) (bif ix (0:Int) o1.2.2.2.2.2.1 v9 != -1 then inR v9 ((List.length o1.2.2.2.2.2.1):Int) (Option.bind (jY (o0,ix (0:Int) o1.2.2.2.2.2.1 v9,())) fun q6=>bif q6.1 then k2 (wI (v9 + 1),o0,o1) else some (false,())) else k2 (wI (v9 + 1),o0,o1)) else some (true,())
abbrev zbI (K:Nat):zbF→Option (Bool × Unit):=zg zfO K
theorem zAq (K:Nat):∀ n,evV Es4 K Tryz.f162 0 (ch [.bool]) [1,1,1,1,0,1,0] [] zpr n = zg zfO n:=zq fun n2 (v9,o0,o1)=>by kernel_rfl
def zbJ (L2:zbF→Option (Bool × Unit)) (k1:zbG→Option (Bool × Unit)):zbG→Option (Bool × Unit):=fun (v7,o0,o1) =>
  bif decide (v7 < ((List.length o1.2.2.2.2.1):Int)) then inR v7 ((List.length o1.2.2.2.2.1):Int) (bif decide ((ix vU o1.2.2.2.2.1 v7).2.1 ≥ ((List.length o0.2.1):Int)) then some (false,()) else inR (ix vU o1.2.2.2.2.1 v7).2.1 ((List.length o0.2.1):Int) (bif (ix vU o1.2.2.2.2.1 v7).2.2.1 != List.getD o0.2.1 (Int.toNat (ix vU o1.2.2.2.2.1 v7).2.1) (0:Int) then some (false,()) else Option.bind (jY (o0,(ix vU o1.2.2.2.2.1 v7).2.2.2.1,())) fun q5=>bif q5.1 then bif decide ((ix vU o1.2.2.2.2.1 v7).1 > o1.1) then some (false,()) else k1 (wI (v7 + 1),o0,o1) else some (false,()))) else L2 (0,o0,o1)
abbrev zbK (K:Nat):zbG→Option (Bool × Unit):=zg (fun k1=>zbJ (zbI K) k1) K
theorem zAr (K:Nat):∀ n,evV Es4 K Tryz.f162 0 (ch [.bool]) [1,1,1,0,1,0] [] zps n = zg (fun k1=>zbJ (zbI K) k1) n:=qu (B:=fun L2 k1=>zbJ L2 k1) (V1:=fun n1=>evV Es4 K Tryz.f162 0 (ch [.bool]) [1,1,1,1,0,1,0] [] zpr K) (W1:=fun k1=>(zbI K)) (fun n1=>zAq K K) fun n1 (v7,o0,o1)=>by kernel_rfl
def zbL (L1:zbG→Option (Bool × Unit)) (k0:zbH→Option (Bool × Unit)):zbH→Option (Bool × Unit):=fun (v5,o0,o1) =>
  bif decide (v5 < ((List.length o1.2.2.2.1):Int)) then inR v5 ((List.length o1.2.2.2.1):Int) (bif (ix zK o1.2.2.2.1 v5).1 then bif decide ((ix zK o1.2.2.2.1 v5).2.1 ≥ ((List.length o0.1):Int)) then some (false,()) else Option.bind (jY (o0,(ix zK o1.2.2.2.1 v5).2.2.1,())) fun q4=>bif q4.1 then bif decide ((ix zK o1.2.2.2.1 v5).2.2.2.2.2.2.2.2.2.1 ≥ ((List.length o1.2.2.2.2.1):Int)) then some (false,()) else k0 (wI (v5 + 1),o0,o1) else some (false,()) else k0 (wI (v5 + 1),o0,o1)) else L1 (0,o0,o1)
abbrev zjC (K:Nat):zbH→Option (Bool × Unit):=zg (fun k0=>zbL (zbK K) k0) K
theorem zAs (K:Nat):∀ n,evV Es4 K Tryz.f162 0 (ch [.bool]) [1,1,0,1,0] [] zAp n = zg (fun k0=>zbL (zbK K) k0) n:=qu (B:=fun L1 k0=>zbL L1 k0) (V1:=fun n0=>evV Es4 K Tryz.f162 0 (ch [.bool]) [1,1,1,0,1,0] [] zps K) (W1:=fun k0=>(zbK K)) (fun n0=>zAr K K) fun n0 (v5,o0,o1)=>by kernel_rfl
def zhO (L0:zbH→Option (Bool × Unit)):(zf × (zb × Unit))→Option (Bool × Unit):=fun (x0,x1,()) =>
  Option.bind (zi7 (x0,x1.2.2.1,())) fun q0=>bif q0.1 then Option.bind (znu (x1.2.2.2.1,())) fun q1=>bif q1.1 then Option.bind (znw (x1.2.2.2.2.1,())) fun q2=>bif q2.1 then Option.bind (zf1 (x1,zd zv,())) fun q3=>bif q3.1 then L0 (0,x0,x1) else some (false,()) else some (false,()) else some (false,()) else some (false,())
def zhP:(zf × zb × Unit)→Option (Bool × Unit):=zhO (zjC K0)
abbrev zsZ:Fun:=⟨162,(ch [zw,zo]),(ch [.bool]),0,zhP⟩
theorem zED:Sq zsZ:=ml4 (d:=false) (S:=fun K=>zhO (zjC K)) Tryz.func162 (by kernel_rfl) (fun K=>tr1 (T:=zhO) (zAs K K) fun (x0,x1,())=>by kernel_rfl) rfl
def zk1:(zf × (zb × (Int × (Int × Unit))))→Option (Bool × Unit):=fun (x0,x1,x2,x3,()) =>
  inR x2 ((List.length x1.2.1):Int) (inR x3 ((List.length (ix ze x1.2.1 x2).2.2.1):Int) (bif (List.getD (ix ze x1.2.1 x2).2.2.1 (Int.toNat x3) (zd zi)).1 then bif (List.getD (ix ze x1.2.1 x2).2.2.1 (Int.toNat x3) (zd zi)).2.2.1 == 1 then Option.bind (jY (x0,(List.getD (ix ze x1.2.1 x2).2.2.1 (Int.toNat x3) (zd zi)).2.2.2.1,())) fun q0=>bif q0.1 then some (true,()) else some (false,()) else bif (List.getD (ix ze x1.2.1 x2).2.2.1 (Int.toNat x3) (zd zi)).2.2.1 == 2 then Option.bind (zaH (x0,x1,(List.getD (ix ze x1.2.1 x2).2.2.1 (Int.toNat x3) (zd zi)).2.2.2.2.1,x2,())) fun q1=>bif q1.1 then some (true,()) else some (false,()) else bif decide ((List.getD (ix ze x1.2.1 x2).2.2.1 (Int.toNat x3) (zd zi)).2.2.2.1 < ((List.length (ix ze x1.2.1 x2).2.2.2.2.1):Int)) then inR (List.getD (ix ze x1.2.1 x2).2.2.1 (Int.toNat x3) (zd zi)).2.2.2.1 ((List.length (ix ze x1.2.1 x2).2.2.2.2.1):Int) (bif (List.getD (ix ze x1.2.1 x2).2.2.2.2.1 (Int.toNat (List.getD (ix ze x1.2.1 x2).2.2.1 (Int.toNat x3) (zd zi)).2.2.2.1) (zd zz)).1 then inR (List.getD (ix ze x1.2.1 x2).2.2.1 (Int.toNat x3) (zd zi)).2.2.2.1 ((List.length (ix ze x1.2.1 x2).2.2.2.2.1):Int) (bif (List.getD (ix ze x1.2.1 x2).2.2.2.2.1 (Int.toNat (List.getD (ix ze x1.2.1 x2).2.2.1 (Int.toNat x3) (zd zi)).2.2.2.1) (zd zz)).2.2.2.1.2.2.1 == x3 then some (true,()) else some (false,())) else some (false,())) else some (false,()) else some (true,())))
abbrev zxj:Fun:=⟨246,(ch [zw,zo,tI,tI]),(ch [.bool]),0,zk1⟩
theorem zJk:Sq zxj:=ms4 (d:=false) (K:=0) Tryz.func246 (by kernel_rfl) (funext fun (x0,x1,x2,x3,())=>by kernel_rfl)
abbrev L5:List Fun:=zm3 :: zsX :: zuX :: zxh :: zuY :: zxi :: zuZ :: zu0 :: zy8 :: zsZ :: zxj :: L4
theorem h5:Sds Tryz.prog E0 L5:=⟨zxg,zEA,zGA,zJi,zGB,zJj,zGC,zGD,zLu,zED,zJk,h4⟩
theorem ms5 {d:Bool} {F:Fun} {f:Go.Func} {K:Nat} (hf:Tryz.prog.funcs[F.id]? = some f) (ho:jm f = true) (h:evF (En E0 d L5) K f F.md F.a F.r = F.spec):Sd Tryz.prog E0 F:=mkS h5 hf ho h
theorem ml5 {d:Bool} {F:Fun} {f:Go.Func} {S:Nat→F.a.I→Option F.r.I} (hf:Tryz.prog.funcs[F.id]? = some f) (ho:jm f = true) (h:∀ K,evF (En E0 d L5) K f F.md F.a F.r = S K) (e:S K0 = F.spec):Sd Tryz.prog E0 F:=mkS h5 hf ho ((h K0).trans e)
abbrev Es5:Env:=En E0 false L5
def jW:(zf × Unit)→Option (Bool × Unit):=fun (x0,()) =>
  Option.bind (qw (((List.length x0.2.2.1):Int),1,8,())) fun q0=>bif q0.1 then Option.bind (zaY (x0.2.2.1,some zda,())) fun q1=>bif q1.1 then some (false,()) else Option.bind (zh9 (x0,())) fun q2=>Option.bind (zoF (q2.1,())) fun q3=>bif q3.1 then some (true,()) else some (false,()) else some (false,())
abbrev zpt:Fun:=⟨172,(ch [zw]),(ch [.bool]),0,jW⟩
theorem zAt:Sq zpt:=ms5 (d:=false) (K:=0) Tryz.func172 (by kernel_rfl) (funext fun (x0,())=>by kernel_rfl)
def zk2:((List qV) × Unit)→Option (Bool × Unit):=fun (x0,()) =>
  Option.bind (zdU (x0,some zhN,())) fun q0=>bif q0.1 then some (false,()) else some (true,())
abbrev zxk:Fun:=⟨104,(ch [(.sl qk)]),(ch [.bool]),0,zk2⟩
theorem zJl:Sq zxk:=ms5 (d:=false) (K:=0) Tryz.func104 (by kernel_rfl) (funext fun (x0,())=>by kernel_rfl)
def zcb:((List zh) × Unit)→Option (Bool × Unit):=fun (x0,()) =>
  Option.bind (jy (x0,some zi8,())) fun q0=>bif q0.1 then some (false,()) else some (true,())
abbrev zu2:Fun:=⟨106,(ch [(.sl zi)]),(ch [.bool]),0,zcb⟩
theorem zGG:Sq zu2:=ms5 (d:=false) (K:=0) Tryz.func106 (by kernel_rfl) (funext fun (x0,())=>by kernel_rfl)
def zk3:((List qr) × Unit)→Option (Bool × Unit):=fun (x0,()) =>
  Option.bind (jz (x0,some zk0,())) fun q0=>bif q0.1 then some (false,()) else some (true,())
abbrev zxl:Fun:=⟨107,(ch [(.sl zY)]),(ch [.bool]),0,zk3⟩
theorem zJm:Sq zxl:=ms5 (d:=false) (K:=0) Tryz.func107 (by kernel_rfl) (funext fun (x0,())=>by kernel_rfl)
abbrev ze6:Type:=Int × (List zp) × Int × Int × (List (List Int)) × Int × Int × List Int
abbrev zs0:ze6→St:=fun (v1,v31,v32,v33,v52,v53,v54,o0)=>St.mk [(1,.dat tI v1),(8,.ow 0),(31,.dat (.sl zy) v31),(32,.dat tI v32),(33,.dat tI v33),(52,.dat (.sl (.arr 4 tU)) v52),(53,.dat tI v53),(54,.dat tI v54)] [.row tU o0 false]
abbrev yZ:Type:=Int × (List zp) × Int × Int × List Int
abbrev zs1:yZ→St:=fun (v1,v31,v32,v33,o0)=>St.mk [(1,.dat tI v1),(8,.ow 0),(31,.dat (.sl zy) v31),(32,.dat tI v32),(33,.dat tI v33)] [.row tU o0 false]
def ze7 (k0:yZ→Option (Int × (Int × Unit))) (k1:ze6→Option (Int × (Int × Unit))):ze6→Option (Int × (Int × Unit)):=fun (v1,v31,v32,v33,v52,v53,v54,o0) =>
  bif decide (v54 < v53) then inR v54 ((List.length v52):Int) (inR v1 (↑4:Int) (bif decide (List.length o0 + List.length (zm (List.replicate 1 (0:Int)) 0 (List.getD (List.getD v52 (Int.toNat v54) (zd (.arr 4 tU))) (Int.toNat v1) (0:Int))) ≤ lim) then k1 (v1,v31,v32,v33,v52,v53,wI (v54 + 1),o0 ++ zm (List.replicate 1 (0:Int)) 0 (List.getD (List.getD v52 (Int.toNat v54) (zd (.arr 4 tU))) (Int.toNat v1) (0:Int))) else none)) else k0 (v1,v31,v32,wI (v33 + 1),o0)
abbrev ze8 (K:Nat) (k0:yZ→Option (Int × (Int × Unit))):ze6→Option (Int × (Int × Unit)):=zg (fun k1=>ze7 k0 k1) K
theorem zEE (K:Nat) (n0:Nat):∀ n,evV Es5 K Tryz.f137 0 (ch [tU,tI]) [1,1,1,1,1,0,1,0,0,1,1,0,0,1,1,1,1,1,0] [n0] zs0 n = zg (fun k1=>ze7 (evV Es5 K Tryz.f137 0 (ch [tU,tI]) [1,1,1,1,1,0,1,0] [] zs1 n0) k1) n:=zq fun n1 (v1,v31,v32,v33,v52,v53,v54,o0)=>by kernel_rfl
def zbg (L1:ze6→Option (Int × (Int × Unit))) (k0:yZ→Option (Int × (Int × Unit))):yZ→Option (Int × (Int × Unit)):=fun (v1,v31,v32,v33,o0) =>
  bif decide (v33 < v32) then inR v33 ((List.length v31):Int) (Option.bind (zkX ((ix ze v31 v33).2.2.2.2.1,v1,())) fun q2=>bif q2.2.1 != 0 then some (0,q2.2.1,()) else bif decide (List.length o0 + List.length (zm (List.replicate 1 (0:Int)) 0 q2.1) ≤ lim) then L1 (v1,v31,v32,v33,(ix ze v31 v33).2.2.2.2.2.1,((List.length (ix ze v31 v33).2.2.2.2.2.1):Int),0,o0 ++ zm (List.replicate 1 (0:Int)) 0 q2.1) else none) else Option.bind (zhB (o0,())) fun q3=>some (q3.1,q3.2.1,())
abbrev zs2 (K:Nat):yZ→Option (Int × (Int × Unit)):=zg (fun k0=>zbg (ze8 K k0) k0) K
theorem zEF (K:Nat):∀ n,evV Es5 K Tryz.f137 0 (ch [tU,tI]) [1,1,1,1,1,0,1,0] [] zs1 n = zg (fun k0=>zbg (ze8 K k0) k0) n:=qu (B:=fun L1 k0=>zbg L1 k0) (V1:=fun n0=>evV Es5 K Tryz.f137 0 (ch [tU,tI]) [1,1,1,1,1,0,1,0,0,1,1,0,0,1,1,1,1,1,0] [n0] zs0 K) (W1:=fun k0=>(ze8 K k0)) (fun n0=>zEE K n0 K) fun n0 (v1,v31,v32,v33,o0)=>by kernel_rfl
def zk4 (L0:yZ→Option (Int × (Int × Unit))):(zb × (Int × Unit))→Option (Int × (Int × Unit)):=fun (x0,x1,()) =>
  Option.bind (jt (x1,())) fun q0=>bif q0.1 then Option.bind (zmB (x0.2.2.2.1,x1,())) fun q1=>bif q1.2.1 != 0 then some (0,q1.2.1,()) else L0 (x1,x0.2.1,((List.length x0.2.1):Int),0,[q1.1]) else some (0,1,())
def zk5:(zb × Int × Unit)→Option (Int × Int × Unit):=zk4 (zs2 K0)
abbrev zxm:Fun:=⟨137,(ch [zo,tI]),(ch [tU,tI]),0,zk5⟩
theorem zJn:Sq zxm:=ml5 (d:=false) (S:=fun K=>zk4 (zs2 K)) Tryz.func137 (by kernel_rfl) (fun K=>tr1 (T:=zk4) (zEF K K) fun (x0,x1,())=>by kernel_rfl) rfl
abbrev zdf:Type:=Int × Int × zf × zb × zp
abbrev zqS:zdf→St:=fun (v2,v14,o0,o1,o2)=>St.mk [(2,.dat tI v2),(3,.bp 0 []),(4,.bp 1 []),(7,.bp 2 []),(14,.dat tI v14)] [.bx (.dat zw o0) false,.bx (.dat zo o1) false,.bx (.dat zy o2) false]
abbrev zdg:Type:=Int × Int × zf × zb × zp
abbrev zqT:zdg→St:=fun (v2,v12,o0,o1,o2)=>St.mk [(2,.dat tI v2),(3,.bp 0 []),(4,.bp 1 []),(7,.bp 2 []),(12,.dat tI v12)] [.bx (.dat zw o0) false,.bx (.dat zo o1) false,.bx (.dat zy o2) false]
abbrev zdh:Type:=Int × Int × zf × zb × zp
abbrev zqU:zdh→St:=fun (v2,v11,o0,o1,o2)=>St.mk [(2,.dat tI v2),(3,.bp 0 []),(4,.bp 1 []),(7,.bp 2 []),(11,.dat tI v11)] [.bx (.dat zw o0) false,.bx (.dat zo o1) false,.bx (.dat zy o2) false]
abbrev zdi:Type:=Int × Int × zf × zb × zp
abbrev zqV:zdi→St:=fun (v2,v10,o0,o1,o2)=>St.mk [(2,.dat tI v2),(3,.bp 0 []),(4,.bp 1 []),(7,.bp 2 []),(10,.dat tI v10)] [.bx (.dat zw o0) false,.bx (.dat zo o1) false,.bx (.dat zy o2) false]
abbrev zdj:Type:=Int × Int × zf × zb × zp
abbrev zCx:zdj→St:=fun (v2,v8,o0,o1,o2)=>St.mk [(2,.dat tI v2),(3,.bp 0 []),(4,.bp 1 []),(7,.bp 2 []),(8,.dat tI v8)] [.bx (.dat zw o0) false,.bx (.dat zo o1) false,.bx (.dat zy o2) false]
def zgI (k4:zdf→Option (Bool × Unit)):zdf→Option (Bool × Unit):=fun (v2,v14,o0,o1,o2) =>
  bif decide (v14 < ((List.length o2.2.2.2.2.2.2.1):Int)) then inR v14 ((List.length o2.2.2.2.2.2.2.1):Int) (Option.bind (zaH (o0,o1,ix zzG o2.2.2.2.2.2.2.1 v14,v2,())) fun q12=>bif q12.1 then k4 (v2,wI (v14 + 1),o0,o1,o2) else some (false,())) else some (true,())
abbrev zdk (K:Nat):zdf→Option (Bool × Unit):=zg zgI K
theorem zCy (K:Nat):∀ n,evV Es5 K Tryz.f163 0 (ch [.bool]) [1,1,1,1,1,1,1,0,1,0] [] zqS n = zg zgI n:=zq fun n4 (v2,v14,o0,o1,o2)=>by kernel_rfl
def zdl (L4:zdf→Option (Bool × Unit)) (k3:zdg→Option (Bool × Unit)):zdg→Option (Bool × Unit):=fun (v2,v12,o0,o1,o2) =>
  bif decide (v12 < ((List.length o2.2.2.2.1):Int)) then inR v12 ((List.length o2.2.2.2.1):Int) (bif (ix zaS o2.2.2.2.1 v12).1 then Option.bind (zgj (o0,(ix zaS o2.2.2.2.1 v12).2.1,v2,())) fun q9=>bif q9.1 then Option.bind (jY (o0,(ix zaS o2.2.2.2.1 v12).2.2.1,())) fun q10=>bif q10.1 then Option.bind (jY (o0,(ix zaS o2.2.2.2.1 v12).2.2.2.1,())) fun q11=>bif q11.1 then k3 (v2,wI (v12 + 1),o0,o1,o2) else some (false,()) else some (false,()) else some (false,()) else k3 (v2,wI (v12 + 1),o0,o1,o2)) else L4 (v2,0,o0,o1,o2)
abbrev zdm (K:Nat):zdg→Option (Bool × Unit):=zg (fun k3=>zdl (zdk K) k3) K
theorem zCz (K:Nat):∀ n,evV Es5 K Tryz.f163 0 (ch [.bool]) [1,1,1,1,1,1,0,1,0] [] zqT n = zg (fun k3=>zdl (zdk K) k3) n:=qu (B:=fun L4 k3=>zdl L4 k3) (V1:=fun n3=>evV Es5 K Tryz.f163 0 (ch [.bool]) [1,1,1,1,1,1,1,0,1,0] [] zqS K) (W1:=fun k3=>(zdk K)) (fun n3=>zCy K K) fun n3 (v2,v12,o0,o1,o2)=>by kernel_rfl
def zdn (L3:zdg→Option (Bool × Unit)) (k2:zdh→Option (Bool × Unit)):zdh→Option (Bool × Unit):=fun (v2,v11,o0,o1,o2) =>
  bif decide (v11 < ((List.length o2.2.2.2.2.1):Int)) then Option.bind (zkC (o0,o2,v11,())) fun q8=>bif q8.1 then k2 (v2,wI (v11 + 1),o0,o1,o2) else some (false,()) else L3 (v2,0,o0,o1,o2)
abbrev zdo (K:Nat):zdh→Option (Bool × Unit):=zg (fun k2=>zdn (zdm K) k2) K
theorem zCA (K:Nat):∀ n,evV Es5 K Tryz.f163 0 (ch [.bool]) [1,1,1,1,1,0,1,0] [] zqU n = zg (fun k2=>zdn (zdm K) k2) n:=qu (B:=fun L3 k2=>zdn L3 k2) (V1:=fun n2=>evV Es5 K Tryz.f163 0 (ch [.bool]) [1,1,1,1,1,1,0,1,0] [] zqT K) (W1:=fun k2=>(zdm K)) (fun n2=>zCz K K) fun n2 (v2,v11,o0,o1,o2)=>by kernel_rfl
def zdp (L2:zdh→Option (Bool × Unit)) (k1:zdi→Option (Bool × Unit)):zdi→Option (Bool × Unit):=fun (v2,v10,o0,o1,o2) =>
  bif decide (v10 < ((List.length o2.2.2.1):Int)) then Option.bind (zk1 (o0,o1,v2,v10,())) fun q7=>bif q7.1 then k1 (v2,wI (v10 + 1),o0,o1,o2) else some (false,()) else L2 (v2,0,o0,o1,o2)
abbrev zdq (K:Nat):zdi→Option (Bool × Unit):=zg (fun k1=>zdp (zdo K) k1) K
theorem zCB (K:Nat):∀ n,evV Es5 K Tryz.f163 0 (ch [.bool]) [1,1,1,1,0,1,0] [] zqV n = zg (fun k1=>zdp (zdo K) k1) n:=qu (B:=fun L2 k1=>zdp L2 k1) (V1:=fun n1=>evV Es5 K Tryz.f163 0 (ch [.bool]) [1,1,1,1,1,0,1,0] [] zqU K) (W1:=fun k1=>(zdo K)) (fun n1=>zCA K K) fun n1 (v2,v10,o0,o1,o2)=>by kernel_rfl
def zdr (L1:zdi→Option (Bool × Unit)) (k0:zdj→Option (Bool × Unit)):zdj→Option (Bool × Unit):=fun (v2,v8,o0,o1,o2) =>
  bif decide (v8 < ((List.length o2.2.1):Int)) then inR v8 ((List.length o2.2.1):Int) (bif (ix qh o2.2.1 v8).1 then Option.bind (zaH (o0,o1,(ix qh o2.2.1 v8).2.1,v2,())) fun q5=>bif q5.1 then Option.bind (zaH (o0,o1,(ix qh o2.2.1 v8).2.2.1,v2,())) fun q6=>bif q6.1 then k0 (v2,wI (v8 + 1),o0,o1,o2) else some (false,()) else some (false,()) else k0 (v2,wI (v8 + 1),o0,o1,o2)) else L1 (v2,0,o0,o1,o2)
abbrev zk6 (K:Nat):zdj→Option (Bool × Unit):=zg (fun k0=>zdr (zdq K) k0) K
theorem zCC (K:Nat):∀ n,evV Es5 K Tryz.f163 0 (ch [.bool]) [1,1,1,0,1,0] [] zCx n = zg (fun k0=>zdr (zdq K) k0) n:=qu (B:=fun L1 k0=>zdr L1 k0) (V1:=fun n0=>evV Es5 K Tryz.f163 0 (ch [.bool]) [1,1,1,1,0,1,0] [] zqV K) (W1:=fun k0=>(zdq K)) (fun n0=>zCB K K) fun n0 (v2,v8,o0,o1,o2)=>by kernel_rfl
def zja (L0:zdj→Option (Bool × Unit)):(zf × (zb × (Int × Unit)))→Option (Bool × Unit):=fun (x0,x1,x2,()) =>
  inR x2 ((List.length x1.2.1):Int) (Option.bind (zni ((ix ze x1.2.1 x2).1,())) fun q0=>bif q0.1 then Option.bind (znk ((ix ze x1.2.1 x2).2.1,())) fun q1=>bif q1.1 then Option.bind (yr ((ix ze x1.2.1 x2).2.2.1,())) fun q2=>bif q2.1 then Option.bind (zno ((ix ze x1.2.1 x2).2.2.2.1,())) fun q3=>bif q3.1 then Option.bind (znq ((ix ze x1.2.1 x2).2.2.2.2.1,())) fun q4=>bif q4.1 then L0 (x2,0,x0,x1,ix ze x1.2.1 x2) else some (false,()) else some (false,()) else some (false,()) else some (false,()) else some (false,()))
def zga:(zf × zb × Int × Unit)→Option (Bool × Unit):=zja (zk6 K0)
abbrev zu3:Fun:=⟨163,(ch [zw,zo,tI]),(ch [.bool]),0,zga⟩
theorem zGH:Sq zu3:=ml5 (d:=false) (S:=fun K=>zja (zk6 K)) Tryz.func163 (by kernel_rfl) (fun K=>tr1 (T:=zja) (zCC K K) fun (x0,x1,x2,())=>by kernel_rfl) rfl
abbrev L6:List Fun:=zpt :: zxk :: zu2 :: zxl :: zxm :: zu3 :: L5
theorem h6:Sds Tryz.prog E0 L6:=⟨zAt,zJl,zGG,zJm,zJn,zGH,h5⟩
theorem ms6 {d:Bool} {F:Fun} {f:Go.Func} {K:Nat} (hf:Tryz.prog.funcs[F.id]? = some f) (ho:jm f = true) (h:evF (En E0 d L6) K f F.md F.a F.r = F.spec):Sd Tryz.prog E0 F:=mkS h6 hf ho h
theorem ml6 {d:Bool} {F:Fun} {f:Go.Func} {S:Nat→F.a.I→Option F.r.I} (hf:Tryz.prog.funcs[F.id]? = some f) (ho:jm f = true) (h:∀ K,evF (En E0 d L6) K f F.md F.a F.r = S K) (e:S K0 = F.spec):Sd Tryz.prog E0 F:=mkS h6 hf ho ((h K0).trans e)
abbrev Es6:Env:=En E0 false L6
abbrev zds:Type:=Int × Int × zf × List (Option ((zf × Unit)→Option (Bool × Unit)))
abbrev zCD:zds→St:=fun (v6,v7,o0,o1)=>St.mk [(1,.bp 0 []),(5,.ow 1),(6,.dat tI v6),(7,.dat tI v7)] [.bx (.dat zw o0) false,.row (.fn (.pair zw .unit) (.pair .bool .unit)) o1 false]
def zgJ (k0:zds→Option (Bool × Unit)):zds→Option (Bool × Unit):=fun (v6,v7,o0,o1) =>
  bif decide (v7 < v6) then inR v7 ((List.length o1):Int) (Option.bind (List.getD o1 (Int.toNat v7) (zd (.fn (.pair zw .unit) (.pair .bool .unit)))) fun q0=>Option.bind (q0 (o0,())) fun q1=>bif q1.1 then k0 (v6,wI (v7 + 1),o0,o1) else some (false,())) else some (true,())
abbrev zqW (K:Nat):zds→Option (Bool × Unit):=zg zgJ K
theorem zCE (K:Nat):∀ n,evV Es6 K Tryz.f94 0 (ch [.bool]) [1,0,1,0] [] zCD n = zg zgJ n:=zq fun n0 (v6,v7,o0,o1)=>by kernel_rfl
def znA (L0:zds→Option (Bool × Unit)):(zf × Unit)→Option (Bool × Unit):=fun (x0,()) =>
  L0 (((List.length (zm (zm (zm (zm (zm (zm (List.replicate 6 (zd (.fn (.pair zw .unit) (.pair .bool .unit)))) 0 (some vM)) 1 (some yt)) 2 (some jW)) 3 (some vK)) 4 (some vL)) 5 (some zai))):Int),0,x0,[some vM,some yt,some jW,some vK,some vL,some zai])
def zaI:(zf × Unit)→Option (Bool × Unit):=znA (zqW K0)
abbrev zu4:Fun:=⟨94,(ch [zw]),(ch [.bool]),0,zaI⟩
theorem zGI:Sq zu4:=ml6 (d:=false) (S:=fun K=>znA (zqW K)) Tryz.func94 (by kernel_rfl) (fun K=>tr1 (T:=znA) (zCE K K) fun (x0,())=>by kernel_rfl) rfl
def zgK:(zp × Unit)→Option (Bool × Unit):=fun (x0,()) =>
  Option.bind (zk2 (x0.1,())) fun q0=>bif q0.1 then Option.bind (zph (x0.2.1,())) fun q1=>bif q1.1 then Option.bind (zcb (x0.2.2.1,())) fun q2=>bif q2.1 then Option.bind (zk3 (x0.2.2.2.1,())) fun q3=>bif q3.1 then Option.bind (zi9 (x0.2.2.2.2.1,())) fun q4=>bif q4.1 then some (true,()) else some (false,()) else some (false,()) else some (false,()) else some (false,()) else some (false,())
abbrev zqX:Fun:=⟨103,(ch [zy]),(ch [.bool]),0,zgK⟩
theorem zCF:Sq zqX:=ms6 (d:=false) (K:=0) Tryz.func103 (by kernel_rfl) (funext fun (x0,())=>by kernel_rfl)
abbrev zdt:Type:=Int × Int × (List zp) × Int × Int × qW
abbrev zqY:zdt→St:=fun (v3,v10,v15,v16,v17,o0)=>St.mk [(1,.bp 0 []),(3,.dat tI v3),(10,.dat tI v10),(15,.dat (.sl zy) v15),(16,.dat tI v16),(17,.dat tI v17)] [.bx (.dat qp o0) false]
abbrev yg:Type:=Int × qW
abbrev zqZ:yg→St:=fun (v10,o0)=>St.mk [(1,.bp 0 []),(10,.dat tI v10)] [.bx (.dat qp o0) false]
def zdu (k0:yg→Option (Bool × Unit)) (k1:zdt→Option (Bool × Unit)):zdt→Option (Bool × Unit):=fun (v3,v10,v15,v16,v17,o0) =>
  bif decide (v17 < v16) then inR v17 ((List.length v15):Int) (inR v3 (↑4:Int) (inR v17 ((List.length o0.1.2.2.2.2.1):Int) (bif decide (List.getD (ix ze v15 v17).2.2.2.2.2.2.2.1 (Int.toNat v3) (0:Int) > (ix qt o0.1.2.2.2.2.1 v17).2.2.2.2.2.1) then some (false,()) else k1 (v3,v10,v15,v16,wI (v17 + 1),o0)))) else Option.bind (zk5 (o0.2.1,v3,())) fun q0=>Option.bind (zkY (o0.2.1,v3,())) fun q1=>bif q0.2.1 != 0 then some (false,()) else bif q1.2.1 != 0 then some (false,()) else bif q0.1 != q1.1 then some (false,()) else k0 (wI (v10 + 1),o0)
abbrev zdv (K:Nat) (k0:yg→Option (Bool × Unit)):zdt→Option (Bool × Unit):=zg (fun k1=>zdu k0 k1) K
theorem zCG (K:Nat) (n0:Nat):∀ n,evV Es6 K Tryz.f68 0 (ch [.bool]) [1,0,1,0,0,1,1,0,0,1,0,1,0] [n0] zqY n = zg (fun k1=>zdu (evV Es6 K Tryz.f68 0 (ch [.bool]) [1,0,1,0] [] zqZ n0) k1) n:=zq fun n1 (v3,v10,v15,v16,v17,o0)=>by kernel_rfl
def zdw (L1:zdt→Option (Bool × Unit)) (k0:yg→Option (Bool × Unit)):yg→Option (Bool × Unit):=fun (v10,o0) =>
  bif decide (v10 < 4) then L1 (v10,v10,o0.2.1.2.1,((List.length o0.2.1.2.1):Int),0,o0) else some (true,())
abbrev zq0 (K:Nat):yg→Option (Bool × Unit):=zg (fun k0=>zdw (zdv K k0) k0) K
theorem zCH (K:Nat):∀ n,evV Es6 K Tryz.f68 0 (ch [.bool]) [1,0,1,0] [] zqZ n = zg (fun k0=>zdw (zdv K k0) k0) n:=qu (B:=fun L1 k0=>zdw L1 k0) (V1:=fun n0=>evV Es6 K Tryz.f68 0 (ch [.bool]) [1,0,1,0,0,1,1,0,0,1,0,1,0] [n0] zqY K) (W1:=fun k0=>(zdv K k0)) (fun n0=>zCG K n0 K) fun n0 (v10,o0)=>by kernel_rfl
def znB (L0:yg→Option (Bool × Unit)):(qW × Unit)→Option (Bool × Unit):=fun (x0,()) =>
  L0 (0,x0)
def zgb:(qW × Unit)→Option (Bool × Unit):=znB (zq0 K0)
abbrev zu5:Fun:=⟨68,(ch [qp]),(ch [.bool]),0,zgb⟩
theorem zGJ:Sq zu5:=ml6 (d:=false) (S:=fun K=>znB (zq0 K)) Tryz.func68 (by kernel_rfl) (fun K=>tr1 (T:=znB) (zCH K K) fun (x0,())=>by kernel_rfl) rfl
def zk7:((List zh) × (ByteArray × (Int × Unit)))→Option ((List zh) × (Int × (Int × Unit))):=fun (x0,x1,x2,()) =>
  Option.bind (zcb (x0,())) fun q0=>bif q0.1 then Option.bind (jU ((1,x2,(zd qm).2.2),())) fun q1=>bif q1.1 then Option.bind (zal (x1,())) fun q2=>bif q2.1 then Option.bind (zdV (x0,())) fun q3=>Option.bind (zn7 ((true,x1,(zd zi).2.2),(1,x2,(zd qm).2.2),())) fun q4=>Option.bind (zhK (q3.1,q4.1,())) fun q5=>some q5 else some ([],0,2,()) else some ([],0,1,()) else some ([],0,1,())
abbrev zxn:Fun:=⟨73,(ch [(.sl zi),.str,tI]),(ch [(.sl zi),tI,tI]),0,zk7⟩
theorem zJo:Sq zxn:=ms6 (d:=false) (K:=0) Tryz.func73 (by kernel_rfl) (funext fun (x0,x1,x2,())=>by kernel_rfl)
def zbM:((List zh) × (Int × (qS × (qS × Unit))))→Option ((List zh) × (Int × Unit)):=fun (x0,x1,x2,x3,()) =>
  Option.bind (zcb (x0,())) fun q0=>bif q0.1 then Option.bind (jU (x2,())) fun q1=>bif q1.1 then Option.bind (jU (x3,())) fun q2=>bif q2.1 then Option.bind (zdV (x0,())) fun q3=>Option.bind (zhC (q3.1,x1,())) fun q4=>bif q4.1 then inR x1 ((List.length x0):Int) (Option.bind (zhv (ix zj x0 x1,())) fun q5=>bif !eqI qm q5.1 x2 then some ([],3,()) else Option.bind (zdV (x0,())) fun q6=>inR x1 ((List.length x0):Int) (Option.bind (zn7 (ix zj x0 x1,x3,())) fun q7=>Option.bind (zba (q6.1,x1,q7.1,())) fun q8=>some q8)) else some ([],3,()) else some ([],1,()) else some ([],1,()) else some ([],1,())
abbrev zxo:Fun:=⟨158,(ch [(.sl zi),tI,qm,qm]),(ch [(.sl zi),tI]),0,zbM⟩
theorem zJp:Sq zxo:=ms6 (d:=false) (K:=0) Tryz.func158 (by kernel_rfl) (funext fun (x0,x1,x2,x3,())=>by kernel_rfl)
abbrev zdx:Type:=Int × Int × zf × zb
abbrev zq1:zdx→St:=fun (v5,v6,o0,o1)=>St.mk [(2,.bp 0 []),(3,.bp 1 []),(5,.dat tI v5),(6,.dat tI v6)] [.bx (.dat zw o0) false,.bx (.dat zo o1) false]
abbrev zdy:Type:=Int × zb
abbrev zq2:zdy→St:=fun (v7,o0)=>St.mk [(3,.bp 0 []),(7,.dat tI v7)] [.bx (.dat zo o0) false]
abbrev yh:Type:=Int × zf × zb
abbrev zq3:yh→St:=fun (v5,o0,o1)=>St.mk [(2,.bp 0 []),(3,.bp 1 []),(5,.dat tI v5)] [.bx (.dat zw o0) false,.bx (.dat zo o1) false]
def zgL (k0:yh→Option (Bool × Unit)) (k1:zdx→Option (Bool × Unit)):zdx→Option (Bool × Unit):=fun (v5,v6,o0,o1) =>
  bif decide (v6 < 4) then inR v5 ((List.length o1.2.1):Int) (inR v6 (↑4:Int) (inR v5 ((List.length o0.2.2.2.2.1):Int) (bif decide (List.getD (ix ze o1.2.1 v5).2.2.2.2.2.2.2.1 (Int.toNat v6) (0:Int) > (ix qt o0.2.2.2.2.1 v5).2.2.2.2.2.1) then some (false,()) else k1 (v5,wI (v6 + 1),o0,o1)))) else k0 (wI (v5 + 1),o0,o1)
abbrev zgM (K:Nat) (k0:yh→Option (Bool × Unit)):zdx→Option (Bool × Unit):=zg (fun k1=>zgL k0 k1) K
theorem zCI (K:Nat) (n0:Nat):∀ n,evV Es6 K Tryz.f82 0 (ch [.bool]) [1,1,0,1,0,0,1,0,0,1,1,0] [n0] zq1 n = zg (fun k1=>zgL (evV Es6 K Tryz.f82 0 (ch [.bool]) [1,1,0,1,0] [] zq3 n0) k1) n:=zq fun n1 (v5,v6,o0,o1)=>by kernel_rfl
def zk8 (k2:zdy→Option (Bool × Unit)):zdy→Option (Bool × Unit):=fun (v7,o0) =>
  bif decide (v7 < 4) then Option.bind (zkN (o0,v7,())) fun q4=>Option.bind (zkI (o0,v7,())) fun q5=>bif q4.2.1 != 0 then some (false,()) else bif q5.2.1 != 0 then some (false,()) else bif q4.1 != q5.1 then some (false,()) else k2 (wI (v7 + 1),o0) else some (true,())
abbrev zdz (K:Nat):zdy→Option (Bool × Unit):=zg zk8 K
theorem zCJ (K:Nat):∀ n,evV Es6 K Tryz.f82 0 (ch [.bool]) [1,1,1,0,1,0] [] zq2 n = zg zk8 n:=zq fun n2 (v7,o0)=>by kernel_rfl
def zdA (L1:zdx→Option (Bool × Unit)) (L2:zdy→Option (Bool × Unit)) (k0:yh→Option (Bool × Unit)):yh→Option (Bool × Unit):=fun (v5,o0,o1) =>
  bif decide (v5 < ((List.length o1.2.1):Int)) then Option.bind (zga (o0,o1,v5,())) fun q3=>bif q3.1 then L1 (v5,0,o0,o1) else some (false,()) else L2 (0,o1)
abbrev zk9 (K:Nat):yh→Option (Bool × Unit):=zg (fun k0=>zdA (zgM K k0) (zdz K) k0) K
theorem zCK (K:Nat):∀ n,evV Es6 K Tryz.f82 0 (ch [.bool]) [1,1,0,1,0] [] zq3 n = zg (fun k0=>zdA (zgM K k0) (zdz K) k0) n:=zOM (B:=fun L1 L2 k0=>zdA L1 L2 k0) (V1:=fun n0=>evV Es6 K Tryz.f82 0 (ch [.bool]) [1,1,0,1,0,0,1,0,0,1,1,0] [n0] zq1 K) (V2:=fun n0=>evV Es6 K Tryz.f82 0 (ch [.bool]) [1,1,1,0,1,0] [] zq2 K) (W1:=fun k0=>(zgM K k0)) (W2:=fun k0=>(zdz K)) (fun n0=>zCI K n0 K) (fun n0=>zCJ K K) fun n0 (v5,o0,o1)=>by kernel_rfl
def zjb (L0:yh→Option (Bool × Unit)):(zf × (zb × Unit))→Option (Bool × Unit):=fun (x0,x1,()) =>
  Option.bind (zf5 (x0,())) fun q0=>bif q0.1 then Option.bind (ziX (x0,x1,())) fun q1=>bif q1.1 then Option.bind (zhP (x0,x1,())) fun q2=>bif q2.1 then L0 (0,x0,x1) else some (false,()) else some (false,()) else some (false,())
def zjc:(zf × zb × Unit)→Option (Bool × Unit):=zjb (zk9 K0)
abbrev zu6:Fun:=⟨82,(ch [zw,zo]),(ch [.bool]),0,zjc⟩
theorem zGK:Sq zu6:=ml6 (d:=false) (S:=fun K=>zjb (zk9 K)) Tryz.func82 (by kernel_rfl) (fun K=>tr1 (T:=zjb) (zCK K K) fun (x0,x1,())=>by kernel_rfl) rfl
abbrev L7:List Fun:=zu4 :: zqX :: zu5 :: zxn :: zxo :: zu6 :: L6
theorem h7:Sds Tryz.prog E0 L7:=⟨zGI,zCF,zGJ,zJo,zJp,zGK,h6⟩
theorem ms7 {d:Bool} {F:Fun} {f:Go.Func} {K:Nat} (hf:Tryz.prog.funcs[F.id]? = some f) (ho:jm f = true) (h:evF (En E0 d L7) K f F.md F.a F.r = F.spec):Sd Tryz.prog E0 F:=mkS h7 hf ho h
theorem ml7 {d:Bool} {F:Fun} {f:Go.Func} {S:Nat→F.a.I→Option F.r.I} (hf:Tryz.prog.funcs[F.id]? = some f) (ho:jm f = true) (h:∀ K,evF (En E0 d L7) K f F.md F.a F.r = S K) (e:S K0 = F.spec):Sd Tryz.prog E0 F:=mkS h7 hf ho ((h K0).trans e)
abbrev Es7:Env:=En E0 false L7
abbrev Ed7:Env:=En E0 true L7
abbrev zdB:Type:=Int × (List zp) × Int × Int × qW
abbrev zCL:zdB→St:=fun (v3,v65,v66,v67,o0)=>St.mk [(1,.bp 0 []),(3,.dat tI v3),(65,.dat (.sl zy) v65),(66,.dat tI v66),(67,.dat tI v67)] [.bx (.dat qp o0) false]
def zgN (k0:zdB→Option (Bool × Unit)):zdB→Option (Bool × Unit):=fun (v3,v65,v66,v67,o0) =>
  bif decide (v67 < v66) then inR v67 ((List.length v65):Int) (inR v67 ((List.length o0.1.2.2.2.2.1):Int) (bif ((List.length (ix ze v65 v67).1):Int) != (ix qt o0.1.2.2.2.2.1 v67).1 then some (false,()) else bif ((List.length (ix ze v65 v67).2.1):Int) != (ix qt o0.1.2.2.2.2.1 v67).2.1 then some (false,()) else bif ((List.length (ix ze v65 v67).2.2.1):Int) != (ix qt o0.1.2.2.2.2.1 v67).2.2.1 then some (false,()) else bif ((List.length (ix ze v65 v67).2.2.2.1):Int) != (ix qt o0.1.2.2.2.2.1 v67).2.2.2.1 then some (false,()) else bif ((List.length (ix ze v65 v67).2.2.2.2.1):Int) != (ix qt o0.1.2.2.2.2.1 v67).2.2.2.2.1 then some (false,()) else bif ((List.length (ix ze v65 v67).2.2.2.2.2.1):Int) != v3 then some (false,()) else bif ((List.length (ix ze v65 v67).2.2.2.2.2.2.1):Int) != v3 then some (false,()) else k0 (v3,v65,v66,wI (v67 + 1),o0))) else some (true,())
abbrev zla (K:Nat):zdB→Option (Bool × Unit):=zg zgN K
theorem zCM (K:Nat):∀ n,evV Es7 K Tryz.f62 0 (ch [.bool]) [1,1,1,0,1,0] [] zCL n = zg zgN n:=zq fun n0 (v3,v65,v66,v67,o0)=>by kernel_rfl
def zjd (L0:zdB→Option (Bool × Unit)):(qW × Unit)→Option (Bool × Unit):=fun (x0,()) =>
  Option.bind (zaI (x0.1,())) fun q0=>bif q0.1 then bif ((List.length x0.2.1.2.1):Int) != ((List.length x0.1.1):Int) then some (false,()) else bif ((List.length x0.2.1.2.2.2.1):Int) != x0.1.2.2.2.2.2.1 then some (false,()) else bif decide (((List.length x0.2.1.2.2.2.2.1):Int) > x0.1.2.2.2.2.2.2.1) then some (false,()) else bif ((List.length x0.2.1.2.2.2.2.2.1):Int) != ((List.length x0.1.2.1):Int) then some (false,()) else bif decide (x0.2.1.1 > 4611686018427387904) then some (false,()) else L0 (((List.length x0.1.2.2.1):Int),x0.2.1.2.1,((List.length x0.2.1.2.1):Int),0,x0) else some (false,())
def zcc:(qW × Unit)→Option (Bool × Unit):=zjd (zla K0)
abbrev zu7:Fun:=⟨62,(ch [qp]),(ch [.bool]),0,zcc⟩
theorem zGL:Sq zu7:=ml7 (d:=false) (S:=fun K=>zjd (zla K)) Tryz.func62 (by kernel_rfl) (fun K=>tr1 (T:=zjd) (zCM K K) fun (x0,())=>by kernel_rfl) rfl
def zcd:(qW × Unit)→Option (Bool × Unit):=fun (x0,()) =>
  Option.bind (zie (x0.2.1.2.1,some zgK,())) fun q0=>bif q0.1 then some (true,()) else some (false,())
abbrev zu8:Fun:=⟨63,(ch [qp]),(ch [.bool]),0,zcd⟩
theorem zGM:Sq zu8:=ms7 (d:=false) (K:=0) Tryz.func63 (by kernel_rfl) (funext fun (x0,())=>by kernel_rfl)
abbrev ze9:Type:=(Option ((Int × Unit)→Option (Bool × Unit))) × (List (List Int)) × Int × Int × zf
abbrev zEG:ze9→St:=fun (v5,v19,v20,v21,o0)=>St.mk [(2,.bp 0 []),(5,.dat (.fn (.pair tI .unit) (.pair .bool .unit)) v5),(19,.dat (.sl (.sl tI)) v19),(20,.dat tI v20),(21,.dat tI v21)] [.bx (.dat zw o0) false]
def zhQ (k0:ze9→Option (Bool × Unit)):ze9→Option (Bool × Unit):=fun (v5,v19,v20,v21,o0) =>
  bif decide (v21 < v20) then inR v21 ((List.length v19):Int) (bif ((List.length (List.getD v19 (Int.toNat v21) ([]:List Int))):Int) != ((List.length o0.2.2.1):Int) then some (false,()) else Option.bind (qN (List.getD v19 (Int.toNat v21) ([]:List Int),v5,())) fun q1=>bif q1.1 then some (false,()) else inR v21 ((List.length o0.2.2.2.1):Int) (inR (ix qB o0.2.2.2.1 v21).2.1 ((List.length (List.getD v19 (Int.toNat v21) ([]:List Int))):Int) (bif List.getD (List.getD v19 (Int.toNat v21) ([]:List Int)) (Int.toNat (ix qB o0.2.2.2.1 v21).2.1) (0:Int) != 2 then some (false,()) else k0 (v5,v19,v20,wI (v21 + 1),o0)))) else some (true,())
abbrev zl6 (K:Nat):ze9→Option (Bool × Unit):=zg zhQ K
theorem zEH (K:Nat):∀ n,evV Es7 K Tryz.f109 0 (ch [.bool]) [1,1,1,0,1,0] [] zEG n = zg zhQ n:=zq fun n0 (v5,v19,v20,v21,o0)=>by kernel_rfl
def zlb (L0:ze9→Option (Bool × Unit)):(zf × ((List (List Int)) × Unit))→Option (Bool × Unit):=fun (x0,x1,()) =>
  Option.bind (zaI (x0,())) fun q0=>bif q0.1 then bif ((List.length x1):Int) != ((List.length x0.2.2.2.1):Int) then some (false,()) else L0 (some za8,x1,((List.length x1):Int),0,x0) else some (false,())
def zlc:(zf × (List (List Int)) × Unit)→Option (Bool × Unit):=zlb (zl6 K0)
abbrev zxp:Fun:=⟨109,(ch [zw,(.sl (.sl tI))]),(ch [.bool]),0,zlc⟩
theorem zJq:Sq zxp:=ml7 (d:=false) (S:=fun K=>zlb (zl6 K)) Tryz.func109 (by kernel_rfl) (fun K=>tr1 (T:=zlb) (zEH K K) fun (x0,x1,())=>by kernel_rfl) rfl
def zje:((List zh) × (Int × (Int × Unit)))→Option ((List zh) × (Int × Unit)):=fun (x0,x1,x2,()) =>
  Option.bind (j4 (x2,())) fun q0=>Option.bind (j4 (x2,())) fun q1=>Option.bind (zbM (x0,x1,q0.1,q1.1,())) fun q2=>bif q2.2.1 != 0 then some ([],q2.2.1,()) else Option.bind (zdV (x0,())) fun q3=>Option.bind (zba (q3.1,x1,zd zi,())) fun q4=>some q4
abbrev zu9:Fun:=⟨75,(ch [(.sl zi),tI,tI]),(ch [(.sl zi),tI]),0,zje⟩
theorem zGN:Sq zu9:=ms7 (d:=false) (K:=0) Tryz.func75 (by kernel_rfl) (funext fun (x0,x1,x2,())=>by kernel_rfl)
def zld:((List zh) × (Int × (Int × (zE × Unit))))→Option ((List zh) × (Int × Unit)):=fun (x0,x1,x2,x3,()) =>
  Option.bind (j4 (x2,())) fun q0=>Option.bind (zer (x3,())) fun q1=>Option.bind (zbM (x0,x1,q0.1,q1.1,())) fun q2=>some q2
abbrev zxq:Fun:=⟨77,(ch [(.sl zi),tI,tI,zv]),(ch [(.sl zi),tI]),0,zld⟩
theorem zJr:Sq zxq:=ms7 (d:=false) (K:=0) Tryz.func77 (by kernel_rfl) (funext fun (x0,x1,x2,x3,())=>by kernel_rfl)
def zle:((List zh) × (Int × (Int × (zE × Unit))))→Option ((List zh) × (Int × Unit)):=fun (x0,x1,x2,x3,()) =>
  Option.bind (zer (x3,())) fun q0=>Option.bind (j4 (x2,())) fun q1=>Option.bind (zbM (x0,x1,q0.1,q1.1,())) fun q2=>some q2
abbrev zxr:Fun:=⟨79,(ch [(.sl zi),tI,tI,zv]),(ch [(.sl zi),tI]),0,zle⟩
theorem zJs:Sq zxr:=ms7 (d:=false) (K:=0) Tryz.func79 (by kernel_rfl) (funext fun (x0,x1,x2,x3,())=>by kernel_rfl)
def zlf:((List zh) × (Int × (Int × (Int × Unit))))→Option ((List zh) × (Int × Unit)):=fun (x0,x1,x2,x3,()) =>
  Option.bind (j4 (x2,())) fun q0=>Option.bind (j4 (x3,())) fun q1=>Option.bind (zbM (x0,x1,q0.1,q1.1,())) fun q2=>some q2
abbrev zxs:Fun:=⟨81,(ch [(.sl zi),tI,tI,tI]),(ch [(.sl zi),tI]),0,zlf⟩
theorem zJt:Sq zxs:=ms7 (d:=false) (K:=0) Tryz.func81 (by kernel_rfl) (funext fun (x0,x1,x2,x3,())=>by kernel_rfl)
def zgk:(zf × (zb × (pMe × Unit)))→Option (Bool × Unit):=fun (x0,x1,x2,()) =>
  Option.bind (zjc (x0,x1,())) fun q0=>bif q0.1 then Option.bind (zkJ (x0,x2,())) fun q1=>bif q1.1 then some (true,()) else some (false,()) else some (false,())
abbrev zy9:Fun:=⟨40,(ch [zw,zo,tMe]),(ch [.bool]),0,zgk⟩
theorem zLv:Sq zy9:=ms7 (d:=false) (K:=0) Tryz.func40 (by kernel_rfl) (funext fun (x0,x1,x2,())=>by kernel_rfl)
def zdC:(zf × (Int × Unit))→Option (Bool × Unit):=fun (x0,x1,()) =>
  Option.bind (zaI (x0,())) fun q0=>bif q0.1 then Option.bind (qw (x1,0,wI (((List.length x0.1):Int) - 1),())) fun q1=>bif q1.1 then some (true,()) else some (false,()) else some (false,())
abbrev zq4:Fun:=⟨91,(ch [zw,tI]),(ch [.bool]),0,zdC⟩
theorem zCN:Sq zq4:=ms7 (d:=false) (K:=0) Tryz.func91 (by kernel_rfl) (funext fun (x0,x1,())=>by kernel_rfl)
abbrev zg8:Type:=(List zE) × Int × Int × zf × List (List Int) × Nat
abbrev zJu:zg8→St:=fun (v11,v12,v13,o0,o1,c1)=>St.mk [(1,.bp 0 []),(3,.ow 1),(11,.dat (.sl jq) v11),(12,.dat tI v12),(13,.dat tI v13)] [.bx (.dat zw o0) false,.drow (.sl tI) o1 c1]
def zxt (k0:zg8→Option ((List (List Int)) × Unit)):zg8→Option ((List (List Int)) × Unit):=fun (v11,v12,v13,o0,o1,c1) =>
  bif decide (v13 < v12) then inR v13 ((List.length v11):Int) (bif decide (((List.length o0.2.2.1):Int) ≤ ((List.length o0.2.2.1):Int)) then bif decide (((List.length o0.2.2.1):Int) ≤ (↑lim:Int)) then inR (ix qB v11 v13).2.1 ((List.length (List.replicate (Int.toNat ((List.length o0.2.2.1):Int)) (0:Int))):Int) (bif decide (List.length o1 + List.length [List.set (List.replicate (Int.toNat ((List.length o0.2.2.1):Int)) (0:Int)) (Int.toNat (ix qB v11 v13).2.1) 2] ≤ lim) then bif decide (c1 = List.length o1) then k0 (v11,v12,wI (v13 + 1),o0,o1 ++ [List.set (List.replicate (Int.toNat ((List.length o0.2.2.1):Int)) (0:Int)) (Int.toNat (ix qB v11 v13).2.1) 2],c1 + (0 + 1)) else none else none) else none else none) else bif decide (c1 = List.length o1) then some (o1,()) else none
abbrev zxu (K:Nat):zg8→Option ((List (List Int)) × Unit):=zg zxt K
theorem zJv (K:Nat):∀ n,evV Ed7 K Tryz.f95 4 (ch [(.sl (.sl tI))]) [1,1,1,0,1,0] [] zJu n = zg zxt n:=zq fun n0 (v11,v12,v13,o0,o1,c1)=>by kernel_rfl
def ztV (L0:zg8→Option ((List (List Int)) × Unit)):(zf × Unit)→Option ((List (List Int)) × Unit):=fun (x0,()) =>
  Option.bind (zaI (x0,())) fun q0=>bif q0.1 then L0 (x0.2.2.2.1,((List.length x0.2.2.2.1):Int),0,x0,[],0) else some ([],())
def zCO:(zf × Unit)→Option ((List (List Int)) × Unit):=ztV (zxu K0)
abbrev zCP:Fun:=⟨95,(ch [zw]),(ch [(.sl (.sl tI))]),4,zCO⟩
theorem zNu:Sq zCP:=ml7 (d:=true) (S:=fun K=>ztV (zxu K)) Tryz.func95 (by kernel_rfl) (fun K=>tr1 (T:=ztV) (zJv K K) fun (x0,())=>by kernel_rfl) rfl
abbrev L8:List Fun:=zu7 :: zu8 :: zxp :: zu9 :: zxq :: zxr :: zxs :: zy9 :: zq4 :: zCP :: L7
theorem h8:Sds Tryz.prog E0 L8:=⟨zGL,zGM,zJq,zGN,zJr,zJs,zJt,zLv,zCN,zNu,h7⟩
end
end Go.Proofs.YtejbgeokcpillaaGreatDoor
end
section
namespace Go.Proofs.YtejbgeokcpillaaGreatDoor
open Go.Ev
noncomputable section
theorem ms8 {d:Bool} {F:Fun} {f:Go.Func} {K:Nat} (hf:Tryz.prog.funcs[F.id]? = some f) (ho:jm f = true) (h:evF (En E0 d L8) K f F.md F.a F.r = F.spec):Sd Tryz.prog E0 F:=mkS h8 hf ho h
theorem ml8 {d:Bool} {F:Fun} {f:Go.Func} {S:Nat→F.a.I→Option F.r.I} (hf:Tryz.prog.funcs[F.id]? = some f) (ho:jm f = true) (h:∀ K,evF (En E0 d L8) K f F.md F.a F.r = S K) (e:S K0 = F.spec):Sd Tryz.prog E0 F:=mkS h8 hf ho ((h K0).trans e)
abbrev Es8:Env:=En E0 false L8
abbrev Ed8:Env:=En E0 true L8
def zbh:(qW × Unit)→Option (Bool × Unit):=fun (x0,()) =>
  Option.bind (zlc (x0.1,x0.2.1.2.2.1,())) fun q0=>bif q0.1 then Option.bind (zpq (x0.2.1.2.2.2.1,())) fun q1=>bif q1.1 then Option.bind (zny (x0.2.1.2.2.2.2.1,())) fun q2=>bif q2.1 then Option.bind (zfW (x0.2.1,zd zv,())) fun q3=>bif q3.1 then Option.bind (zif (x0.2.1.2.2.2.1,some fun z=>zfF (z.1,some x0,()),())) fun q4=>bif q4.1 then Option.bind (zd9 (x0.2.1.2.2.2.2.1,some fun z=>zbr (z.1,some x0,()),())) fun q5=>bif q5.1 then Option.bind (zav (x0.2.1.2.2.2.2.2.1,some fun z=>vu (z.1,some x0,()),())) fun q6=>bif q6.1 then some (true,()) else some (false,()) else Option.bind (zav (x0.2.1.2.2.2.2.2.1,some fun z=>vu (z.1,some x0,()),())) fun q7=>bif q7.1 then some (false,()) else some (false,()) else Option.bind (zd9 (x0.2.1.2.2.2.2.1,some fun z=>zbr (z.1,some x0,()),())) fun q8=>bif q8.1 then Option.bind (zav (x0.2.1.2.2.2.2.2.1,some fun z=>vu (z.1,some x0,()),())) fun q9=>bif q9.1 then some (false,()) else some (false,()) else Option.bind (zav (x0.2.1.2.2.2.2.2.1,some fun z=>vu (z.1,some x0,()),())) fun q10=>bif q10.1 then some (false,()) else some (false,()) else some (false,()) else some (false,()) else some (false,()) else some (false,())
abbrev zs3:Fun:=⟨64,(ch [qp]),(ch [.bool]),0,zbh⟩
theorem zEI:Sq zs3:=ms8 (d:=false) (K:=0) Tryz.func64 (by kernel_rfl) (funext fun (x0,())=>by kernel_rfl)
def zlg:((List zh) × ((Option Int) × ((Option pMe) × Unit)))→Option ((List zh) × (Int × Unit)):=fun (x0,x1,x2,()) =>
  Option.bind x1 fun q0=>Option.bind x2 fun q1=>Option.bind (zje (x0,q0,q1.2.2.1,())) fun q2=>some q2
abbrev zq5:Fun:=⟨74,(ch [(.sl zi),(.ptr tI),(.ptr tMe)]),(ch [(.sl zi),tI]),0,zlg⟩
theorem zCQ:Sq zq5:=ms8 (d:=false) (K:=0) Tryz.func74 (by kernel_rfl) (funext fun (x0,x1,x2,())=>by kernel_rfl)
def zl7:((List zh) × ((Option Int) × ((Option pMe) × ((Option zb) × Unit))))→Option ((List zh) × (Int × Unit)):=fun (x0,x1,x2,x3,()) =>
  Option.bind x1 fun q0=>Option.bind x2 fun q1=>Option.bind x3 fun q2=>Option.bind x2 fun q3=>Option.bind (yo (q2,q3,())) fun q4=>Option.bind (zld (x0,q0,q1.2.2.1,q4.1,())) fun q5=>some q5
abbrev zs4:Fun:=⟨76,(ch [(.sl zi),(.ptr tI),(.ptr tMe),(.ptr zo)]),(ch [(.sl zi),tI]),0,zl7⟩
theorem zEJ:Sq zs4:=ms8 (d:=false) (K:=0) Tryz.func76 (by kernel_rfl) (funext fun (x0,x1,x2,x3,())=>by kernel_rfl)
def zl8:((List zh) × ((Option Int) × ((Option pMe) × ((Option zb) × Unit))))→Option ((List zh) × (Int × Unit)):=fun (x0,x1,x2,x3,()) =>
  Option.bind x1 fun q0=>Option.bind x2 fun q1=>Option.bind x3 fun q2=>Option.bind x2 fun q3=>Option.bind (yo (q2,q3,())) fun q4=>Option.bind (zle (x0,q0,q1.2.2.1,q4.1,())) fun q5=>some q5
abbrev zs5:Fun:=⟨78,(ch [(.sl zi),(.ptr tI),(.ptr tMe),(.ptr zo)]),(ch [(.sl zi),tI]),0,zl8⟩
theorem zEK:Sq zs5:=ms8 (d:=false) (K:=0) Tryz.func78 (by kernel_rfl) (funext fun (x0,x1,x2,x3,())=>by kernel_rfl)
def zmC:(zf × (zb × (pMe × (Int × (Int × (Int × (ByteArray × Unit)))))))→Option (zb × (Int × (Int × Unit))):=fun (x0,x1,x2,x3,x4,x5,x6,()) =>
  Option.bind (zgk (x0,x1,x2,())) fun q0=>bif q0.1 then inR x2.2.1 ((List.length x1.2.1):Int) (bif x3 == 1 then Option.bind (zkP ((ix ze x1.2.1 x2.2.1).2.2.1,x6,x2.2.2.1,())) fun q1=>bif q1.2.2.1 != 0 then some ((0,[],[],[],[],[],()),0,q1.2.2.1,()) else Option.bind (ya (x1,x2.2.1,(u2 (ix ze x1.2.1 x2.2.1) q1.1),())) fun q2=>some (q2.1,q1.2.1,0,()) else bif x3 == 2 then Option.bind (zi4 ((ix ze x1.2.1 x2.2.1).2.2.1,x4,x2.2.2.1,())) fun q3=>bif q3.2.1 != 0 then some ((0,[],[],[],[],[],()),0,q3.2.1,()) else Option.bind (ya (x1,x2.2.1,(u2 (ix ze x1.2.1 x2.2.1) q3.1),())) fun q4=>some (q4.1,0,0,()) else bif x3 == 3 then Option.bind (zes (x1,x2,())) fun q5=>Option.bind (zkQ ((ix ze x1.2.1 x2.2.1).2.2.1,x4,x2.2.2.1,q5.1,())) fun q6=>bif q6.2.1 != 0 then some ((0,[],[],[],[],[],()),0,q6.2.1,()) else Option.bind (ya (x1,x2.2.1,(u2 (ix ze x1.2.1 x2.2.1) q6.1),())) fun q7=>some (q7.1,0,0,()) else bif x3 == 4 then Option.bind (zes (x1,x2,())) fun q8=>Option.bind (zkR ((ix ze x1.2.1 x2.2.1).2.2.1,x4,x2.2.2.1,q8.1,())) fun q9=>bif q9.2.1 != 0 then some ((0,[],[],[],[],[],()),0,q9.2.1,()) else Option.bind (ya (x1,x2.2.1,(u2 (ix ze x1.2.1 x2.2.1) q9.1),())) fun q10=>some (q10.1,0,0,()) else bif decide (x5 < 0) then some ((0,[],[],[],[],[],()),0,1,()) else bif decide (x5 ≥ ((List.length x0.2.2.1):Int)) then some ((0,[],[],[],[],[],()),0,1,()) else bif x5 == x2.2.2.1 then some ((0,[],[],[],[],[],()),0,1,()) else Option.bind (vI ((ix ze x1.2.1 x2.2.1).2.2.1,x4,x2.2.2.1,())) fun q11=>bif q11.1 then inR x5 ((List.length (ix ze x1.2.1 x2.2.1).2.2.2.2.2.2.1):Int) (inR x2.2.2.1 ((List.length (ix ze x1.2.1 x2.2.1).2.2.2.2.2.2.1):Int) (bif !eqI zv (List.getD (ix ze x1.2.1 x2.2.1).2.2.2.2.2.2.1 (Int.toNat x5) (zd zv)) (List.getD (ix ze x1.2.1 x2.2.1).2.2.2.2.2.2.1 (Int.toNat x2.2.2.1) (zd zv)) then some ((0,[],[],[],[],[],()),0,5,()) else Option.bind (zkS ((ix ze x1.2.1 x2.2.1).2.2.1,x4,x2.2.2.1,1,x5,())) fun q12=>bif q12.2.1 != 0 then some ((0,[],[],[],[],[],()),0,q12.2.1,()) else Option.bind (ya (x1,x2.2.1,(u2 (ix ze x1.2.1 x2.2.1) q12.1),())) fun q13=>some (q13.1,0,0,()))) else some ((0,[],[],[],[],[],()),0,3,())) else some ((0,[],[],[],[],[],()),0,1,())
abbrev zza:Fun:=⟨8,(ch [zw,zo,tMe,tI,tI,tI,.str]),(ch [zo,tI,tI]),0,zmC⟩
theorem zLw:Sq zza:=ms8 (d:=false) (K:=0) Tryz.func8 (by kernel_rfl) (funext fun (x0,x1,x2,x3,x4,x5,x6,())=>by kernel_rfl)
def zmD:(zf × (zb × (pMe × Unit)))→Option ((List Int) × (Int × Unit)):=fun (x0,x1,x2,()) =>
  Option.bind (zgk (x0,x1,x2,())) fun q0=>bif q0.1 then inR x2.2.1 ((List.length x1.2.1):Int) (Option.bind (zpe ((ix ze x1.2.1 x2.2.1).2.2.1,x2.2.2.1,())) fun q1=>some (q1.1,0,())) else some ([],1,())
abbrev zzb:Fun:=⟨10,(ch [zw,zo,tMe]),(ch [(.sl tI),tI]),0,zmD⟩
theorem zLx:Sq zzb:=ms8 (d:=false) (K:=0) Tryz.func10 (by kernel_rfl) (funext fun (x0,x1,x2,())=>by kernel_rfl)
def zmE:(zf × (Int × (Int × Unit)))→Option (Bool × Unit):=fun (x0,x1,x2,()) =>
  Option.bind (zdC (x0,x1,())) fun q0=>bif q0.1 then Option.bind (zdC (x0,x2,())) fun q1=>bif q1.1 then inR x1 ((List.length x0.1):Int) (inR x2 ((List.length x0.1):Int) (Option.bind (ziv (ix jh x0.1 x1,ix jh x0.1 x2,())) fun q2=>bif q2.1 then some (true,()) else some (false,()))) else some (false,()) else some (false,())
abbrev zzc:Fun:=⟨52,(ch [zw,tI,tI]),(ch [.bool]),0,zmE⟩
theorem zLy:Sq zzc:=ms8 (d:=false) (K:=0) Tryz.func52 (by kernel_rfl) (funext fun (x0,x1,x2,())=>by kernel_rfl)
abbrev zbN:Type:=Int × Int × zf × zb × pMe × List zE
abbrev zpu:zbN→St:=fun (v9,v10,o0,o1,o2,o3)=>St.mk [(3,.bp 0 []),(4,.bp 1 []),(5,.bp 2 []),(8,.ow 3),(9,.dat tI v9),(10,.dat tI v10)] [.bx (.dat zw o0) false,.bx (.dat zo o1) false,.bx (.dat tMe o2) false,.row jq o3 false]
abbrev vy:Type:=Int × zf × zb × pMe × List zE
abbrev zpv:vy→St:=fun (v9,o0,o1,o2,o3)=>St.mk [(3,.bp 0 []),(4,.bp 1 []),(5,.bp 2 []),(8,.ow 3),(9,.dat tI v9)] [.bx (.dat zw o0) false,.bx (.dat zo o1) false,.bx (.dat tMe o2) false,.row jq o3 false]
def zbO (k0:vy→Option ((List zE) × (Int × Unit))) (k1:zbN→Option ((List zE) × (Int × Unit))):zbN→Option ((List zE) × (Int × Unit)):=fun (v9,v10,o0,o1,o2,o3) =>
  inR v9 ((List.length o1.2.1):Int) (bif decide (v10 < ((List.length (ix ze o1.2.1 v9).2.2.1):Int)) then inR v9 ((List.length o1.2.1):Int) (inR v10 ((List.length (ix ze o1.2.1 v9).2.2.1):Int) (bif (List.getD (ix ze o1.2.1 v9).2.2.1 (Int.toNat v10) (zd zi)).1 then bif (List.getD (ix ze o1.2.1 v9).2.2.1 (Int.toNat v10) (zd zi)).2.2.1 == 2 then Option.bind (zes (o1,o2,())) fun q1=>bif eqI zv (List.getD (ix ze o1.2.1 v9).2.2.1 (Int.toNat v10) (zd zi)).2.2.2.2.1 q1.1 then Option.bind (zgj (o0,v9,o2.2.1,())) fun q2=>bif q2.1 then bif decide (List.length o3 + List.length (zm (List.replicate 1 (zd zv)) 0 (v9,v10,(zd zv).2.2)) ≤ lim) then k1 (v9,wI (v10 + 1),o0,o1,o2,o3 ++ zm (List.replicate 1 (zd zv)) 0 (v9,v10,(zd zv).2.2)) else none else k1 (v9,wI (v10 + 1),o0,o1,o2,o3) else k1 (v9,wI (v10 + 1),o0,o1,o2,o3) else k1 (v9,wI (v10 + 1),o0,o1,o2,o3) else k1 (v9,wI (v10 + 1),o0,o1,o2,o3))) else k0 (wI (v9 + 1),o0,o1,o2,o3))
abbrev zfP (K:Nat) (k0:vy→Option ((List zE) × (Int × Unit))):zbN→Option ((List zE) × (Int × Unit)):=zg (fun k1=>zbO k0 k1) K
theorem zAu (K:Nat) (n0:Nat):∀ n,evV Es8 K Tryz.f12 0 (ch [(.sl zv),tI]) [1,1,1,0,1,0,0,1,0,0,1,0] [n0] zpu n = zg (fun k1=>zbO (evV Es8 K Tryz.f12 0 (ch [(.sl zv),tI]) [1,1,1,0,1,0] [] zpv n0) k1) n:=zq fun n1 (v9,v10,o0,o1,o2,o3)=>by kernel_rfl
def y0 (L1:zbN→Option ((List zE) × (Int × Unit))) (k0:vy→Option ((List zE) × (Int × Unit))):vy→Option ((List zE) × (Int × Unit)):=fun (v9,o0,o1,o2,o3) =>
  bif decide (v9 < ((List.length o1.2.1):Int)) then L1 (v9,0,o0,o1,o2,o3) else some (o3,0,())
abbrev zpw (K:Nat):vy→Option ((List zE) × (Int × Unit)):=zg (fun k0=>y0 (zfP K k0) k0) K
theorem zAv (K:Nat):∀ n,evV Es8 K Tryz.f12 0 (ch [(.sl zv),tI]) [1,1,1,0,1,0] [] zpv n = zg (fun k0=>y0 (zfP K k0) k0) n:=qu (B:=fun L1 k0=>y0 L1 k0) (V1:=fun n0=>evV Es8 K Tryz.f12 0 (ch [(.sl zv),tI]) [1,1,1,0,1,0,0,1,0,0,1,0] [n0] zpu K) (W1:=fun k0=>(zfP K k0)) (fun n0=>zAu K n0 K) fun n0 (v9,o0,o1,o2,o3)=>by kernel_rfl
def zhR (L0:vy→Option ((List zE) × (Int × Unit))):(zf × (zb × (pMe × Unit)))→Option ((List zE) × (Int × Unit)):=fun (x0,x1,x2,()) =>
  Option.bind (zgk (x0,x1,x2,())) fun q0=>bif q0.1 then L0 (0,x0,x1,x2,[]) else some ([],1,())
def zhS:(zf × zb × pMe × Unit)→Option ((List qy) × Int × Unit):=zhR (zpw K0)
abbrev zs6:Fun:=⟨12,(ch [zw,zo,tMe]),(ch [(.sl zv),tI]),0,zhS⟩
theorem zEL:Sq zs6:=ml8 (d:=false) (S:=fun K=>zhR (zpw K)) Tryz.func12 (by kernel_rfl) (fun K=>tr1 (T:=zhR) (zAv K K) fun (x0,x1,x2,())=>by kernel_rfl) rfl
abbrev zgc:Type:=Int × Int × Int × Int × List zp × Nat × List (List Int) × Nat × List zu × List zJ × List Int × List zp × Nat × List (List Int) × Nat × List zu × List zJ × List Int
abbrev zva:zgc→St:=fun (v42,v43,o0_0,o1_0,o2,c2,o3,c3,o4,o5,o6,o7,c7,o8,c8,o9,o10,o11)=>St.mk [(2,.bp 0 []),(4,.bp 1 []),(42,.dat tI v42),(43,.dat tI v43)] [.bx (.fld (.pair tU (.pair (.sl zy) (.pair (.sl (.sl tI)) (.pair (.sl zr) (.pair (.sl zA) (.pair (.sl tI) .unit)))))) [.dat tU o0_0,.ow 2,.ow 3,.ow 4,.ow 5,.ow 6]) false,.bx (.fld (.pair tU (.pair (.sl zy) (.pair (.sl (.sl tI)) (.pair (.sl zr) (.pair (.sl zA) (.pair (.sl tI) .unit)))))) [.dat tU o1_0,.ow 7,.ow 8,.ow 9,.ow 10,.ow 11]) false,.drow zy o2 c2,.drow (.sl tI) o3 c3,.row zr o4 false,.row zA o5 false,.row tI o6 false,.drow zy o7 c7,.drow (.sl tI) o8 c8,.row zr o9 false,.row zA o10 false,.row tI o11 false]
abbrev zgd:Type:=(List zbn) × Int × Int × zf × Int × Int × List zp × Nat × List (List Int) × Nat × List zu × List zJ × List Int × List zp × Nat × List (List Int) × Nat × List zu × List zJ × List Int
abbrev zGO:zgd→St:=fun (v18,v19,v20,o0,o1_0,o2_0,o3,c3,o4,c4,o5,o6,o7,o8,c8,o9,c9,o10,o11,o12)=>St.mk [(1,.bp 0 []),(2,.bp 1 []),(4,.bp 2 []),(18,.dat (.sl zcp) v18),(19,.dat tI v19),(20,.dat tI v20)] [.bx (.dat zw o0) false,.bx (.fld (.pair tU (.pair (.sl zy) (.pair (.sl (.sl tI)) (.pair (.sl zr) (.pair (.sl zA) (.pair (.sl tI) .unit)))))) [.dat tU o1_0,.ow 3,.ow 4,.ow 5,.ow 6,.ow 7]) false,.bx (.fld (.pair tU (.pair (.sl zy) (.pair (.sl (.sl tI)) (.pair (.sl zr) (.pair (.sl zA) (.pair (.sl tI) .unit)))))) [.dat tU o2_0,.ow 8,.ow 9,.ow 10,.ow 11,.ow 12]) false,.drow zy o3 c3,.drow (.sl tI) o4 c4,.row zr o5 false,.row zA o6 false,.row tI o7 false,.drow zy o8 c8,.drow (.sl tI) o9 c9,.row zr o10 false,.row zA o11 false,.row tI o12 false]
def zvb (k1:zgc→Option (zb × (Int × Unit))):zgc→Option (zb × (Int × Unit)):=fun (v42,v43,o0_0,o1_0,o2,c2,o3,c3,o4,o5,o6,o7,c7,o8,c8,o9,o10,o11) =>
  bif decide (v43 < v42) then bif decide (List.length o11 + List.length (zm (List.replicate 1 (0:Int)) 0 (-1)) ≤ lim) then k1 (v42,wI (v43 + 1),o0_0,o1_0,o2,c2,o3,c3,o4,o5,o6,o7,c7,o8,c8,o9,o10,o11 ++ zm (List.replicate 1 (0:Int)) 0 (-1)) else none else bif decide (c7 = List.length o7) then bif decide (c8 = List.length o8) then some ((o1_0,o7,o8,o9,o10,o11,()),0,()) else none else none
abbrev znC (K:Nat):zgc→Option (zb × (Int × Unit)):=zg zvb K
theorem zGP (K:Nat):∀ n,evV Ed8 K Tryz.f57 3 (ch [zo,tI]) [1,1,1,1,1,0,1,0] [] zva n = zg zvb n:=zq fun n1 (v42,v43,o0_0,o1_0,o2,c2,o3,c3,o4,o5,o6,o7,c7,o8,c8,o9,o10,o11)=>by kernel_rfl
def znD (L1:zgc→Option (zb × (Int × Unit))) (k0:zgd→Option (zb × (Int × Unit))):zgd→Option (zb × (Int × Unit)):=fun (v18,v19,v20,o0,o1_0,o2_0,o3,c3,o4,c4,o5,o6,o7,o8,c8,o9,c9,o10,o11,o12) =>
  bif decide (v20 < v19) then inR v20 ((List.length v18):Int) (Option.bind (zuC (o0,ix qt v18 v20,())) fun q2=>bif decide (List.length o8 + List.length [(q2.1.1,q2.1.2.1,q2.1.2.2.1,q2.1.2.2.2.1,q2.1.2.2.2.2.1,q2.1.2.2.2.2.2.1,q2.1.2.2.2.2.2.2.1,q2.1.2.2.2.2.2.2.2.1,q2.1.2.2.2.2.2.2.2.2.1,())] ≤ lim) then bif decide (c8 = List.length o8) then k0 (v18,v19,wI (v20 + 1),o0,o1_0,o2_0,o3,c3,o4,c4,o5,o6,o7,o8 ++ [(q2.1.1,q2.1.2.1,q2.1.2.2.1,q2.1.2.2.2.1,q2.1.2.2.2.2.1,q2.1.2.2.2.2.2.1,q2.1.2.2.2.2.2.2.1,q2.1.2.2.2.2.2.2.2.1,q2.1.2.2.2.2.2.2.2.2.1,())],c8 + (0 + 1),o9,c9,o10,o11,o12) else none else none) else bif decide (0 < ((List.length o8):Int)) then bif decide (c8 ≤ Int.toNat 0) then bif decide (0 < ((List.length (ix ze o8 0).1):Int)) then none else none else bif decide (0 < ((List.length (ix ze o8 0).1):Int)) then L1 (((List.length o0.2.1):Int),0,o1_0,o2_0,o3,c3,o4,c4,o5,o6,o7,List.set o8 (Int.toNat 0) (List.set (ix ze o8 0).1 (Int.toNat 0) (true,ByteArray.mk #[112,108,97,122,97],(zd qk).2.2),(ix ze o8 0).2),c8,o9,c9,o10,o11,o12) else none else none
abbrev zvc (K:Nat):zgd→Option (zb × (Int × Unit)):=zg (fun k0=>znD (znC K) k0) K
theorem zGQ (K:Nat):∀ n,evV Ed8 K Tryz.f57 3 (ch [zo,tI]) [1,1,1,0,1,0] [] zGO n = zg (fun k0=>znD (znC K) k0) n:=qu (B:=fun L1 k0=>znD L1 k0) (V1:=fun n0=>evV Ed8 K Tryz.f57 3 (ch [zo,tI]) [1,1,1,1,1,0,1,0] [] zva K) (W1:=fun k0=>(znC K)) (fun n0=>zGP K K) fun n0 (v18,v19,v20,o0,o1_0,o2_0,o3,c3,o4,c4,o5,o6,o7,o8,c8,o9,c9,o10,o11,o12)=>by kernel_rfl
def zrI (L0:zgd→Option (zb × (Int × Unit))):(zf × Unit)→Option (zb × (Int × Unit)):=fun (x0,()) =>
  Option.bind (zaI (x0,())) fun q0=>bif q0.1 then Option.bind (zCO (x0,())) fun q1=>bif decide (0 ≤ x0.2.2.2.2.2.1) then bif decide (x0.2.2.2.2.2.1 ≤ x0.2.2.2.2.2.1) then bif decide (x0.2.2.2.2.2.1 ≤ (↑lim:Int)) then L0 (x0.2.2.2.2.1,((List.length x0.2.2.2.2.1):Int),0,x0,0,0,[],0,[],0,[],[],[],[],0,q1.1,List.length q1.1,List.replicate (Int.toNat x0.2.2.2.2.2.1) (zd zr),[],[]) else none else none else none else some ((0,[],[],[],[],[],()),1,())
def zzd:(zf × Unit)→Option (zb × Int × Unit):=zrI (zvc K0)
abbrev zze:Fun:=⟨57,(ch [zw]),(ch [zo,tI]),3,zzd⟩
theorem zLz:Sq zze:=ml8 (d:=true) (S:=fun K=>zrI (zvc K)) Tryz.func57 (by kernel_rfl) (fun K=>tr1 (T:=zrI) (zGQ K K) fun (x0,())=>by kernel_rfl) rfl
abbrev L9:List Fun:=zs3 :: zq5 :: zs4 :: zs5 :: zza :: zzb :: zzc :: zs6 :: zze :: L8
theorem h9:Sds Tryz.prog E0 L9:=⟨zEI,zCQ,zEJ,zEK,zLw,zLx,zLy,zEL,zLz,h8⟩
theorem ml9 {d:Bool} {F:Fun} {f:Go.Func} {S:Nat→F.a.I→Option F.r.I} (hf:Tryz.prog.funcs[F.id]? = some f) (ho:jm f = true) (h:∀ K,evF (En E0 d L9) K f F.md F.a F.r = S K) (e:S K0 = F.spec):Sd Tryz.prog E0 F:=mkS h9 hf ho ((h K0).trans e)
abbrev Es9:Env:=En E0 false L9
abbrev zdD:Type:=Bool × Int × Int × List (Option (Unit→Option (Bool × Unit)))
abbrev zCR:zdD→St:=fun (v6,v27,v28,o0)=>St.mk [(6,.dat .bool v6),(26,.ow 0),(27,.dat tI v27),(28,.dat tI v28)] [.row (.fn .unit (.pair .bool .unit)) o0 false]
def zgO (k0:zdD→Option (Bool × Unit)):zdD→Option (Bool × Unit):=fun (v6,v27,v28,o0) =>
  bif decide (v28 < v27) then inR v28 ((List.length o0):Int) (Option.bind (List.getD o0 (Int.toNat v28) (zd (.fn .unit (.pair .bool .unit)))) fun q0=>Option.bind (q0 ()) fun q1=>bif q1.1 then k0 (true,v27,wI (v28 + 1),o0) else some (false,())) else some (v6,())
abbrev zq6 (K:Nat):zdD→Option (Bool × Unit):=zg zgO K
theorem zCS (K:Nat):∀ n,evV Es9 K Tryz.f18 0 (ch [.bool]) [1,0,1,1,1,0,1,0] [] zCR n = zg zgO n:=zq fun n0 (v6,v27,v28,o0)=>by kernel_rfl
def znE (L0:zdD→Option (Bool × Unit)):(zf × (zb × Unit))→Option (Bool × Unit):=fun (x0,x1,()) =>
  L0 (true,((List.length (zm (zm (zm (zm (zm (zm (zm (List.replicate 7 (zd (.fn .unit (.pair .bool .unit)))) 0 (some fun z=>zcc ((x0,x1,(zd qp).2.2),()))) 1 (some fun z=>zcd ((x0,x1,(zd qp).2.2),()))) 2 (some fun z=>zbh ((x0,x1,(zd qp).2.2),()))) 3 (some fun z=>zf7 ((x0,x1,(zd qp).2.2),()))) 4 (some fun z=>zbf ((x0,x1,(zd qp).2.2),()))) 5 (some fun z=>zf6 ((x0,x1,(zd qp).2.2),()))) 6 (some fun z=>zgb ((x0,x1,(zd qp).2.2),())))):Int),0,[some fun z=>zcc ((x0,x1,(zd qp).2.2),()),some fun z=>zcd ((x0,x1,(zd qp).2.2),()),some fun z=>zbh ((x0,x1,(zd qp).2.2),()),some fun z=>zf7 ((x0,x1,(zd qp).2.2),()),some fun z=>zbf ((x0,x1,(zd qp).2.2),()),some fun z=>zf6 ((x0,x1,(zd qp).2.2),()),some fun z=>zgb ((x0,x1,(zd qp).2.2),())])
def zjf:(zf × zb × Unit)→Option (Bool × Unit):=znE (zq6 K0)
abbrev zvd:Fun:=⟨18,(ch [zw,zo]),(ch [.bool]),0,zjf⟩
theorem zGR:Sq zvd:=ml9 (d:=false) (S:=fun K=>znE (zq6 K)) Tryz.func18 (by kernel_rfl) (fun K=>tr1 (T:=znE) (zCS K K) fun (x0,x1,())=>by kernel_rfl) rfl
abbrev L10:List Fun:=zvd :: L9
theorem h10:Sds Tryz.prog E0 L10:=⟨zGR,h9⟩
theorem zRa {d:Bool} {F:Fun} {f:Go.Func} {K:Nat} (hf:Tryz.prog.funcs[F.id]? = some f) (ho:jm f = true) (h:evF (En E0 d L10) K f F.md F.a F.r = F.spec):Sd Tryz.prog E0 F:=mkS h10 hf ho h
def zam:(zf × (zb × (pMe × Unit)))→Option (Bool × Unit):=fun (x0,x1,x2,()) =>
  Option.bind (zjf (x0,x1,())) fun q0=>bif q0.1 then bif decide (x2.1 ≥ 0) then bif decide (x2.1 < ((List.length x0.2.1):Int)) then inR x2.1 ((List.length x0.2.1):Int) (bif x2.2.1 == ix (0:Int) x0.2.1 x2.1 then bif decide (x2.2.2.1 ≥ 0) then bif decide (x2.2.2.1 < ((List.length x0.2.2.1):Int)) then some (true,()) else some (false,()) else some (false,()) else some (false,())) else some (false,()) else some (false,()) else some (false,())
abbrev zxv:Fun:=⟨17,(ch [zw,zo,tMe]),(ch [.bool]),0,zam⟩
theorem zJw:Sq zxv:=zRa (d:=false) (K:=0) Tryz.func17 (by kernel_rfl) (funext fun (x0,x1,x2,())=>by kernel_rfl)
abbrev L11:List Fun:=zxv :: L10
theorem h11:Sds Tryz.prog E0 L11:=⟨zJw,h10⟩
theorem zQM {d:Bool} {F:Fun} {f:Go.Func} {K:Nat} (hf:Tryz.prog.funcs[F.id]? = some f) (ho:jm f = true) (h:evF (En E0 d L11) K f F.md F.a F.r = F.spec):Sd Tryz.prog E0 F:=mkS h11 hf ho h
theorem zRb {d:Bool} {js:List Nat} {F:Fun} {f:Go.Func} {K:Nat} (hf:Tryz.prog.funcs[F.id]? = some f) (ho:jm f = true) (h:evF (Ej E0 d js L11) K f F.md F.a F.r = F.spec):Sd Tryz.prog E0 F:=zQL h11 hf ho h
theorem zRc {d:Bool} {js:List Nat} {fs:List (Nat × Go.Func)} {n:Nat} {F:Fun} {f:Go.Func} {K:Nat} (hfs:FOk Tryz.prog fs) (hf:Tryz.prog.funcs[F.id]? = some f) (ho:jm f = true) (h:evF ((Ej E0 d js L11).inl fs n) K f F.md F.a F.r = F.spec):Sd Tryz.prog E0 F:=Sd.mkI zNk h11 hfs hf ho h
theorem zRd {d:Bool} {F:Fun} {f:Go.Func} {S:Nat→F.a.I→Option F.r.I} (hf:Tryz.prog.funcs[F.id]? = some f) (ho:jm f = true) (h:∀ K,evF (En E0 d L11) K f F.md F.a F.r = S K) (e:S K0 = F.spec):Sd Tryz.prog E0 F:=mkS h11 hf ho ((h K0).trans e)
abbrev zNv:Env:=En E0 false L11
def zfa:(zf × (zb × (pMe × (ByteArray × Unit))))→Option (zb × (Int × (Int × Unit))):=fun (x0,x1,x2,x3,()) =>
  Option.bind (zam (x0,x1,x2,())) fun q0=>bif q0.1 then Option.bind (zca (x1,x2,())) fun q1=>Option.bind (zk7 (q1.1,x3,x2.2.2.1,())) fun q2=>bif q2.2.2.1 != 0 then some ((0,[],[],[],[],[],()),q2.2.1,q2.2.2.1,()) else Option.bind (yq (x1,())) fun q3=>inR x2.2.1 ((List.length q3.1.2.1):Int) (some ((u1 q3.1 (List.set q3.1.2.1 (Int.toNat x2.2.1) (u2 (ix ze q3.1.2.1 x2.2.1) q2.1))),q2.2.1,0,())) else some ((0,[],[],[],[],[],()),0,1,())
abbrev zxw:Fun:=⟨35,(ch [zw,zo,tMe,.str]),(ch [zo,tI,tI]),0,zfa⟩
theorem zJx:Sq zxw:=zRc (d:=true) (js:=[999999]) (fs:=[(71,Tryz.f71),(72,Tryz.f72)]) (n:=2) ⟨⟨Tryz.func71,by kernel_rfl⟩,⟨Tryz.func72,by kernel_rfl⟩,trivial⟩ (K:=0) Tryz.func35 (by kernel_rfl) (funext fun (x0,x1,x2,x3,())=>by kernel_rfl)
def zan:(zf × (zb × (pMe × ((Option (((List zh) × Unit)→Option ((List zh) × (Int × Unit)))) × Unit))))→Option (zb × (Int × Unit)):=fun (x0,x1,x2,x3,()) =>
  Option.bind (zam (x0,x1,x2,())) fun q0=>bif q0.1 then Option.bind (zca (x1,x2,())) fun q1=>Option.bind x3 fun q2=>Option.bind (q2 (q1.1,())) fun q3=>bif q3.2.1 != 0 then some ((0,[],[],[],[],[],()),q3.2.1,()) else Option.bind (yq (x1,())) fun q4=>inR x2.2.1 ((List.length q4.1.2.1):Int) (some ((u1 q4.1 (List.set q4.1.2.1 (Int.toNat x2.2.1) (u2 (ix ze q4.1.2.1 x2.2.1) q3.1))),0,())) else some ((0,[],[],[],[],[],()),1,())
abbrev zxx:Fun:=⟨71,(ch [zw,zo,tMe,(.fn (ch [(.sl zi)]) (ch [(.sl zi),tI]))]),(ch [zo,tI]),0,zan⟩
theorem zJy:Sq zxx:=zRb (d:=true) (js:=[999999]) (K:=0) Tryz.func71 (by kernel_rfl) (funext fun (x0,x1,x2,x3,())=>by kernel_rfl)
def zl9:((List zh) × ((Option pMe) × ((Option Int) × ((Option zf) × ((Option zb) × ((Option Int) × Unit))))))→Option ((List zh) × (Int × Unit)):=fun (x0,x1,x2,x3,x4,x5,()) =>
  Option.bind x1 fun q0=>Option.bind x1 fun q1=>Option.bind x2 fun q2=>Option.bind x2 fun q3=>Option.bind x1 fun q4=>bif q3 == q4.2.2.1 then some ([],1,()) else Option.bind x3 fun q5=>Option.bind x4 fun q6=>Option.bind (zam (q5,q6,(q0.1,q1.2.1,q2,(zd tMe).2.2.2),())) fun q7=>bif q7.1 then Option.bind x5 fun q8=>Option.bind x1 fun q9=>Option.bind x2 fun q10=>Option.bind (zlf (x0,q8,q9.2.2.1,q10,())) fun q11=>bif q11.2.1 == 0 then Option.bind x4 fun q12=>Option.bind (yo (q12,(q0.1,q1.2.1,q2,(zd tMe).2.2.2),())) fun q13=>Option.bind x4 fun q14=>Option.bind x1 fun q15=>Option.bind (yo (q14,q15,())) fun q16=>bif !eqI zv q13.1 q16.1 then some (q11.1,5,()) else some q11 else some q11 else some ([],1,())
abbrev zs7:Fun:=⟨80,(ch [(.sl zi),(.ptr tMe),(.ptr tI),(.ptr zw),(.ptr zo),(.ptr tI)]),(ch [(.sl zi),tI]),0,zl9⟩
theorem zEM:Sq zs7:=zQM (d:=false) (K:=0) Tryz.func80 (by kernel_rfl) (funext fun (x0,x1,x2,x3,x4,x5,())=>by kernel_rfl)
def ziG:(zf × (zb × (pMe × Unit)))→Option ((List Int) × (Int × Unit)):=fun (x0,x1,x2,()) =>
  Option.bind (zam (x0,x1,x2,())) fun q0=>bif q0.1 then Option.bind (zca (x1,x2,())) fun q1=>Option.bind (zkT (q1.1,x2.2.2.1,())) fun q2=>some (q2.1,0,()) else some ([],1,())
abbrev zzf:Fun:=⟨9,(ch [zw,zo,tMe]),(ch [(.sl tI),tI]),0,ziG⟩
theorem zLA:Sq zzf:=zQM (d:=false) (K:=0) Tryz.func9 (by kernel_rfl) (funext fun (x0,x1,x2,())=>by kernel_rfl)
abbrev zbP:Type:=Int × (List zp) × Int × Int × (List Int) × Int × Int × zf × zb × pMe × List zE
abbrev zpx:zbP→St:=fun (v9,v19,v20,v21,v37,v38,v39,o0,o1,o2,o3)=>St.mk [(3,.bp 0 []),(4,.bp 1 []),(5,.bp 2 []),(8,.ow 3),(9,.dat tI v9),(19,.dat (.sl zy) v19),(20,.dat tI v20),(21,.dat tI v21),(37,.dat (.sl tI) v37),(38,.dat tI v38),(39,.dat tI v39)] [.bx (.dat zw o0) false,.bx (.dat zo o1) false,.bx (.dat tMe o2) false,.row jq o3 false]
abbrev vz:Type:=(List zp) × Int × Int × zf × zb × pMe × List zE
abbrev zpy:vz→St:=fun (v19,v20,v21,o0,o1,o2,o3)=>St.mk [(3,.bp 0 []),(4,.bp 1 []),(5,.bp 2 []),(8,.ow 3),(19,.dat (.sl zy) v19),(20,.dat tI v20),(21,.dat tI v21)] [.bx (.dat zw o0) false,.bx (.dat zo o1) false,.bx (.dat tMe o2) false,.row jq o3 false]
def zbQ (k0:vz→Option ((List zE) × (Int × Unit))) (k1:zbP→Option ((List zE) × (Int × Unit))):zbP→Option ((List zE) × (Int × Unit)):=fun (v9,v19,v20,v21,v37,v38,v39,o0,o1,o2,o3) =>
  bif decide (v39 < v38) then inR v39 ((List.length v37):Int) (bif decide (List.length o3 + List.length (zm (List.replicate 1 (zd zv)) 0 (v9,ix (0:Int) v37 v39,(zd zv).2.2)) ≤ lim) then k1 (v9,v19,v20,v21,v37,v38,wI (v39 + 1),o0,o1,o2,o3 ++ zm (List.replicate 1 (zd zv)) 0 (v9,ix (0:Int) v37 v39,(zd zv).2.2)) else none) else k0 (v19,v20,wI (v21 + 1),o0,o1,o2,o3)
abbrev zfQ (K:Nat) (k0:vz→Option ((List zE) × (Int × Unit))):zbP→Option ((List zE) × (Int × Unit)):=zg (fun k1=>zbQ k0 k1) K
theorem zAw (K:Nat) (n0:Nat):∀ n,evV zNv K Tryz.f11 0 (ch [(.sl zv),tI]) [1,1,1,0,1,0,0,1,1,0,0,1,1,1,0] [n0] zpx n = zg (fun k1=>zbQ (evV zNv K Tryz.f11 0 (ch [(.sl zv),tI]) [1,1,1,0,1,0] [] zpy n0) k1) n:=zq fun n1 (v9,v19,v20,v21,v37,v38,v39,o0,o1,o2,o3)=>by kernel_rfl
def y3 (L1:zbP→Option ((List zE) × (Int × Unit))) (k0:vz→Option ((List zE) × (Int × Unit))):vz→Option ((List zE) × (Int × Unit)):=fun (v19,v20,v21,o0,o1,o2,o3) =>
  bif decide (v21 < v20) then inR v21 ((List.length v19):Int) (Option.bind (zmE (o0,v21,o2.2.1,())) fun q1=>bif q1.1 then Option.bind (yo (o1,o2,())) fun q2=>Option.bind (zi5 ((ix ze v19 v21).2.2.1,q2.1,())) fun q3=>L1 (v21,v19,v20,v21,q3.1,((List.length q3.1):Int),0,o0,o1,o2,o3) else k0 (v19,v20,wI (v21 + 1),o0,o1,o2,o3)) else some (o3,0,())
abbrev zpz (K:Nat):vz→Option ((List zE) × (Int × Unit)):=zg (fun k0=>y3 (zfQ K k0) k0) K
theorem zAx (K:Nat):∀ n,evV zNv K Tryz.f11 0 (ch [(.sl zv),tI]) [1,1,1,0,1,0] [] zpy n = zg (fun k0=>y3 (zfQ K k0) k0) n:=qu (B:=fun L1 k0=>y3 L1 k0) (V1:=fun n0=>evV zNv K Tryz.f11 0 (ch [(.sl zv),tI]) [1,1,1,0,1,0,0,1,1,0,0,1,1,1,0] [n0] zpx K) (W1:=fun k0=>(zfQ K k0)) (fun n0=>zAw K n0 K) fun n0 (v19,v20,v21,o0,o1,o2,o3)=>by kernel_rfl
def zhT (L0:vz→Option ((List zE) × (Int × Unit))):(zf × (zb × (pMe × Unit)))→Option ((List zE) × (Int × Unit)):=fun (x0,x1,x2,()) =>
  Option.bind (zam (x0,x1,x2,())) fun q0=>bif q0.1 then L0 (x1.2.1,((List.length x1.2.1):Int),0,x0,x1,x2,[]) else some ([],1,())
def zfb:(zf × zb × pMe × Unit)→Option ((List qy) × Int × Unit):=zhT (zpz K0)
abbrev zs8:Fun:=⟨11,(ch [zw,zo,tMe]),(ch [(.sl zv),tI]),0,zfb⟩
theorem zEN:Sq zs8:=zRd (d:=false) (S:=fun K=>zhT (zpz K)) Tryz.func11 (by kernel_rfl) (fun K=>tr1 (T:=zhT) (zAx K K) fun (x0,x1,x2,())=>by kernel_rfl) rfl
abbrev L12:List Fun:=zxw :: zxx :: zs7 :: zzf :: zs8 :: L11
theorem h12:Sds Tryz.prog E0 L12:=⟨zJx,zJy,zEM,zLA,zEN,h11⟩
theorem zNw {d:Bool} {F:Fun} {f:Go.Func} {K:Nat} (hf:Tryz.prog.funcs[F.id]? = some f) (ho:jm f = true) (h:evF (En E0 d L12) K f F.md F.a F.r = F.spec):Sd Tryz.prog E0 F:=mkS h12 hf ho h
def zce:(zf × (zb × (pMe × (Int × Unit))))→Option (zb × (Int × Unit)):=fun (x0,x1,x2,x3,()) =>
  Option.bind (zan (x0,x1,x2,some fun z=>zlg (z.1,some x3,some x2,()),())) fun q0=>some q0
abbrev zve:Fun:=⟨36,(ch [zw,zo,tMe,tI]),(ch [zo,tI]),0,zce⟩
theorem zGS:Sq zve:=zNw (d:=false) (K:=0) Tryz.func36 (by kernel_rfl) (funext fun (x0,x1,x2,x3,())=>by kernel_rfl)
def zfc:(zf × (zb × (pMe × (Int × Unit))))→Option (zb × (Int × Unit)):=fun (x0,x1,x2,x3,()) =>
  Option.bind (zan (x0,x1,x2,some fun z=>zl7 (z.1,some x3,some x2,some x1,()),())) fun q0=>some q0
abbrev zxy:Fun:=⟨37,(ch [zw,zo,tMe,tI]),(ch [zo,tI]),0,zfc⟩
theorem zJz:Sq zxy:=zNw (d:=false) (K:=0) Tryz.func37 (by kernel_rfl) (funext fun (x0,x1,x2,x3,())=>by kernel_rfl)
def zbR:(zf × (zb × (pMe × (Int × Unit))))→Option (zb × (Int × Unit)):=fun (x0,x1,x2,x3,()) =>
  Option.bind (zan (x0,x1,x2,some fun z=>zl8 (z.1,some x3,some x2,some x1,()),())) fun q0=>some q0
abbrev zxz:Fun:=⟨38,(ch [zw,zo,tMe,tI]),(ch [zo,tI]),0,zbR⟩
theorem zJA:Sq zxz:=zNw (d:=false) (K:=0) Tryz.func38 (by kernel_rfl) (funext fun (x0,x1,x2,x3,())=>by kernel_rfl)
def zbS:(zf × (zb × (pMe × (Int × (Int × Unit)))))→Option (zb × (Int × Unit)):=fun (x0,x1,x2,x3,x4,()) =>
  Option.bind (zan (x0,x1,x2,some fun z=>zl9 (z.1,some x2,some x4,some x0,some x1,some x3,()),())) fun q0=>some q0
abbrev zxA:Fun:=⟨39,(ch [zw,zo,tMe,tI,tI]),(ch [zo,tI]),0,zbS⟩
theorem zJB:Sq zxA:=zNw (d:=false) (K:=0) Tryz.func39 (by kernel_rfl) (funext fun (x0,x1,x2,x3,x4,())=>by kernel_rfl)
abbrev L13:List Fun:=zve :: zxy :: zxz :: zxA :: L12
theorem h13:Sds Tryz.prog E0 L13:=⟨zGS,zJz,zJA,zJB,h12⟩
theorem zQN {d:Bool} {F:Fun} {f:Go.Func} {K:Nat} (hf:Tryz.prog.funcs[F.id]? = some f) (ho:jm f = true) (h:evF (En E0 d L13) K f F.md F.a F.r = F.spec):Sd Tryz.prog E0 F:=mkS h13 hf ho h
def zoc:(zf × (zb × (pMe × (zd2 × Unit))))→Option (zb × (Int × (Int × Unit))):=fun (x0,x1,x2,x3,()) =>
  bif x3.1 == 1 then Option.bind (zfa (x0,x1,x2,x3.2.2.2.1,())) fun q0=>some q0 else bif x3.1 == 2 then Option.bind (zce (x0,x1,x2,x3.2.1,())) fun q1=>some (q1.1,0,q1.2.1,()) else bif x3.1 == 3 then Option.bind (zfc (x0,x1,x2,x3.2.1,())) fun q2=>some (q2.1,0,q2.2.1,()) else bif x3.1 == 4 then Option.bind (zbR (x0,x1,x2,x3.2.1,())) fun q3=>some (q3.1,0,q3.2.1,()) else Option.bind (zbS (x0,x1,x2,x3.2.1,x3.2.2.1,())) fun q4=>some (q4.1,0,q4.2.1,())
abbrev zCT:Fun:=⟨7,(ch [zw,zo,tMe,jC]),(ch [zo,tI,tI]),0,zoc⟩
theorem zNx:Sq zCT:=zQN (d:=false) (K:=0) Tryz.func7 (by kernel_rfl) (funext fun (x0,x1,x2,x3,())=>by kernel_rfl)
def zjg:Unit→Option (Bool × Unit):=fun () =>
  Option.bind (zuA ()) fun q0=>Option.bind (zzd (q0.1,())) fun q1=>Option.bind (zfa (q0.1,q1.1,(1,1,(zd tMe).2.2),ByteArray.mk #[108,97,109,112],())) fun q2=>Option.bind (ziG (q0.1,q2.1,(1,1,(zd tMe).2.2),())) fun q3=>Option.bind (zfc (q0.1,q2.1,(1,1,(zd tMe).2.2),0,())) fun q4=>Option.bind (zfb (q0.1,q4.1,(1,1,(zd tMe).2.2),())) fun q5=>Option.bind (zbR (q0.1,q4.1,zd tMe,0,())) fun q6=>Option.bind (zbS (q0.1,q2.1,(1,1,(zd tMe).2.2),0,1,())) fun q7=>Option.bind (zbS (q0.1,q2.1,(1,1,(zd tMe).2.2),0,0,())) fun q8=>Option.bind (zce (q0.1,q7.1,(1,1,(zd tMe).2.2),0,())) fun q9=>Option.bind (zbR (q0.1,q4.1,(1,1,(zd tMe).2.2),0,())) fun q10=>bif q1.2.1 == 0 then bif q2.2.2.1 == 0 then bif q2.2.1 == 0 then bif q3.2.1 == 0 then bif ((List.length q3.1):Int) == 1 then bif q4.2.1 == 0 then bif q5.2.1 == 0 then bif ((List.length q5.1):Int) == 1 then bif decide (0 < ((List.length q5.1):Int)) then bif eqI zv (ix zzG q5.1 0) (1,(zd zv).2) then bif q6.2.1 == 3 then bif q7.2.1 == 0 then bif q8.2.1 == 1 then bif q9.2.1 == 3 then bif q10.2.1 == 0 then bif ((List.length q7.1.2.1):Int) == 3 then bif decide (1 < ((List.length q7.1.2.1):Int)) then bif decide (0 < ((List.length (ix ze q7.1.2.1 1).2.2.1):Int)) then bif (List.getD (ix ze q7.1.2.1 1).2.2.1 (Int.toNat 0) (zd zi)).2.2.2.1 == 1 then bif decide (1 < ((List.length q1.1.2.1):Int)) then bif decide (0 < ((List.length (ix ze q1.1.2.1 1).2.2.1):Int)) then bif (List.getD (ix ze q1.1.2.1 1).2.2.1 (Int.toNat 0) (zd zi)).1 then some (false,()) else some (true,()) else none else none else some (false,()) else none else none else some (false,()) else some (false,()) else some (false,()) else some (false,()) else some (false,()) else some (false,()) else some (false,()) else none else some (false,()) else some (false,()) else some (false,()) else some (false,()) else some (false,()) else some (false,()) else some (false,()) else some (false,())
abbrev zvf:Fun:=⟨13,.unit,(ch [.bool]),0,zjg⟩
theorem zGT:Sq zvf:=zQN (d:=false) (K:=0) Tryz.func13 (by kernel_rfl) (funext fun ()=>by kernel_rfl)
abbrev L14:List Fun:=zCT :: zvf :: L13
theorem h14:Sds Tryz.prog E0 L14:=⟨zNx,zGT,h13⟩
theorem zRe {d:Bool} {F:Fun} {f:Go.Func} {K:Nat} (hf:Tryz.prog.funcs[F.id]? = some f) (ho:jm f = true) (h:evF (En E0 d L14) K f F.md F.a F.r = F.spec):Sd Tryz.prog E0 F:=mkS h14 hf ho h
def zdE:(zf × (zb × (pMe × (zd2 × Unit))))→Option (Bool × Unit):=fun (x0,x1,x2,x3,()) =>
  Option.bind (yq (x1,())) fun q0=>Option.bind (zoc (x0,x1,x2,x3,())) fun q1=>Option.bind (zmC (x0,q0.1,x2,x3.1,x3.2.1,x3.2.2.1,x3.2.2.2.1,())) fun q2=>Option.bind (ziG (x0,x1,x2,())) fun q3=>Option.bind (zmD (x0,x1,x2,())) fun q4=>Option.bind (zfb (x0,x1,x2,())) fun q5=>Option.bind (zhS (x0,x1,x2,())) fun q6=>Option.bind (zjg ()) fun q7=>bif q7.1 then Option.bind (ze1 (q1.1,q2.1,())) fun q8=>bif q8.1 then bif q1.2.1 == q2.2.1 then bif q1.2.2.1 == q2.2.2.1 then Option.bind (zkt (q3.1,q4.1,())) fun q9=>bif q9.1 then bif q3.2.1 == q4.2.1 then Option.bind (zfC (q5.1,q6.1,())) fun q10=>bif q10.1 then bif q5.2.1 == q6.2.1 then Option.bind (ze1 (x1,q0.1,())) fun q11=>bif q11.1 then some (true,()) else some (false,()) else some (false,()) else some (false,()) else some (false,()) else some (false,()) else some (false,()) else some (false,()) else some (false,()) else some (false,())
abbrev zxB:Fun:=⟨3,(ch [zw,zo,tMe,jC]),(ch [.bool]),0,zdE⟩
theorem zxC:Sq zxB:=zRe (d:=false) (K:=0) Tryz.func3 (by kernel_rfl) (funext fun (x0,x1,x2,x3,())=>by kernel_rfl)
end
end Go.Proofs.YtejbgeokcpillaaGreatDoor
end
section
namespace Go.Proofs.YtejbgeokcpillaaGreatDoor
open Go.Ev
theorem zCU {l:List Int} {g:Int × Unit→Option (Bool × Unit)} {p:Int→Bool} (hl:l.length ≤ Go.maxLen) (hp:∀ x ∈ l,g (x,()) = some (p x,())):zcs (l,some g,()) = some (je p l 0,()):=qR (τ:=tI) (B:=zfs) (fun _ _ _ _ _=>rfl) hl hp
theorem zdF {l:List Int} {g:Int × Unit→Option (Bool × Unit)} {p:Int→Bool} (hl:l.length ≤ Go.maxLen) (hp:∀ x ∈ l,g (x,()) = some (p x,())):qN (l,some g,()) = some (l.any p,()):=qv (τ:=tI) (f:=zcs) (zCU hl hp)
theorem zyq {l:List zC} {g:zC × Unit→Option (Bool × Unit)} {p:zC→Bool} (hl:l.length ≤ Go.maxLen) (hp:∀ x ∈ l,g (x,()) = some (p x,())):zaT (l,some g,()) = some (je p l 0,()):=qR (τ:=zt) (B:=zdL) (fun _ _ _ _ _=>rfl) hl hp
theorem zlh {l:List zC} {g:zC × Unit→Option (Bool × Unit)} {p:zC→Bool} (hl:l.length ≤ Go.maxLen) (hp:∀ x ∈ l,g (x,()) = some (p x,())):yw (l,some g,()) = some (l.any p,()):=qv (τ:=zt) (f:=zaT) (zyq hl hp)
theorem zvN {l:List qA} {g:qA × Unit→Option (Bool × Unit)} {p:qA→Bool} (hl:l.length ≤ Go.maxLen) (hp:∀ x ∈ l,g (x,()) = some (p x,())):y9 (l,some g,()) = some (je p l 0,()):=qR (τ:=qD) (B:=zbq) (fun _ _ _ _ _=>rfl) hl hp
theorem zrJ {l:List qA} {g:qA × Unit→Option (Bool × Unit)} {p:qA→Bool} (hl:l.length ≤ Go.maxLen) (hp:∀ x ∈ l,g (x,()) = some (p x,())):zaY (l,some g,()) = some (l.any p,()):=qv (τ:=qD) (f:=y9) (zvN hl hp)
theorem zyr {l:List zp} {g:zp × Unit→Option (Bool × Unit)} {p:zp→Bool} (hl:l.length ≤ Go.maxLen) (hp:∀ x ∈ l,g (x,()) = some (p x,())):zaU (l,some g,()) = some (je p l 0,()):=qR (τ:=zy) (B:=zdN) (fun _ _ _ _ _=>rfl) hl hp
theorem ztW {l:List zp} {g:zp × Unit→Option (Bool × Unit)} {p:zp→Bool} (hl:l.length ≤ Go.maxLen) (hp:∀ x ∈ l,g (x,()) = some (p x,())):j8 (l,some g,()) = some (l.any p,()):=qv (τ:=zy) (f:=zaU) (zyr hl hp)
theorem zAy {l:List qV} {g:qV × Unit→Option (Bool × Unit)} {p:qV→Bool} (hl:l.length ≤ Go.maxLen) (hp:∀ x ∈ l,g (x,()) = some (p x,())):zbY (l,some g,()) = some (je p l 0,()):=qR (τ:=qk) (B:=zen) (fun _ _ _ _ _=>rfl) hl hp
theorem zvO {l:List qV} {g:qV × Unit→Option (Bool × Unit)} {p:qV→Bool} (hl:l.length ≤ Go.maxLen) (hp:∀ x ∈ l,g (x,()) = some (p x,())):zdU (l,some g,()) = some (l.any p,()):=qv (τ:=qk) (f:=zbY) (zAy hl hp)
theorem zpA {l:List zh} {g:zh × Unit→Option (Bool × Unit)} {p:zh→Bool} (hl:l.length ≤ Go.maxLen) (hp:∀ x ∈ l,g (x,()) = some (p x,())):yD (l,some g,()) = some (je p l 0,()):=qR (τ:=zi) (B:=zep) (fun _ _ _ _ _=>rfl) hl hp
theorem zlL {l:List zh} {g:zh × Unit→Option (Bool × Unit)} {p:zh→Bool} (hl:l.length ≤ Go.maxLen) (hp:∀ x ∈ l,g (x,()) = some (p x,())):jy (l,some g,()) = some (l.any p,()):=qv (τ:=zi) (f:=yD) (zpA hl hp)
theorem zAz {l:List qr} {g:qr × Unit→Option (Bool × Unit)} {p:qr→Bool} (hl:l.length ≤ Go.maxLen) (hp:∀ x ∈ l,g (x,()) = some (p x,())):zbZ (l,some g,()) = some (je p l 0,()):=qR (τ:=zY) (B:=zeq) (fun _ _ _ _ _=>rfl) hl hp
theorem zlM {l:List qr} {g:qr × Unit→Option (Bool × Unit)} {p:qr→Bool} (hl:l.length ≤ Go.maxLen) (hp:∀ x ∈ l,g (x,()) = some (p x,())):jz (l,some g,()) = some (l.any p,()):=qv (τ:=zY) (f:=zbZ) (zAz hl hp)
theorem zys {l:List zx} {g:zx × Unit→Option (Bool × Unit)} {p:zx→Bool} (hl:l.length ≤ Go.maxLen) (hp:∀ x ∈ l,g (x,()) = some (p x,())):zaV (l,some g,()) = some (je p l 0,()):=qR (τ:=zz) (B:=zdQ) (fun _ _ _ _ _=>rfl) hl hp
theorem zli {l:List zx} {g:zx × Unit→Option (Bool × Unit)} {p:zx→Bool} (hl:l.length ≤ Go.maxLen) (hp:∀ x ∈ l,g (x,()) = some (p x,())):jk (l,some g,()) = some (l.any p,()):=qv (τ:=zz) (f:=zaV) (zys hl hp)
theorem zyt {l:List zu} {g:zu × Unit→Option (Bool × Unit)} {p:zu→Bool} (hl:l.length ≤ Go.maxLen) (hp:∀ x ∈ l,g (x,()) = some (p x,())):zaW (l,some g,()) = some (je p l 0,()):=qR (τ:=zr) (B:=zdR) (fun _ _ _ _ _=>rfl) hl hp
theorem ztX {l:List zu} {g:zu × Unit→Option (Bool × Unit)} {p:zu→Bool} (hl:l.length ≤ Go.maxLen) (hp:∀ x ∈ l,g (x,()) = some (p x,())):j9 (l,some g,()) = some (l.any p,()):=qv (τ:=zr) (f:=zaW) (zyt hl hp)
theorem zyu {l:List zJ} {g:zJ × Unit→Option (Bool × Unit)} {p:zJ→Bool} (hl:l.length ≤ Go.maxLen) (hp:∀ x ∈ l,g (x,()) = some (p x,())):zaX (l,some g,()) = some (je p l 0,()):=qR (τ:=zA) (B:=zdS) (fun _ _ _ _ _=>rfl) hl hp
theorem ztY {l:List zJ} {g:zJ × Unit→Option (Bool × Unit)} {p:zJ→Bool} (hl:l.length ≤ Go.maxLen) (hp:∀ x ∈ l,g (x,()) = some (p x,())):va (l,some g,()) = some (l.any p,()):=qv (τ:=zA) (f:=zaX) (zyu hl hp)
theorem zpB {l:List qe} {g:qe × Unit→Option (Bool × Unit)} {p:qe→Bool} (hl:l.length ≤ Go.maxLen) (hp:∀ x ∈ l,g (x,()) = some (p x,())):yC (l,some g,()) = some (je p l 0,()):=qR (τ:=zU) (B:=zeo) (fun _ _ _ _ _=>rfl) hl hp
theorem zvP {l:List qe} {g:qe × Unit→Option (Bool × Unit)} {p:qe→Bool} (hl:l.length ≤ Go.maxLen) (hp:∀ x ∈ l,g (x,()) = some (p x,())):vq (l,some g,()) = some (l.any p,()):=qv (τ:=zU) (f:=yC) (zpB hl hp)
theorem zCV {l:List qy} {g:qy × Unit→Option (Bool × Unit)} {p:qy→Bool} (hl:l.length ≤ Go.maxLen) (hp:∀ x ∈ l,g (x,()) = some (p x,())):zcw (l,some g,()) = some (je p l 0,()):=qR (τ:=zv) (B:=zfz) (fun _ _ _ _ _=>rfl) hl hp
theorem zxD {l:List qy} {g:qy × Unit→Option (Bool × Unit)} {p:qy→Bool} (hl:l.length ≤ Go.maxLen) (hp:∀ x ∈ l,g (x,()) = some (p x,())):vJ (l,some g,()) = some (l.any p,()):=qv (τ:=zv) (f:=zcw) (zCV hl hp)
theorem zAA {l:List Int} {g:Int × Unit→Option (Bool × Unit)} {p:Int→Bool} (hl:l.length ≤ Go.maxLen) (hp:∀ x ∈ l,g (x,()) = some (p x,())):zbW (l,some g,()) = some (je p l 0,()):=qR (τ:=(Ty.int .u8)) (B:=zek) (fun _ _ _ _ _=>rfl) hl hp
theorem zvQ {l:List Int} {g:Int × Unit→Option (Bool × Unit)} {p:Int→Bool} (hl:l.length ≤ Go.maxLen) (hp:∀ x ∈ l,g (x,()) = some (p x,())):vp (l,some g,()) = some (l.any p,()):=qv (τ:=(Ty.int .u8)) (f:=zbW) (zAA hl hp)
theorem zLB {l:List zp} {g:zp × Unit→Option (Bool × Unit)} {p:zp→Bool} (hl:l.length ≤ Go.maxLen) (hp:∀ x ∈ l,g (x,()) = some (p x,())):zie (l,some g,()) = some (l.all p,()):=by
  have h:j8 (l,some fun z=>zbX (z.1,some (some g),()),()) = some (l.any fun x=>!p x,()):=ztW hl fun x hx=>by
    show Option.bind (g (x,())) (fun q=>bif q.1 then some (false,()) else some (true,())) = _
    rw [hp x hx]; cases p x <;> rfl
  show Option.bind (j8 (l,some fun z=>zbX (z.1,some (some g),()),())) (fun q=>bif q.1 then some (false,()) else some (true,())) = _
  rw [h,← ve]; cases l.any fun x=>!p x <;> rfl
theorem zLC {l:List zu} {g:zu × Unit→Option (Bool × Unit)} {p:zu→Bool} (hl:l.length ≤ Go.maxLen) (hp:∀ x ∈ l,g (x,()) = some (p x,())):zif (l,some g,()) = some (l.all p,()):=by
  have h:j9 (l,some fun z=>zb0 (z.1,some (some g),()),()) = some (l.any fun x=>!p x,()):=ztX hl fun x hx=>by
    show Option.bind (g (x,())) (fun q=>bif q.1 then some (false,()) else some (true,())) = _
    rw [hp x hx]; cases p x <;> rfl
  show Option.bind (j9 (l,some fun z=>zb0 (z.1,some (some g),()),())) (fun q=>bif q.1 then some (false,()) else some (true,())) = _
  rw [h,← ve]; cases l.any fun x=>!p x <;> rfl
theorem zLD {l:List zJ} {g:zJ × Unit→Option (Bool × Unit)} {p:zJ→Bool} (hl:l.length ≤ Go.maxLen) (hp:∀ x ∈ l,g (x,()) = some (p x,())):zd9 (l,some g,()) = some (l.all p,()):=by
  have h:va (l,some fun z=>zb1 (z.1,some (some g),()),()) = some (l.any fun x=>!p x,()):=ztY hl fun x hx=>by
    show Option.bind (g (x,())) (fun q=>bif q.1 then some (false,()) else some (true,())) = _
    rw [hp x hx]; cases p x <;> rfl
  show Option.bind (va (l,some fun z=>zb1 (z.1,some (some g),()),())) (fun q=>bif q.1 then some (false,()) else some (true,())) = _
  rw [h,← ve]; cases l.any fun x=>!p x <;> rfl
theorem zOR {l:List Int} {g:Int × Unit→Option (Bool × Unit)} {p:Int→Bool} (hl:l.length ≤ Go.maxLen) (hp:∀ x ∈ l,g (x,()) = some (p x,())):zav (l,some g,()) = some (l.all p,()):=by
  have h:qN (l,some fun z=>zd5 (z.1,some (some g),()),()) = some (l.any fun x=>!p x,()):=zdF hl fun x hx=>by
    show Option.bind (g (x,())) (fun q=>bif q.1 then some (false,()) else some (true,())) = _
    rw [hp x hx]; cases p x <;> rfl
  show Option.bind (qN (l,some fun z=>zd5 (z.1,some (some g),()),())) (fun q=>bif q.1 then some (false,()) else some (true,())) = _
  rw [h,← ve]; cases l.any fun x=>!p x <;> rfl
theorem zNy {l:List qe} {g:qe × Unit→Option (Bool × Unit)} {p:qe→Bool} (hl:l.length ≤ Go.maxLen) (hp:∀ x ∈ l,g (x,()) = some (p x,())):zjA (l,some g,()) = some (l.all p,()):=by
  have h:vq (l,some fun z=>zct (z.1,some (some g),()),()) = some (l.any fun x=>!p x,()):=zvP hl fun x hx=>by
    show Option.bind (g (x,())) (fun q=>bif q.1 then some (false,()) else some (true,())) = _
    rw [hp x hx]; cases p x <;> rfl
  show Option.bind (vq (l,some fun z=>zct (z.1,some (some g),()),())) (fun q=>bif q.1 then some (false,()) else some (true,())) = _
  rw [h,← ve]; cases l.any fun x=>!p x <;> rfl
theorem zCW {l:List zh} {g:zh × Unit→Option (Bool × Unit)} {p:zh→Bool} (hl:l.length ≤ Go.maxLen) (hp:∀ x ∈ l,g (x,()) = some (p x,())):yW (l,some g,()) = some (l.all p,()):=by
  have h:jy (l,some fun z=>zcv (z.1,some (some g),()),()) = some (l.any fun x=>!p x,()):=zlL hl fun x hx=>by
    show Option.bind (g (x,())) (fun q=>bif q.1 then some (false,()) else some (true,())) = _
    rw [hp x hx]; cases p x <;> rfl
  show Option.bind (jy (l,some fun z=>zcv (z.1,some (some g),()),())) (fun q=>bif q.1 then some (false,()) else some (true,())) = _
  rw [h,← ve]; cases l.any fun x=>!p x <;> rfl
theorem zOS {l:List qy} {g:qy × Unit→Option (Bool × Unit)} {p:qy→Bool} (hl:l.length ≤ Go.maxLen) (hp:∀ x ∈ l,g (x,()) = some (p x,())):zkK (l,some g,()) = some (l.all p,()):=by
  have h:vJ (l,some fun z=>zd6 (z.1,some (some g),()),()) = some (l.any fun x=>!p x,()):=zxD hl fun x hx=>by
    show Option.bind (g (x,())) (fun q=>bif q.1 then some (false,()) else some (true,())) = _
    rw [hp x hx]; cases p x <;> rfl
  show Option.bind (vJ (l,some fun z=>zd6 (z.1,some (some g),()),())) (fun q=>bif q.1 then some (false,()) else some (true,())) = _
  rw [h,← ve]; cases l.any fun x=>!p x <;> rfl
theorem zNz {l:List qr} {g:qr × Unit→Option (Bool × Unit)} {p:qr→Bool} (hl:l.length ≤ Go.maxLen) (hp:∀ x ∈ l,g (x,()) = some (p x,())):yX (l,some g,()) = some (l.all p,()):=by
  have h:jz (l,some fun z=>zcx (z.1,some (some g),()),()) = some (l.any fun x=>!p x,()):=zlM hl fun x hx=>by
    show Option.bind (g (x,())) (fun q=>bif q.1 then some (false,()) else some (true,())) = _
    rw [hp x hx]; cases p x <;> rfl
  show Option.bind (jz (l,some fun z=>zcx (z.1,some (some g),()),())) (fun q=>bif q.1 then some (false,()) else some (true,())) = _
  rw [h,← ve]; cases l.any fun x=>!p x <;> rfl
theorem zLE {l:List zx} {g:zx × Unit→Option (Bool × Unit)} {p:zx→Bool} (hl:l.length ≤ Go.maxLen) (hp:∀ x ∈ l,g (x,()) = some (p x,())):qO (l,some g,()) = some (l.all p,()):=by
  have h:jk (l,some fun z=>zb2 (z.1,some (some g),()),()) = some (l.any fun x=>!p x,()):=zli hl fun x hx=>by
    show Option.bind (g (x,())) (fun q=>bif q.1 then some (false,()) else some (true,())) = _
    rw [hp x hx]; cases p x <;> rfl
  show Option.bind (jk (l,some fun z=>zb2 (z.1,some (some g),()),())) (fun q=>bif q.1 then some (false,()) else some (true,())) = _
  rw [h,← ve]; cases l.any fun x=>!p x <;> rfl
theorem zvg {l:List zu} (hl:l.length * 80 ≤ 140737488355328):zbo (l,()) = some (l,()):=ym (τ:=zr) hl rfl
theorem zGU {l:List zu} (hl:l.length ≤ lim):zbo (l,()) = some (l,()):=zvg (by unfold lim at hl; omega)
theorem zGV {l:List zJ} (hl:l.length * 80 ≤ 140737488355328):zjo (l,()) = some (l,()):=ym (τ:=zA) hl rfl
theorem zzg {l:List Int} (hl:l.length * 8 ≤ 140737488355328):zht (l,()) = some (l,()):=ym (τ:=tI) hl rfl
theorem zJC {l:List (List Int)} (hl:l.length * 24 ≤ 140737488355328):zj8 (l,()) = some (l,()):=ym (τ:=(Ty.sl tI)) hl rfl
theorem zGW {l:List zp} (hl:l.length * 232 ≤ 140737488355328):zjp (l,()) = some (l,()):=ym (τ:=zy) hl rfl
theorem zJD {l:List qV} (hl:l.length * 24 ≤ 140737488355328):zj9 (l,()) = some (l,()):=ym (τ:=qk) hl rfl
theorem zJE {l:List qe} (hl:l.length * 48 ≤ 140737488355328):zka (l,()) = some (l,()):=ym (τ:=zU) hl rfl
theorem zxE {l:List zh} (hl:l.length * 56 ≤ 140737488355328):zar (l,()) = some (l,()):=ym (τ:=zi) hl rfl
theorem zxF {l:List zh} (hl:l.length ≤ lim):zar (l,()) = some (l,()):=zxE (by unfold lim at hl; omega)
theorem zJF {l:List qr} (hl:l.length * 48 ≤ 140737488355328):zkb (l,()) = some (l,()):=ym (τ:=zY) hl rfl
theorem zvh {l:List zx} (hl:l.length * 72 ≤ 140737488355328):zbp (l,()) = some (l,()):=ym (τ:=zz) hl rfl
theorem zvi {l:List zx} (hl:l.length ≤ lim):zbp (l,()) = some (l,()):=zvh (by unfold lim at hl; omega)
theorem zNA {l:List (List Int)} (hl:l.length * 32 ≤ 140737488355328):znf (l,()) = some (l,()):=ym (τ:=(Ty.arr 4 tU)) hl rfl
theorem zLF {l:List qy} (hl:l.length * 16 ≤ 140737488355328):zlV (l,()) = some (l,()):=ym (τ:=zv) hl rfl
end Go.Proofs.YtejbgeokcpillaaGreatDoor
end
section
namespace Go.Proofs.YtejbgeokcpillaaGreatDoor
open Go.Ev
theorem zx3:∃ m,K0 = m + 8:=⟨Go.maxLen - 6,by unfold K0 Go.maxLen; omega⟩
def zT (x a b:Int):Bool:=decide (a ≤ x ∧ x ≤ b)
theorem zfR (x a b:Int):qw (x,a,b,()) = some (zT x a b,()):=by
  simp only [qw,zT]; grind
def zaz (a:zC):Bool:=zT a.1 0 3
theorem zGX (a:zC):ziQ (a,()) = some (zaz a,()):=by
  simp only [ziQ,zaz,zT]; grind
theorem zNB (a:zC):zfD (a,()) = some (!zaz a,()):=by
  simp only [zfD,zGX,Option.bind_some]; grind
theorem zGY (a:zC):ziT (a,()) = some (zaz a,()):=by
  rw [zF]
  simp only [ziT,zaz,zT]
  grind
def zlj (x y:Int):Int:=bif decide (x < y) then -1 else bif decide (y < x) then 1 else 0
theorem zLG (x:Int):zas (x,()) = some (false,()):=by
  simp only [zas]; grind
theorem zEO (x:Int):vC (x,()) = some (false,()):=by
  simp only [vC]; grind
theorem zvj (x y:Int):zaN (x,y,()) = some (zlj x y,()):=by
  simp only [zaN,zLG,Option.bind_some,zlj]; grind
theorem zpC (x y:Int):yb (x,y,()) = some (zlj x y,()):=by
  simp only [yb,zEO,Option.bind_some,zlj]; grind
def orV (a b:Int):Int:=bif a != 0 then a else b
theorem zQO (a b:Int):zej ([a,b],()) = some (orV a b,()):=by
  show zg jf K0 (0,[a,b],2,0) = _
  obtain ⟨m,hm⟩:=zx3
  rw [hm]
  show jf (jf (jf (zg jf (m + 5)))) (0,[a,b],2,0) = _
  have h:jf (jf (jf (zg jf (m + 5)))) (0,[a,b],2,0) = bif a != 0 then some (a,()) else bif b != 0 then some (b,()) else some (0,()):=by kernel_rfl
  rw [h]; unfold orV; grind
def zg9 (a b:zC):Int:=orV (zlj a.1 b.1) (zlj a.2.1 b.2.1)
theorem zLH (a b:zC):zmu (a,b,()) = some (zg9 a b,()):=by
  simp only [zmu,zvj,zpC,Option.bind_some]
  show Option.bind (zej ([zlj a.1 b.1,zlj a.2.1 b.2.1],())) _ = _
  rw [zQO]; rfl
theorem zq7 (a b:zC):eqI zt a b = ((a.1:Int) == b.1 && (a.2.1:Int) == b.2.1):=by
  show cond ((a.1:Int) == b.1) (cond ((a.2.1:Int) == b.2.1) true false) false = _
  cases ((a.1:Int) == b.1) <;> cases ((a.2.1:Int) == b.2.1) <;> rfl
theorem zLI (a b:zC):zmr (a,b,()) = some (zg9 a b,()):=by
  simp only [zmr,zq7,zg9,orV,zlj]; grind
def zcf (l:List zC):Bool:=zT (l.length:Int) 1 8 && (eqI zt (l.getD 0 (zd zt)) (zd zt) && (l.all zaz && zW (fun i=>decide (zg9 (l.getD (i - 1) (zd zt)) (l.getD i (zd zt)) < 0)) 1 (l.length - 1)))
theorem zNC {α:Type} {d:α} {l:List α}:ix d l 0 = l.getD 0 d:=rfl
theorem zPD (r:zf):vM (r,()) = some (zcf r.1,()):=by
  simp only [vM,zhM,zfR,Option.bind_some]
  by_cases hw:zT (List.length r.1:Int) 1 8 = true
  · have hb:1 ≤ List.length r.1 ∧ List.length r.1 ≤ 8:=by unfold zT at hw; grind
    have hl:List.length r.1 ≤ Go.maxLen:=by unfold Go.maxLen; omega
    have hloop:zjB K0 (1,r) = bif zW (fun i=>decide (zg9 (List.getD r.1 (i - 1) (zd zt)) (List.getD r.1 i (zd zt)) < 0)) 1 (List.length r.1 - 1) then some (true,()) else some (false,()) :=
      z8 (i0:=1) hl hb.1 (fun i=>(i,r)) (fun k i h1 h2=>by
        simp only [zfM]
        rw [ltT h2,zjN h1 (by omega),zk (by omega),zk h2,zG,Int.toNat_natCast,zLH]
        simp only [cond_true,Option.bind_some]; grind) (fun k=>by simp only [zfM]; rw [ltF]; rfl)
    rw [zlh (p:=fun a=>!zaz a) hl fun x _=>zNB x,hloop,zNC]
    have:=ve (l:=r.1) (p:=zaz)
    unfold zcf
    simp only [Option.bind_some]
    grind
  · unfold zcf; grind
theorem zEP (l:List zC):zhE (l,()) = some (zcf l,()):=by
  simp only [zhE,zhD]
  by_cases hw:zT (List.length l:Int) 1 8 = true
  · have hb:1 ≤ List.length l ∧ List.length l ≤ 8:=by unfold zT at hw; grind
    have hl:List.length l ≤ Go.maxLen:=by unfold Go.maxLen; omega
    have hloop:zjv K0 (l,1) = bif zW (fun i=>zaz (List.getD l i (zd zt)) && decide (zg9 (List.getD l (i - 1) (zd zt)) (List.getD l i (zd zt)) < 0)) 1 (List.length l - 1) then some (true,()) else some (false,()) :=
      z8 (i0:=1) hl hb.1 (fun i=>(l,i)) (fun k i h1 h2=>by
        simp only [zfH]
        rw [ltT h2,zjN h1 (by omega),zk h2,zk (by omega),zk h2,zG,Int.toNat_natCast,zLI,zGY]
        simp only [cond_true,Option.bind_some]; grind) (fun k=>by simp only [zfH]; rw [ltF]; rfl)
    rw [hloop,zNC]
    have h0:eqI zt (l.getD 0 (zd zt)) (zd zt) = true→zaz (l.getD 0 (zd zt)) = true:=fun h=>by
      rw [zq7] at h
      have:(l.getD 0 (zd zt)).1 = (0:Int):=by have:(zd zt).1 = (0:Int):=rfl; grind
      unfold zaz zT; grind
    have hsplit:zaz (l.getD 0 (zd zt)) = true→zW (fun i=>zaz (List.getD l i (zd zt)) && decide (zg9 (List.getD l (i - 1) (zd zt)) (List.getD l i (zd zt)) < 0)) 1 (List.length l - 1) = (l.all zaz && zW (fun i=>decide (zg9 (l.getD (i - 1) (zd zt)) (l.getD i (zd zt)) < 0)) 1 (l.length - 1)):=fun h0=>by
      rw [Bool.eq_iff_iff,Bool.and_eq_true,qL,qL,List.all_eq_true]
      constructor
      · intro h
        refine ⟨fun x hx=>?_,fun j h1 h2=>?_⟩
        · obtain ⟨i,hi,rfl⟩:=List.mem_iff_getElem.1 hx
          have e:l.getD i (zd zt) = l[i]:=by simp [List.getD,hi]
          rw [← e]
          by_cases hz:i = 0
          · subst hz; exact h0
          · have:=h i (by omega) (by omega); grind
        · have:=h j h1 h2; grind
      · rintro ⟨h1,h2⟩ j h3 h4
        have:=h2 j h3 h4
        have:=h1 _ (zV (d:=zd zt) (show j < l.length by omega))
        grind
    unfold zcf
    grind
  · unfold zcf zT at *; grind
end Go.Proofs.YtejbgeokcpillaaGreatDoor
end
section
namespace Go.Proofs.YtejbgeokcpillaaGreatDoor
open Go.Ev
def small (c:Int):Bool:=decide (97 ≤ c ∧ c ≤ 122)
def zx4 (c:Int):Bool:=decide (48 ≤ c ∧ c ≤ 57)
theorem zMt (c:Int):zgW (c,()) = some (small c,()):=by
  simp only [zgW,small]; grind
theorem zQe (c:Int):zkf (c,()) = some (zx4 c,()):=by
  simp only [zkf,zx4]; grind
def zHC (c:Int):Bool:=small c || zx4 c
theorem zQP (c:Int):zhz (c,()) = some (zHC c,()):=by
  simp only [zhz,zMt,zQe,Option.bind_some,zHC]; grind
def zha (s:ByteArray):List Int:=List.map (fun b:UInt8=>(b.toNat:Int)) s.data.toList
def chr (s:ByteArray) (i:Nat):Int:=(((s.data.toList).getD i 0).toNat:Int)
theorem znF (s:ByteArray):(zha s).length = s.size:=by unfold zha; rw [List.length_map]; rfl
theorem zok (s:ByteArray):s.data.toList.length = s.size:=rfl
theorem zCX (s:ByteArray) (p:Int→Bool):(zha s).all p = zW (fun i=>p (chr s i)) 0 s.size:=by
  rw [Bool.eq_iff_iff,qL,List.all_eq_true]
  have key:∀ i,i < s.size→(zha s)[i]? = some (chr s i):=fun i hi=>by
    unfold zha chr
    rw [List.getElem?_map,List.getElem?_eq_getElem (by rw [zok]; exact hi)]
    simp [List.getD,zok,hi]
  constructor
  · intro h j _ hj
    exact h _ (List.mem_of_getElem? (key j (by omega)))
  · intro h x hx
    obtain ⟨i,hi,rfl⟩:=List.mem_iff_getElem.1 hx
    rw [znF] at hi
    have:=key i hi
    rw [List.getElem?_eq_getElem (by rw [znF]; exact hi)] at this
    rw [Option.some.inj this]
    exact h i (by omega) (by omega)
theorem zCY {s:ByteArray} {g:Int × Unit→Option (Bool × Unit)} {p:Int→Bool} (hl:s.size ≤ Go.maxLen) (hp:∀ c,g (c,()) = some (p c,())):zn9 (s,some g,()) = some ((zha s).all p,()):=by
  have h:vp (zha s,some fun z=>zke (z.1,some (some g),()),()) = some ((zha s).any fun x=>!p x,()):=zvQ (by rw [znF]; exact hl) fun x hx=>by
    show Option.bind (g (x,())) (fun q=>bif q.1 then some (false,()) else some (true,())) = _
    rw [hp x]; cases p x <;> rfl
  show Option.bind (vp (zha s,some fun z=>zke (z.1,some (some g),()),())) (fun q=>bif q.1 then some (false,()) else some (true,())) = _
  rw [h,← ve]; cases (zha s).any fun x=>!p x <;> rfl
def zeb (s:ByteArray):Bool:=decide (1 ≤ s.size) && (decide (s.size ≤ 12) && zW (fun i=>small (chr s i) || (decide (i ≠ 0) && zx4 (chr s i))) 0 s.size)
theorem zPE (s:ByteArray):zeb s = (decide (1 ≤ s.size) && (decide (s.size ≤ 12) && (small (chr s 0) && (zha s).all zHC))):=by
  rw [zCX,zeb,Bool.eq_iff_iff]
  simp only [Bool.and_eq_true,decide_eq_true_eq,qL,zHC]
  constructor
  · rintro ⟨h1,h2,h3⟩
    have:=h3 0 (by omega) (by omega)
    refine ⟨h1,h2,by grind,fun j h4 h5=>?_⟩
    have:=h3 j h4 h5
    grind
  · rintro ⟨h1,h2,h3,h4⟩
    refine ⟨h1,h2,fun j h5 h6=>?_⟩
    have:=h4 j h5 h6
    by_cases e:j = 0
    · subst e; grind
    · grind
theorem zlk (s:ByteArray):zal (s,()) = some (zeb s,()):=by
  rw [zF]
  simp only [zal]
  rw [zPE]
  by_cases h1:s.size < 1
  · grind
  by_cases h2:s.size > 12
  · grind
  rw [zCY (by unfold Go.maxLen; omega) zQP]
  have hc:((UInt8.toNat (List.getD s.data.toList (Int.toNat 0) 0):Nat):Int) = chr s 0:=rfl
  rw [hc,zMt]
  simp only [Option.bind_some]
  grind
theorem zjh (s:ByteArray):zH (s,()) = some (zeb s,()):=by
  rw [zF]
  simp only [zH,ziU]
  unfold zeb
  by_cases h1:s.size < 1
  · have:s.size = 0:=by omega
    grind
  by_cases h2:s.size > 12
  · grind
  have hloop:zkr K0 (s,0) = bif zW (fun i=>small (chr s i) || (decide (i ≠ 0) && zx4 (chr s i))) 0 (s.size - 0) then some (true,()) else some (false,()) :=
    z8 (i0:=0) (n:=s.size) (by unfold Go.maxLen; omega) (Nat.zero_le _) (fun i=>(s,i)) (fun k i h3 h4=>by
      simp only [zgA]
      have hc:((UInt8.toNat (List.getD s.data.toList (Int.toNat (i:Int)) 0):Nat):Int) = chr s i:=by rw [Int.toNat_natCast]; rfl
      rw [hc]
      simp only [ltT h4,zk h4,cond_true,small,zx4]
      grind) (fun k=>by simp only [zgA]; rw [ltF]; rfl)
  rw [hloop]
  grind
def zdG (a:qA):Bool:=zeb a.1 && (zeb a.2.1 && zT a.2.2.1 0 3)
theorem zJG (a:qA):zda (a,()) = some (!zdG a,()):=by
  simp only [zda,zlk,zfR,Option.bind_some,zdG]; grind
theorem zgq {α:Type} (d x:α):zm (List.replicate 1 d) 0 x = [x]:=rfl
theorem zxG {n:Nat} (h:n ≤ 1000000):decide (n ≤ lim) = true:=decide_eq_true (by unfold lim; omega)
theorem zLJ (r:zf) (h:r.2.2.1.length ≤ 1000):zh9 (r,()) = some (r.2.2.1.map (·.1),()):=by
  have hl:r.2.2.1.length ≤ Go.maxLen:=by unfold Go.maxLen; omega
  have:=vB (B:=yB) (α:=List ByteArray) (len:=r.2.2.1.length) hl (fun i o=>(r.2.2.1,(r.2.2.1.length:Int),i,o)) (fun i o=>some (o ++ (r.2.2.1.drop i).map (·.1),())) (fun i o=>o.length ≤ i) (fun k i s hi hI hk=>by
    simp only [yB]
    rw [ltT hi,zk hi,zG,zgq,zxG (by simp; omega)]
    simp only [cond_true]
    rw [hk _ (by simp; omega),jB qQ hi]
    simp) (fun k s _=>by
    simp only [yB]
    rw [ltF,List.drop_of_length_le (Nat.le_refl _)]
    simp) [] (Nat.le_refl _)
  exact this
def zhb:List ByteArray→Bool
  | []=>true
  | x :: l=>!(l.any fun y=>eqI .str x y) && zhb l
theorem zs9 (x y:ByteArray):eqI .str x y = (x.toList == y.toList):=rfl
theorem zOT (o:List (ByteArray × Int)) (x z:ByteArray) (v:Int):jK .str (jP .str o x v) z = (jK .str o z || eqI .str z x):=by
  induction o with
  | nil=>simp only [jP,jK]; cases eqI .str z x <;> rfl
  | cons e o ih =>
    simp only [jP,jK]
    cases h:eqI .str x e.1 with
    | true =>
      simp only [cond_true,jK]
      have:eqI .str z e.1 = eqI .str z x:=by rw [zs9] at *; rw [zs9]; have:=eq_of_beq h; rw [this]
      cases h2:eqI .str z e.1 with
      | true=>rfl
      | false=>rw [← this,h2]; simp
    | false =>
      simp only [cond_false,jK,ih]
      cases eqI .str z e.1 <;> rfl
theorem zJH (o:List (ByteArray × Int)) (x:ByteArray) (v:Int):(jP .str o x v).length = o.length + (bif jK .str o x then 0 else 1):=by
  induction o with
  | nil=>rfl
  | cons e o ih =>
    simp only [jP,jK]
    cases h:eqI .str x e.1 with
    | true=>simp only [cond_true,List.length_cons,Nat.add_zero]
    | false =>
      simp only [cond_false,List.length_cons,ih]
      generalize (bif jK .str o x then 0 else 1) = n
      omega
def ztZ:List ByteArray→List (ByteArray × Int)→Nat
  | [],o=>o.length
  | x :: l,o=>ztZ l (jP .str o x (wI (zaQ .str (0:Int) o x + 1)))
theorem zMu:∀ (l:List ByteArray) (o:List (ByteArray × Int)),ztZ l o ≤ o.length + l.length
  | [],o=>Nat.le_refl _
  | x :: l,o=>by
    have h:=zMu l (jP .str o x (wI (zaQ .str (0:Int) o x + 1)))
    rw [zJH] at h
    simp only [ztZ,List.length_cons]
    cases hm:jK .str o x <;> (rw [hm] at h; simp only [cond_true,cond_false] at h; omega)
theorem zMv:∀ (l:List ByteArray) (o:List (ByteArray × Int)),(ztZ l o == o.length + l.length) = (zhb l && l.all fun x=>!jK .str o x)
  | [],o=>by simp [ztZ,zhb]
  | x :: l,o=>by
    have h:=zMu l (jP .str o x (wI (zaQ .str (0:Int) o x + 1)))
    have ih:=zMv l (jP .str o x (wI (zaQ .str (0:Int) o x + 1)))
    rw [zJH] at h ih
    simp only [ztZ,List.length_cons,zhb,List.all_cons]
    cases hm:jK .str o x with
    | true =>
      rw [hm] at h
      simp only [cond_true] at h
      have:(ztZ l (jP .str o x (wI (zaQ .str (0:Int) o x + 1))) == o.length + (l.length + 1)) = false:=by
        simp only [beq_eq_false_iff_ne]; omega
      rw [this]
      simp
    | false =>
      rw [hm] at ih
      simp only [cond_false] at ih
      rw [show o.length + (l.length + 1) = o.length + 1 + l.length by omega,ih]
      simp only [zOT,Bool.not_or,Bool.not_false,Bool.true_and]
      have:(l.all fun z=>!jK .str o z && !eqI .str z x) = ((l.all fun z=>!jK .str o z) && !(l.any fun y=>eqI .str x y)):=by
        rw [Bool.eq_iff_iff]
        simp only [List.all_eq_true,Bool.and_eq_true,Bool.not_eq_true',List.any_eq_false,Bool.not_eq_true]
        have hs:∀ z,eqI .str z x = eqI .str x z:=fun z=>by rw [zs9,zs9]; exact Bool.beq_comm
        grind
      rw [this]
      cases zhb l <;> cases (l.all fun z=>!jK .str o z) <;> cases (l.any fun y=>eqI .str x y) <;> rfl
theorem zOU (m n:Nat):(((m:Nat):Int) == ((n:Nat):Int)) = (m == n):=by
  rw [Bool.eq_iff_iff]; simp only [beq_iff_eq]; omega
theorem zQf (l:List ByteArray) (h:l.length ≤ 1000):zoF (l,()) = some (zhb l,()):=by
  have:=zqe (B:=zem) (l:=l) (α:=List (ByteArray × Int)) (zd .str) (fun i o=>(l,l,(l.length:Int),i,o)) (fun rest o=>some (ztZ rest o == l.length,())) (by unfold Go.maxLen; omega) (fun k i x rest s hi hx _ hr hk=>by
    simp only [zem]
    rw [ltT hi,zk hi,Int.toNat_natCast,hx]
    simp only [cond_true]
    exact hk _) (fun k s=>by
    simp only [zem]
    rw [ltF]
    simp only [cond_false,ztZ]
    rw [zOU]
    cases s.length == l.length <;> rfl) []
  refine this.trans ?_
  have h2:=zMv l []
  simp only [List.length_nil,Nat.zero_add] at h2
  rw [h2]
  simp [jK]
def zfi (l:List qA):Bool:=zT (l.length:Int) 1 8 && (l.all zdG && zhb (l.map (·.1)))
theorem zND (r:zf):jW (r,()) = some (zfi r.2.2.1,()):=by
  rw [zF]
  simp only [jW,zfR,Option.bind_some]
  unfold zfi
  by_cases hw:zT (List.length r.2.2.1:Int) 1 8 = true
  · have hb:1 ≤ List.length r.2.2.1 ∧ List.length r.2.2.1 ≤ 8:=by unfold zT at hw; grind
    rw [zrJ (p:=fun a=>!zdG a) (by unfold Go.maxLen; omega) fun x _=>zJG x,zLJ r (by omega)]
    simp only [Option.bind_some]
    rw [zQf _ (by simp; omega)]
    simp only [Option.bind_some]
    have:=ve (l:=r.2.2.1) (p:=zdG)
    grind
  · grind
theorem zCZ:∀ {l:List ByteArray},zhb l = true ↔ ∀ i j:Nat,i < j→j < l.length→eqI .str (l.getD i (zd .str)) (l.getD j (zd .str)) = false
  | []=>by simp [zhb]
  | x :: l=>by
    simp only [zhb,Bool.and_eq_true,Bool.not_eq_true',List.any_eq_false,zCZ (l:=l)]
    constructor
    · rintro ⟨h1,h2⟩ i j hij hj
      cases j with
      | zero=>omega
      | succ j =>
        simp only [List.length_cons] at hj
        cases i with
        | zero =>
          have:=h1 (l.getD j (zd .str)) (zV (by omega))
          simpa using this
        | succ i=>exact h2 i j (by omega) (by omega)
    · intro h
      refine ⟨fun y hy=>?_,fun i j h1 h2=>h (i + 1) (j + 1) (by omega) (by simp only [List.length_cons]; omega)⟩
      obtain ⟨j,hj,rfl⟩:=List.mem_iff_getElem.1 hy
      have:=h 0 (j + 1) (by omega) (by simp only [List.length_cons]; omega)
      simpa [List.getD,hj] using this
theorem zAB (l:List qA):zfJ (l,()) = some (zfi l,()):=by
  rw [zF]
  simp only [zfJ,zfI]
  unfold zfi
  by_cases h1:l.length < 1
  · unfold zT; grind
  by_cases h2:l.length > 8
  · unfold zT; grind
  have hl:l.length ≤ Go.maxLen:=by unfold Go.maxLen; omega
  have inner:∀ k0 (j:Nat),j < l.length→zcK K0 k0 (l,(j:Int),0) = bif zW (fun i=>!eqI .str (l.getD i qQ).1 (l.getD j qQ).1) 0 j then k0 (l,wI ((j:Int) + 1)) else some (false,()):=fun k0 j hj =>
    z8 (i0:=0) (n:=j) (by omega) (Nat.zero_le _) (fun i=>(l,(j:Int),i)) (fun k i h3 h4=>by
      simp only [zcJ]
      rw [ltT h4,zk (by omega),zk hj,zG,zG,← zs9]
      simp only [cond_true]
      cases eqI .str (l.getD i qQ).1 (l.getD j qQ).1 <;> rfl) (fun k=>by simp only [zcJ]; rw [ltF]; rfl)
  have hloop:zg6 K0 (l,0) = bif zW (fun j=>zdG (l.getD j qQ) && zW (fun i=>!eqI .str (l.getD i qQ).1 (l.getD j qQ).1) 0 j) 0 (l.length - 0) then some (true,()) else some (false,()) :=
    z8 (i0:=0) hl (Nat.zero_le _) (fun i=>(l,i)) (fun k i h3 h4=>by
      simp only [zak]
      rw [ltT h4]
      simp only [zk h4,zG,zjh,Option.bind_some,cond_true]
      rw [inner k i h4]
      unfold zdG zT
      grind) (fun k=>by simp only [zak]; rw [ltF]; rfl)
  rw [hloop]
  have hw:zT (l.length:Int) 1 8 = true:=by unfold zT; grind
  have key:zW (fun j=>zdG (l.getD j qQ) && zW (fun i=>!eqI .str (l.getD i qQ).1 (l.getD j qQ).1) 0 j) 0 (l.length - 0) = (l.all zdG && zhb (l.map (·.1))):=by
    have hm:∀ i,i < l.length→(l.map (·.1)).getD i (zd .str) = (l.getD i qQ).1:=fun i hi=>by simp [List.getD,hi]
    rw [Bool.eq_iff_iff,Bool.and_eq_true,qL,zCZ,List.all_eq_true]
    constructor
    · intro h
      refine ⟨fun x hx=>?_,fun i j h3 h4=>?_⟩
      · obtain ⟨i,hi,rfl⟩:=List.mem_iff_getElem.1 hx
        have e:l.getD i qQ = l[i]:=by simp [List.getD,hi]
        rw [← e]
        have:=h i (by omega) (by omega)
        grind
      · rw [List.length_map] at h4
        rw [hm i (by omega),hm j h4]
        have:=h j (by omega) (by omega)
        simp only [Bool.and_eq_true,qL] at this
        have:=this.2 i (by omega) (by omega)
        simpa using this
    · rintro ⟨h3,h4⟩ j h5 h6
      simp only [Bool.and_eq_true,qL]
      refine ⟨h3 _ (zV (by omega)),fun i h7 h8=>?_⟩
      have:=h4 i j (by omega) (by rw [List.length_map]; omega)
      rw [hm i (by omega),hm j (by omega)] at this
      rw [this]; rfl
  rw [key,hw]
  grind
def zm4 (r:zf):Bool:=zT (r.2.1.length:Int) 1 8 && r.2.1.all fun i=>decide (0 ≤ i) && decide (i < (r.1.length:Int))
theorem zQg (r:zf) (h:r.1.length ≤ 1000):yt (r,()) = some (zm4 r,()):=by
  rw [zF]
  simp only [yt,zfR,Option.bind_some]
  unfold zm4
  by_cases hw:zT (List.length r.2.1:Int) 1 8 = true
  · have hb:1 ≤ List.length r.2.1 ∧ List.length r.2.1 ≤ 8:=by unfold zT at hw; grind
    have hq:∀ x:Int,(fun z:Int × Unit=>zcI (z.1,some r,())) (x,()) = some (!(decide (0 ≤ x) && decide (x < (r.1.length:Int))),()):=fun x=>by
      show zcI _ = _
      simp only [zcI,zfR,Option.bind_some]
      have:wI (((List.length r.1:Nat):Int) - 1) = (r.1.length:Int) - 1:=by
        unfold wI
        exact IntWalk.i64_in _ (by omega)
      rw [this]
      unfold zT
      grind
    rw [zdF (by unfold Go.maxLen; omega) fun x _=>hq x]
    simp only [Option.bind_some]
    have:=ve (l:=r.2.1) (p:=fun i=>decide (0 ≤ i) && decide (i < (r.1.length:Int)))
    grind
  · grind
def zx5 (r:zf):Bool:=zT r.2.2.2.2.2.1 0 24 && (zT r.2.2.2.2.2.2.1 0 48 && (zT r.2.2.2.2.2.2.2.1 1 4 && zT r.2.2.2.2.2.2.2.2.1 1 16))
theorem zQQ (r:zf):zai (r,()) = some (zx5 r,()):=by
  simp only [zai,zfR,Option.bind_some,zx5]; grind
def zta (q:zbn):Bool:=zT q.1 0 12 && (zT q.2.1 0 12 && (zT q.2.2.1 0 12 && (zT q.2.2.2.1 0 12 && zT q.2.2.2.2.1 0 12)))
def zll:Int→List zbn→Bool
  | _,[]=>true
  | left,q :: l=>zta q && (decide (q.2.2.2.2.2.1 ≤ left) && zll (wU (left - q.2.2.2.2.2.1)) l)
theorem zNE (x:Int):zfE (x,()) = some (!zT x 0 12,()):=by
  simp only [zfE,zfR,Option.bind_some]; grind
def zhU (n:Nat) (l:List zbn):Bool:=decide (l.length = n) && (decide (0 < l.length) && (decide (1 ≤ (l.getD 0 qt).1) && zll 4611686018427387904 l))
theorem zPF (r:zf) (h:1 ≤ r.1.length ∧ r.1.length ≤ 1000):vL (r,()) = some (zhU r.1.length r.2.2.2.2.1,()):=by
  rw [zF]
  simp only [vL,zhI]
  unfold zhU
  by_cases hn:r.2.2.2.2.1.length = r.1.length
  · have hl:r.2.2.2.2.1.length ≤ Go.maxLen:=by unfold Go.maxLen; omega
    have hloop:zjz K0 (4611686018427387904,r.2.2.2.2.1,(r.2.2.2.2.1.length:Int),0) = some (zll 4611686018427387904 r.2.2.2.2.1,()) :=
      zqe (l:=r.2.2.2.2.1) (α:=Int) qt (fun i s=>(s,r.2.2.2.2.1,(r.2.2.2.2.1.length:Int),i)) (fun rest s=>some (zll s rest,())) hl (fun k i x rest s hi hx _ hr hk=>by
        simp only [zfL]
        rw [ltT hi,zk hi]
        simp only [zG,hx,cond_true]
        have hnum:zkh (x,()) = some ([x.1,x.2.1,x.2.2.1,x.2.2.2.1,x.2.2.2.2.1],()):=rfl
        rw [hnum]
        simp only [Option.bind_some]
        rw [zdF (p:=fun n=>!zT n 0 12) (l:=[x.1,x.2.1,x.2.2.1,x.2.2.2.1,x.2.2.2.2.1]) (by unfold Go.maxLen; simp) fun n _=>zNE n]
        simp only [Option.bind_some,hk,zll,zta,List.any_cons,List.any_nil]
        grind) (fun k s=>by simp only [zfL]; rw [ltF]; rfl) _
    rw [hloop,zNC]
    have h1:(((List.length r.2.2.2.2.1:Nat):Int) != ((List.length r.1:Nat):Int)) = false:=by rw [ziP]; simp [hn]
    rw [h1]
    grind
  · have h1:(((List.length r.2.2.2.2.1:Nat):Int) != ((List.length r.1:Nat):Int)) = true:=by rw [ziP]; simp [hn]
    rw [h1]
    grind
theorem zGZ (x:Int):yp (x,()) = some (zT x 0 12,()):=by
  simp only [yp,zT]; grind
theorem zEQ (l:List zbn) (hl:l.length ≤ Go.maxLen):zl0 (l,()) = some (zhU l.length l,()):=by
  rw [zF]
  show zg (yV) K0 (l,4611686018427387904,0) = _
  have hloop:zg (yV) K0 (l,4611686018427387904,0) = some (zll 4611686018427387904 l && (decide (0 < l.length) && decide (1 ≤ (l.getD 0 qt).1)),()) :=
    zqe (l:=l) (α:=Int) qt (fun i s=>(l,s,i)) (fun rest s=>some (zll s rest && (decide (0 < l.length) && decide (1 ≤ (l.getD 0 qt).1)),())) hl (fun k i x rest s hi hx _ hr hk=>by
      simp only [yV]
      rw [ltT hi,zk hi]
      simp only [zG,hx,cond_true,zGZ,Option.bind_some,hk,zll,zta]
      grind) (fun k s=>by
      simp only [yV]
      rw [ltF,zNC]
      simp only [zll]
      grind) _
  rw [hloop]
  unfold zhU
  grind
end Go.Proofs.YtejbgeokcpillaaGreatDoor
end
section
namespace Go.Proofs.YtejbgeokcpillaaGreatDoor
open Go.Ev
def zAC (b:Int):Int:=((2 ^ b.toNat:Nat):Int)
def yP (b:Int):Bool:=decide (0 ≤ b) && decide (b < 64)
theorem zOV {b:Int} (h:yP b = true):Go.IntKind.wrap .u64 (1 * 2 ^ (min (Int.toNat b) (Go.IntKind.bits .u64))) = zAC b:=by
  unfold yP at h
  simp only [Bool.and_eq_true,decide_eq_true_eq] at h
  obtain ⟨n,rfl⟩:=Int.eq_ofNat_of_zero_le h.1
  have hn:n < 64:=by omega
  unfold zAC
  rw [Int.toNat_natCast]
  have hm:min n (Go.IntKind.bits .u64) = n:=Nat.min_eq_left (by show n ≤ 64; omega)
  rw [hm]
  have:∀ n:Fin 64,Go.IntKind.wrap .u64 (1 * 2 ^ n.val) = ((2 ^ n.val:Nat):Int):=by decide +kernel
  exact this ⟨n,hn⟩
theorem zlm {n:Int} (h:0 ≤ n ∧ n < 18446744073709551616):Go.IntKind.wrap .u64 n = n:=by
  show n % ((2 ^ 64:Nat):Int) = n
  exact Int.emod_eq_of_lt h.1 (by have:((2 ^ 64:Nat):Int) = 18446744073709551616:=by decide
                                  omega)
def znG (c:Int) (b:Nat):Bool:=c.toNat.testBit b
theorem has_eq (c b:Int) (hc:0 ≤ c) (hb:0 ≤ b ∧ b < 64):(Int.tmod (Int.fdiv c (2 ^ min (Int.toNat (Go.IntKind.wrap .u64 b)) (Go.IntKind.bits .u64))) 2 == 1) = znG c b.toNat:=by
  obtain ⟨n,rfl⟩:=Int.eq_ofNat_of_zero_le hc
  obtain ⟨m,rfl⟩:=Int.eq_ofNat_of_zero_le hb.1
  rw [zlm (by omega)]
  have hm:min (Int.toNat (m:Int)) (Go.IntKind.bits .u64) = m:=Nat.min_eq_left (by show (m:Int).toNat ≤ 64; omega)
  rw [hm]
  unfold znG
  have h2:Int.fdiv (n:Int) (2 ^ m) = ((n / 2 ^ m:Nat):Int):=by
    rw [show ((2:Int) ^ m) = ((2 ^ m:Nat):Int) by simp]
    rw [Int.fdiv_eq_ediv_of_nonneg _ (Int.natCast_nonneg _)]
    rfl
  have h3:Int.tmod ((n / 2 ^ m:Nat):Int) 2 = ((n / 2 ^ m % 2:Nat):Int):=by
    rw [Int.tmod_eq_emod_of_nonneg (Int.natCast_nonneg _)]
    rfl
  rw [h2,h3,Int.toNat_natCast,Int.toNat_natCast,Nat.testBit_eq_decide_div_mod_eq]
  have:(((n / 2 ^ m % 2:Nat):Int) == 1) = decide (n / 2 ^ m % 2 = 1):=by
    by_cases h:n / 2 ^ m % 2 = 1
    · rw [h]; rfl
    · rw [decide_eq_false h]
      cases hx:(((n / 2 ^ m % 2:Nat):Int) == 1) with
      | false=>rfl
      | true=>exact absurd (Int.ofNat.inj (by simpa using hx)) h
  exact this
def zhV (a b:Int):Int:=Go.IntKind.wrap .u64 (BitVec.toNat (BitVec.ofInt (Go.IntKind.bits .u64) a &&& ~~~BitVec.ofInt (Go.IntKind.bits .u64) b):Int)
def orI (a b:Int):Int:=Go.IntKind.wrap .u64 (BitVec.toNat (BitVec.ofInt (Go.IntKind.bits .u64) a ||| BitVec.ofInt (Go.IntKind.bits .u64) b):Int)
def zod:Int→List zE→Int
  | a,[]=>a
  | a,g :: gs=>zod (orI a (zAC g.1)) gs
theorem zm5 (n:Nat):BitVec.ofInt (Go.IntKind.bits .u64) (n:Int) = BitVec.ofNat 64 n:=by
  show BitVec.ofInt 64 (n:Int) = BitVec.ofNat 64 n
  apply BitVec.eq_of_toNat_eq
  rw [BitVec.toNat_ofInt,BitVec.toNat_ofNat]
  omega
theorem zPX (x:BitVec 64):Go.IntKind.wrap .u64 (x.toNat:Int) = (x.toNat:Int):=by
  have:=x.isLt
  exact zlm (by omega)
theorem zQh (a b:Nat) (ha:a < 2 ^ 64) (hb:b < 2 ^ 64):orI (a:Int) (b:Int) = ((a ||| b:Nat):Int):=by
  unfold orI
  rw [zm5,zm5]
  show Go.IntKind.wrap .u64 ((BitVec.ofNat 64 a ||| BitVec.ofNat 64 b).toNat:Int) = _
  rw [zPX,BitVec.toNat_or,BitVec.toNat_ofNat,BitVec.toNat_ofNat,Nat.mod_eq_of_lt ha,Nat.mod_eq_of_lt hb]
theorem zzh (c m:Nat) (hc:c < 2 ^ 64) (hm:m < 2 ^ 64):(zhV (c:Int) (m:Int) != 0) = !((List.range' 0 64).all fun i=>!c.testBit i || m.testBit i):=by
  unfold zhV
  rw [zm5,zm5]
  show (Go.IntKind.wrap .u64 ((BitVec.ofNat 64 c &&& ~~~BitVec.ofNat 64 m).toNat:Int) != 0) = _
  rw [zPX]
  have hbit:∀ i,i < 64→(BitVec.ofNat 64 c &&& ~~~BitVec.ofNat 64 m).getLsbD i = (c.testBit i && !m.testBit i):=by
    intro i hi
    rw [BitVec.getLsbD_and,BitVec.getLsbD_not,BitVec.getLsbD_ofNat,BitVec.getLsbD_ofNat]
    simp [hi]
  by_cases h:((List.range' 0 64).all fun i=>!c.testBit i || m.testBit i) = true
  · rw [h]
    have h0:(BitVec.ofNat 64 c &&& ~~~BitVec.ofNat 64 m) = 0#64:=by
      apply BitVec.eq_of_getLsbD_eq
      intro i hi
      rw [hbit i hi]
      have:=List.all_eq_true.1 h i (by simp [List.mem_range'_1]; omega)
      revert this
      cases c.testBit i <;> cases m.testBit i <;> simp
    rw [h0]
    rfl
  · have h':=h
    simp only [Bool.not_eq_true] at h'
    rw [h']
    have:(BitVec.ofNat 64 c &&& ~~~BitVec.ofNat 64 m).toNat ≠ 0:=by
      intro h0
      apply h
      rw [List.all_eq_true]
      intro i hi
      simp only [List.mem_range'_1] at hi
      have hb:=hbit i (by omega)
      have e0:(BitVec.ofNat 64 c &&& ~~~BitVec.ofNat 64 m) = 0#64:=BitVec.eq_of_toNat_eq (by rw [h0]; rfl)
      rw [e0] at hb
      revert hb
      cases c.testBit i <;> cases m.testBit i <;> simp
    rw [Bool.not_false,bne_iff_ne]
    omega
theorem zPG {b:Int} (h:yP b = true):∃ n:Nat,b = n ∧ n < 64 ∧ zAC b = ((2 ^ n:Nat):Int):=by
  unfold yP at h
  simp only [Bool.and_eq_true,decide_eq_true_eq] at h
  obtain ⟨n,rfl⟩:=Int.eq_ofNat_of_zero_le h.1
  exact ⟨n,rfl,by omega,rfl⟩
theorem zC0:∀ (l:List zE) (m:Nat),m < 2 ^ 64→(∀ g ∈ l,yP g.1 = true)→∃ k:Nat,zod (m:Int) l = (k:Int) ∧ k < 2 ^ 64 ∧ ∀ i:Nat,k.testBit i = (m.testBit i || l.any fun g=>g.1 == (i:Int))
  | [],m,hm,_=>⟨m,rfl,hm,fun i=>by simp⟩
  | g :: l,m,hm,h=>by
    obtain ⟨n,hn,hn64,hv⟩:=zPG (h g (by simp))
    have hp:2 ^ n < 2 ^ 64:=Nat.pow_lt_pow_right (by omega) hn64
    obtain ⟨k,hk,hk64,hb⟩:=zC0 l (m ||| 2 ^ n) (Nat.or_lt_two_pow hm hp) fun g hg=>h g (by simp [hg])
    refine ⟨k,?_,hk64,fun i=>?_⟩
    · simp only [zod]
      rw [hv,zQh m (2 ^ n) hm hp]
      exact hk
    · rw [hb i,Nat.testBit_or,Nat.testBit_two_pow,List.any_cons,hn,Bool.or_assoc]
      congr 2
      by_cases e:n = i
      · subst e; simp
      · rw [decide_eq_false e]
        symm
        simp only [beq_eq_false_iff_ne,ne_eq]
        omega
def zx6 (l:List zE) (c:Int) (i k:Nat):Bool:=(List.range' i k).all fun b=>!znG c b || l.any fun g=>g.1 == (b:Int)
def zxH (labels:List zC) (l:List zE):Bool:=labels.all fun a=>zx6 l a.2.1 0 64
def zpD (l:List zC):Prop:=∀ a ∈ l,0 ≤ a.2.1 ∧ a.2.1 < 18446744073709551616
theorem zQR (labels:List zC) (l:List zE) (hl:zpD labels) (h:∀ g ∈ l,yP g.1 = true):(labels.any fun a=>zhV a.2.1 (zod 0 l) != 0) = !zxH labels l:=by
  obtain ⟨k,hk,hk64,hb⟩:=zC0 l 0 (by decide) h
  have hk':zod 0 l = (k:Int):=hk
  rw [hk']
  unfold zxH
  have key:∀ ls:List zC,zpD ls→(ls.any fun a=>zhV a.2.1 (k:Int) != 0) = !(ls.all fun a=>zx6 l a.2.1 0 64):=by
    intro ls
    induction ls with
    | nil=>intro _; rfl
    | cons a ls ih =>
      intro ha
      have h1:=ha a (by simp)
      rw [List.any_cons,List.all_cons,ih fun b hb=>ha b (by simp [hb]),Bool.not_and]
      congr 1
      obtain ⟨c,hc⟩:=Int.eq_ofNat_of_zero_le h1.1
      rw [hc,zzh c k (by omega) hk64]
      congr 1
      unfold zx6
      congr 1
      funext i
      rw [hb i]
      unfold znG
      simp
  exact key labels hl
def zt0 (b:Int):zC:=(0,zAC b,())
theorem zJI (b:Int):zkg (b,()) = some (bif yP b then (zt0 b,0,()) else ((0,0,()),1,())):=by
  simp only [zkg]
  cases h:yP b with
  | true =>
    have hs:wU (1 * 2 ^ min (Int.toNat b) (Go.IntKind.bits .u64)) = zAC b:=zOV h
    rw [hs]
    simp only [yP,Bool.and_eq_true,decide_eq_true_eq] at h
    simp only [zt0]
    grind
  | false =>
    simp only [yP,Bool.and_eq_false_iff,decide_eq_false_iff_not] at h
    grind
theorem zNF (a:zC) (c:Int):zjs (a,some c,()) = some (zhV a.2.1 c != 0,()):=by
  rw [zF]; rfl
theorem zNG (a b:zC):eqI zt a b = eqI zt b a:=by
  rw [zq7,zq7]
  grind
theorem zJJ {σ α:Type} {B:(σ→Option (Int × Unit))→σ→Option (Int × Unit)} {l:List α} (d:α) {p:α→Bool} (st:Int→σ) (hl:l.length ≤ Go.maxLen)
    (hin:∀ k (i:Nat) x,i < l.length→l.getD i d = x→x ∈ l→B k (st i) = bif p x then some ((i:Int),()) else k (st (wI (i + 1)))) (hout:∀ k,B k (st l.length) = some (-1,())):zg B K0 (st 0) = some (je p l 0,()):=by
  have:=vB (α:=Unit) (B:=B) hl (fun i _=>st i) (fun i _=>some (je p (l.drop i) i,())) (fun _ _=>True) (fun k i s hi _ h=>?_) (fun k s _=>?_) () trivial
  · simpa using this
  · rw [hin k i _ hi rfl (zV hi),h () trivial,jB d hi]
    simp only [je]
    cases p (l.getD i d) <;> rfl
  · rw [hout,List.drop_of_length_le (Nat.le_refl _)]; rfl
theorem zPH {σ α ρ:Type} {B:(σ→Option ρ)→σ→Option ρ} {l:List α} (d:α) {p:α→Bool} {fin hit:Option ρ} (st:Int→σ) (hl:l.length ≤ Go.maxLen)
    (hin:∀ k (i:Nat) x,i < l.length→l.getD i d = x→x ∈ l→B k (st i) = bif p x then hit else k (st (wI (i + 1)))) (hout:∀ k,B k (st l.length) = fin):zg B K0 (st 0) = bif l.any p then hit else fin:=by
  have:=jF (B:=B) (p:=fun x=>!p x) (fin:=fin) (bad:=hit) d st hl (fun k i x h1 h2 h3=>by
    rw [hin k i x h1 h2 h3]; cases p x <;> rfl) hout
  rw [this,← List.not_any_eq_all_not]
  cases l.any p <;> rfl
theorem zAD {l:List zC} {a:zC} (hl:l.length ≤ Go.maxLen):zb3 (l,a,()) = some (l.any fun y=>eqI zt a y,()):=by
  have h:zjr (l,a,()) = some (je (fun y=>eqI zt a y) l 0,()) :=
    zJJ (B:=zaf) (l:=l) jh (fun i=>(l,(l.length:Int),i,a)) hl (fun k i x hi hx _=>by
      simp only [zaf]
      rw [ltT hi,zk hi,zG,hx]; rfl) (fun k=>by simp only [zaf]; rw [ltF]; rfl)
  rw [zF]
  simp only [zb3,h,Option.bind_some]
  rw [zzE (p:=fun y=>eqI zt a y) l 0 (Int.le_refl 0)]
theorem zFA {α:Type} {p:α→Bool}:∀ (xs:List α) (i:Int),0 ≤ i→decide (je p xs i < 0) = !xs.any p
  | [],_,_=>rfl
  | x :: xs,i,h=>by
    have ih:=zFA (p:=p) xs (i + 1) (by omega)
    simp only [je,List.any_cons]
    by_cases hp:p x = true
    · simp [hp]; omega
    · simp only [Bool.not_eq_true] at hp
      simpa [hp] using ih
theorem zJK (b:Int) (h:yP b = true):zg2 (b,()) = some (zt0 b,()):=by
  simp only [zg2]
  have hs:=zOV h
  simp only [yP,Bool.and_eq_true,decide_eq_true_eq] at h
  have hw:wU b = b:=zlm (by omega)
  rw [hw,decide_eq_false (by omega),cond_false]
  exact congrArg (fun z:Int=>some (((0,z,()),()):zC × Unit)) hs
theorem zG0 {l:List zC} {a:zC} (hl:l.length ≤ Go.maxLen):ziV (l,a,()) = some (je (fun y=>eqI zt y a) l 0,()) :=
  zJJ (B:=zcC) (l:=l) jh (fun i=>(l,i,a)) hl (fun k i x hi hx _=>by
      simp only [zcC]
      rw [ltT hi,zk hi,zG,hx]; rfl) (fun k=>by simp only [zcC]; rw [ltF]; rfl)
theorem zLK {l:List zE} {b:Int} (hl:l.length ≤ Go.maxLen):zrz (l,b,()) = some (l.any fun g=>(g.1:Int) == b,()):=by
  rw [zF]
  exact zPH (B:=zfY) (l:=l) qB (fun i=>(l,b,i)) hl (fun k i x hi hx _=>by
      simp only [zfY]
      rw [ltT hi,zk hi,zG,hx]; rfl) (fun k=>by simp only [zfY]; rw [ltF]; rfl)
theorem zrK (a:zC) (b:Int) (ha:0 ≤ a.2.1) (hb:0 ≤ b ∧ b < 64):zgh (a,b,()) = some (znG a.2.1 b.toNat,()):=by
  rw [zF]
  simp only [zgh]
  have hh:=has_eq a.2.1 b ha hb
  have hw:wU b = b:=zlm (by omega)
  rw [hw,decide_eq_false (by omega),cond_false,← hh]
  have hw':Go.IntKind.wrap .u64 b = b:=hw
  rw [hw']
def zAE (labels:List zC) (n:Nat) (last:Int) (g:zE):Bool:=yP g.1 && (decide (last < g.1) && (zT g.2.1 0 ((n:Int) - 1) && labels.any fun y=>eqI zt (zt0 g.1) y))
def zhc (labels:List zC) (n:Nat):Int→List zE→Bool
  | _,[]=>true
  | last,g :: gs=>zAE labels n last g && zhc labels n g.1 gs
def zol (labels:List zC) (n:Nat) (l:List zE):Bool:=decide (l.length ≤ 8) && (zhc labels n (-1) l && zxH labels l)
theorem zFB {labels:List zC} {m:Nat}:∀ (l:List zE) (last:Int),zhc labels m last l = true→∀ g ∈ l,yP g.1 = true
  | [],_,_,g,hg=>by cases hg
  | a :: l,last,h,g,hg=>by
    simp only [zhc,zAE,Bool.and_eq_true] at h
    rcases List.mem_cons.1 hg with rfl | hg
    · exact h.1.1
    · exact zFB l a.1 h.2 g hg
theorem zPI (r:zf) (h1:r.1.length ≤ Go.maxLen) (h2:r.2.2.1.length ≤ 1000000) (h3:r.2.2.2.1.length ≤ Go.maxLen) (hL:zpD r.1):vK (r,()) = some (zol r.1 r.2.2.1.length r.2.2.2.1,()):=by
  have hloop:vK (r,()) = some (zhc r.1 r.2.2.1.length (-1) r.2.2.2.1 && (decide (r.2.2.2.1.length ≤ 8) && !(r.1.any fun a=>zhV a.2.1 (zod 0 r.2.2.2.1) != 0)),()) :=
    zqe (B := zbA) (l:=r.2.2.2.1) (α:=Int × Int) qB (fun i s=>(s.1,r.2.2.2.1,(r.2.2.2.1.length:Int),i,r,s.2))
      (fun rest s=>some (zhc r.1 r.2.2.1.length s.1 rest && (decide (r.2.2.2.1.length ≤ 8) && !(r.1.any fun a=>zhV a.2.1 (zod s.2 rest) != 0)),())) h3 (fun k i x rest s hi hx _ hr hk=>by
        simp only [zbA]
        have hw:wI (((List.length r.2.2.1:Nat):Int) - 1) = (r.2.2.1.length:Int) - 1:=by
          unfold wI
          exact IntWalk.i64_in _ (by omega)
        rw [ltT hi,zk hi,hw]
        simp only [zG,hx,cond_true,zJI,Option.bind_some,zhc,zAE,zod]
        cases hb:yP x.1 with
        | false=>rfl
        | true =>
          simp only [cond_true,zfR,Option.bind_some,Bool.true_and,zAD h1]
          have hk':=hk (x.1,orI s.2 (zAC x.1))
          have e:decide (s.1 < x.1) = !decide ((x.1:Int) ≤ s.1):=by grind
          rw [e]
          cases decide ((x.1:Int) ≤ s.1) with
          | true=>rfl
          | false =>
            cases zT x.2.1 0 ((r.2.2.1.length:Int) - 1) with
            | false=>rfl
            | true =>
              cases (r.1.any fun y=>eqI zt (zt0 x.1) y) with
              | false=>rfl
              | true=>exact hk') (fun k s=>by
        simp only [zbA]
        rw [ltF]
        simp only [cond_false,zhc,zod,Bool.true_and]
        rw [zlh (p:=fun a=>zhV a.2.1 s.2 != 0) h1 fun x _=>zNF x s.2,Option.bind_some]
        grind) (-1,0)
  rw [hloop]
  unfold zol
  cases hr:zhc r.1 r.2.2.1.length (-1) r.2.2.2.1 with
  | false=>simp
  | true =>
    rw [zQR r.1 r.2.2.2.1 hL (zFB _ _ hr)]
    simp
theorem zC1 {labels:List zC} {n:Nat}:∀ {l:List zE} {last:Int},zhc labels n last l = zW (fun i=>zAE labels n (if i = 0 then last else (l.getD (i - 1) qB).1) (l.getD i qB)) 0 l.length:=by
  intro l
  induction l with
  | nil=>intro last; rfl
  | cons a l ih =>
    intro last
    simp only [zhc,List.length_cons,zW,ih]
    rw [Bool.eq_iff_iff]
    simp only [Bool.and_eq_true,qL]
    constructor
    · rintro ⟨h1,h2⟩
      refine ⟨h1,fun j h3 h4=>?_⟩
      obtain ⟨i,rfl⟩:∃ i,j = i + 1:=⟨j - 1,by omega⟩
      have:=h2 i (by omega) (by omega)
      rw [if_neg (by omega)]
      by_cases e:i = 0
      · subst e; simpa using this
      · rw [if_neg e] at this
        obtain ⟨m,rfl⟩:∃ m,i = m + 1:=⟨i - 1,by omega⟩
        exact this
    · rintro ⟨h1,h2⟩
      refine ⟨h1,fun j h3 h4=>?_⟩
      have:=h2 (j + 1) (by omega) (by omega)
      rw [if_neg (by omega)] at this
      by_cases e:j = 0
      · subst e; simpa using this
      · rw [if_neg e]
        obtain ⟨m,rfl⟩:∃ m,j = m + 1:=⟨j - 1,by omega⟩
        exact this
theorem zER (l:List zE) (labels:List zC) (n:Nat) (h1:labels.length ≤ Go.maxLen) (hL:zpD labels):zhG (l,labels,(n:Int),()) = some (zol labels n l,()):=by
  rw [zF]
  simp only [zhG,zhF]
  unfold zol
  by_cases h8:l.length ≤ 8
  · have hl:l.length ≤ Go.maxLen:=by unfold Go.maxLen; omega
    have bits:∀ k1 (j:Nat),j < labels.length→zg (yU k1) K0 (l,labels,(j:Int),0) = bif zx6 l (labels.getD j jh).2.1 0 64 then k1 (l,labels,wI ((j:Int) + 1)) else some (false,()):=fun k1 j hj=>by
      have hc:=(hL _ (zV (d:=jh) hj)).1
      have:=zFx (B:=yU k1) (n:=64) (by unfold Go.maxLen; omega) (p:=fun b=>!znG (labels.getD j jh).2.1 b || l.any fun g=>(g.1:Int) == (b:Int)) (fin:=k1 (l,labels,wI ((j:Int) + 1))) (bad:=some (false,())) (fun i=>(l,labels,(j:Int),i)) (fun k i hi=>by
        simp only [yU]
        rw [decide_eq_true (by omega),zk hj,zG,zrK _ _ hc (by omega),zLK hl,Int.toNat_natCast]
        simp only [cond_true,Option.bind_some]
        grind) (fun k=>by
        simp only [yU]
        rfl)
      rw [this]
      unfold zx6
      rw [List.range_eq_range']
    have cover:zfK K0 (l,labels,0) = some (zxH labels l,()):=by
      rw [zF]
      exact jF (l:=labels) jh (p:=fun a=>zx6 l a.2.1 0 64) (fun i=>(l,labels,i)) h1 (fun k i x hi hx _=>by
        simp only [zbw]
        rw [ltT hi,cond_true]
        refine (bits k i hi).trans ?_
        rw [hx]) (fun k=>by simp only [zbw]; rw [ltF]; rfl)
    have hloop:zjy K0 (l,labels,(n:Int),0) = bif zW (fun i=>zAE labels n (if i = 0 then -1 else (l.getD (i - 1) qB).1) (l.getD i qB)) 0 (l.length - 0) then some (zxH labels l,()) else some (false,()) :=
      z8 (i0:=0) hl (Nat.zero_le _) (fun i=>(l,labels,(n:Int),i)) (fun k i h3 h4=>by
        simp only [zbx]
        rw [ltT h4]
        simp only [zk h4,cond_true,zG,zAE]
        by_cases hb:yP (l.getD i qB).1 = true
        · rw [zJK _ hb,Option.bind_some,zG0 h1,Option.bind_some,hb]
          have ha:(labels.any fun y=>eqI zt y (zt0 (l.getD i qB).1)) = labels.any fun y=>eqI zt (zt0 (l.getD i qB).1) y:=by congr 1; funext y; exact zNG _ _
          rw [zFA labels 0 (Int.le_refl 0),ha]
          simp only [yP,Bool.and_eq_true,decide_eq_true_eq] at hb
          by_cases hi0:i = 0
          · subst hi0
            unfold zT
            grind
          · rw [zjN (by omega) (by unfold Go.maxLen; omega),zk (by omega),Int.toNat_natCast,if_neg hi0]
            unfold zT
            grind
        · simp only [Bool.not_eq_true] at hb
          rw [hb]
          simp only [yP,Bool.and_eq_false_iff,decide_eq_false_iff_not] at hb
          grind) (fun k=>by
        simp only [zbx]
        rw [ltF,cond_false]
        exact cover)
    rw [hloop,zC1]
    grind
  · grind
def qZ (r:zf):Bool:=zcf r.1 && (zm4 r && (zfi r.2.2.1 && (zol r.1 r.2.2.1.length r.2.2.2.1 && (zhU r.1.length r.2.2.2.2.1 && zx5 r))))
structure z9 (r:zf):Prop where
  labels:zpD r.1
  guilds:r.2.2.2.1.length ≤ Go.maxLen
  quotas:r.2.2.2.2.1.length ≤ Go.maxLen
theorem znH (r:zf) (h:z9 r):zaI (r,()) = some (qZ r,()):=by
  rw [zF]
  show zg zgJ K0 (6,0,r,[some vM,some yt,some jW,some vK,some vL,some zai]) = _
  obtain ⟨m,hm⟩:=zx3
  have hu:zg zgJ (m + 8) (6,0,r,[some vM,some yt,some jW,some vK,some vL,some zai]) =
    Option.bind (vM (r,())) fun q=>bif q.1 then Option.bind (yt (r,())) fun q=>bif q.1 then Option.bind (jW (r,())) fun q=>bif q.1 then Option.bind (vK (r,())) fun q=>bif q.1 then Option.bind (vL (r,())) fun q=>bif q.1 then Option.bind (zai (r,())) fun q=>bif q.1 then some (true,()) else some (false,()) else some (false,()) else some (false,()) else some (false,()) else some (false,()) else some (false,()):=by kernel_rfl
  rw [hm,hu,zPD]
  unfold qZ
  simp only [Option.bind_some]
  cases h1:zcf r.1 with
  | false=>rfl
  | true =>
    have hb:1 ≤ r.1.length ∧ r.1.length ≤ 8:=by unfold zcf zT at h1; grind
    rw [zQg r (by omega),zND]
    simp only [Option.bind_some,cond_true]
    cases zm4 r with
    | false=>rfl
    | true =>
      cases h2:zfi r.2.2.1 with
      | false=>rfl
      | true =>
        have hc:r.2.2.1.length ≤ 8:=by unfold zfi zT at h2; grind
        rw [zPI r (by unfold Go.maxLen; omega) (by omega) h.guilds h.labels,zPF r (by omega),zQQ]
        simp only [Option.bind_some]
        grind
theorem zvk (r:zf) (h:z9 r):zf5 (r,()) = some (qZ r,()):=by
  rw [zF]
  simp only [zf5,zi3,zEP,zAB,Option.bind_some]
  unfold qZ
  cases h1:zcf r.1 with
  | false=>rfl
  | true =>
    have hb:1 ≤ r.1.length ∧ r.1.length ≤ 8:=by unfold zcf zT at h1; grind
    rw [zER _ _ _ (by unfold Go.maxLen; omega) h.labels]
    simp only [Option.bind_some]
    by_cases hw:zT (List.length r.2.1:Int) 1 8 = true
    · have hloop:zkL K0 (0,r) = bif (r.2.1.all fun i=>decide (0 ≤ i) && decide (i < (r.1.length:Int))) then some (zhU r.1.length r.2.2.2.2.1 && zx5 r,()) else some (false,()) :=
        jF (l:=r.2.1) (0:Int) (fun i=>(i,r)) (by unfold zT at hw; unfold Go.maxLen; grind) (fun k i x hi hx _=>by
          simp only [zgE]
          rw [ltT hi,zk hi,zk hi,zG,hx]
          grind) (fun k=>by
          simp only [zgE]
          rw [ltF,zEQ _ h.quotas,ziP]
          simp only [Option.bind_some,zhU,zx5,zT]
          by_cases hn:r.2.2.2.2.1.length = r.1.length
          · rw [hn]; grind
          · grind)
      rw [hloop]
      unfold zm4
      unfold zT at hw ⊢
      grind
    · unfold zm4
      unfold zT at hw ⊢
      grind
end Go.Proofs.YtejbgeokcpillaaGreatDoor
end
section
namespace Go.Proofs.YtejbgeokcpillaaGreatDoor
open Go.Ev
def qn (x:Int):Bool:=decide (0 ≤ x ∧ x ≤ 127)
theorem zNH (x:Int):zfu (x,()) = some (qn x,()):=by simp only [zfu,qn]; grind
theorem zdW (x:Int):vo (x,()) = some (qn x,()):=by simp only [vo,qn]; grind
theorem zOW (x:Int):zjT (x,()) = some (qn x,()):=by simp only [zjT,qn]; grind
theorem zLL (x:Int):zgi (x,()) = some (qn x,()):=by simp only [zgi,qn]; grind
def zec (x:qy):Bool:=qn x.1 && qn x.2.1
theorem zQi (x:qy):zgY (x,()) = some (zec x,()):=by simp only [zgY,zec,qn]; grind
theorem zji (x:qy):qx (x,()) = some (zec x,()):=by simp only [qx,zec,qn]; grind
def zHD (x:Int):Bool:=decide (0 ≤ x ∧ x ≤ 5)
theorem zQj (x:Int):zkj (x,()) = some (zHD x,()):=by simp only [zkj,zHD]; grind
def zpE (s:ByteArray):Bool:=ByteArray.toList s == ByteArray.toList (ByteArray.mk #[])
def zln (x:qV):Bool:=bif x.1 then zeb x.2.1 else zpE x.2.1
theorem zLM {s:ByteArray} (h:zpE s = true):zeb s = false:=by
  unfold zpE at h
  have:=eq_of_beq h
  rw [Go.ByteArray.toList_eq,Go.ByteArray.toList_eq] at this
  have h2:s.size = 0:=by
    rw [← zok,this]; rfl
  unfold zeb; rw [h2]; rfl
theorem zOX (x:qV):zhN (x,()) = some (!zln x,()):=by
  rw [zF]
  simp only [zhN,zlk,Option.bind_some,zln,zpE]
  grind
theorem zJL {l:List qV} (hl:l.length ≤ Go.maxLen):zk2 (l,()) = some (l.all zln,()):=by
  rw [zF]
  simp only [zk2]
  rw [zvO (p:=fun x=>!zln x) hl fun x _=>zOX x,Option.bind_some,← ve]
  cases l.any fun x=>!zln x <;> rfl
theorem zG1 {l:List qV} (hl:l.length ≤ Go.maxLen):zni (l,()) = some (l.all zln,()):=by
  rw [zF]
  exact jF (B:=zcM) (l:=l) zhs (fun i=>(l,i)) hl (fun k i x hi hx _=>by
    simp only [zcM]
    rw [ltT hi]
    simp only [zk hi,zG,hx,zjh,Option.bind_some,cond_true,zln]
    have:=@zLM x.2.1
    unfold zpE at this ⊢
    grind) (fun k=>by simp only [zcM]; rw [ltF]; rfl)
theorem zQk (a b:qy):eqI zv a b = ((a.1:Int) == b.1 && (a.2.1:Int) == b.2.1):=by
  show cond ((a.1:Int) == b.1) (cond ((a.2.1:Int) == b.2.1) true false) false = _
  cases ((a.1:Int) == b.1) <;> cases ((a.2.1:Int) == b.2.1) <;> rfl
def zxI (x:qe):Bool:=bif x.1 then zec x.2.1 && (zec x.2.2.1 && zHD x.2.2.2.1) else eqI zU x (zd zU)
theorem zJM (x:qe):zkw (x,()) = some (!zxI x,()):=by
  rw [zF]
  simp only [zkw,zQi,zQj,Option.bind_some,zxI]
  grind
def zhW (a b:qe):Bool:=a.1 && (eqI zv a.2.1 b.2.1 && (a.2.2.2.1:Int) == b.2.2.2.1)
theorem zES (x:qe) (r:qy) (d:Int):zhu (x,some r,some d,()) = some (x.1 && (eqI zv x.2.1 r && (x.2.2.2.1:Int) == d),()):=by
  rw [zF]
  simp only [zhu,Option.bind_some]
  grind
theorem zQl {α:Type} {d:α} {p:α→Bool}:∀ (l:List α) (i:Nat) (a:Int),i < l.length→p (l.getD i d) = true→((je p l a) == a + (i:Int)) = zW (fun j=>!p (l.getD j d)) 0 i:=by
  intro l
  induction l with
  | nil=>intro i a h; simp at h
  | cons x l ih =>
    intro i a h hp
    cases i with
    | zero =>
      have hx:p x = true:=hp
      simp only [je,hx,cond_true,zW]
      simp
    | succ i =>
      have h':i < l.length:=by simpa using h
      have hp':p (l.getD i d) = true:=hp
      have:=ih i (a + 1) h' hp'
      have e:a + 1 + (i:Int) = a + ((i + 1:Nat):Int):=by omega
      rw [e] at this
      simp only [je]
      rw [Bool.eq_iff_iff,qL]
      rw [Bool.eq_iff_iff,qL] at this
      cases hx:p x with
      | true =>
        simp only [cond_true]
        constructor
        · intro h1
          have:=eq_of_beq h1
          omega
        · intro h1
          have h2:(!p x) = true:=h1 0 (by omega) (by omega)
          rw [hx] at h2; cases h2
      | false =>
        simp only [cond_false]
        rw [this]
        constructor
        · intro h1 j _ h2
          cases j with
          | zero=>show (!p x) = true; rw [hx]; rfl
          | succ j=>exact h1 j (by omega) (by omega)
        · intro h1 j _ h2
          exact h1 (j + 1) (by omega) (by omega)
def zC2 (l:List qe):Bool:=zW (fun i=>zxI (l.getD i qh) && bif (l.getD i qh).1 then zW (fun j=>!zhW (l.getD j qh) (l.getD i qh)) 0 i else true) 0 (l.length - 0)
theorem zJN {l:List qe} (hl:l.length ≤ Go.maxLen):zph (l,()) = some (zC2 l,()):=by
  rw [zF]
  exact z8 (B:=zeS) (i0:=0) hl (Nat.zero_le _) (fun i=>(l,l,(l.length:Int),i)) (fun k i h1 h2=>by
    simp only [zeS]
    rw [ltT h2,zk h2]
    simp only [zG,zJM,Option.bind_some,cond_true]
    cases he:zxI (l.getD i qh) with
    | false=>rfl
    | true =>
      cases hs:(l.getD i qh).1 with
      | false=>rfl
      | true =>
        have hi:zkx (l,(l.getD i qh).2.1,(l.getD i qh).2.2.2.1,()) = some (je (fun x=>zhW x (l.getD i qh)) l 0,()):=by
          simp only [zkx]
          rw [zpB (p:=fun x=>zhW x (l.getD i qh)) hl fun x _=>zES x _ _]
          rfl
        have hp:zhW (l.getD i qh) (l.getD i qh) = true:=by
          unfold zhW; rw [zQk,hs]; simp
        have:=zQl (d:=qh) (p:=fun x=>zhW x (l.getD i qh)) l i 0 h2 hp
        rw [Int.zero_add] at this
        rw [hi,← this]
        simp only [Option.bind_some,Bool.not_true,cond_false,cond_true,Bool.true_and,bne]
        cases (je (fun x=>zhW x (l.getD i qh)) l 0 == (i:Int)) <;> rfl) (fun k=>by simp only [zeS]; rw [ltF]; rfl)
theorem zG2 {l:List qe} (hl:l.length ≤ Go.maxLen):znk (l,()) = some (zC2 l,()):=by
  rw [zF]
  have inner:∀ k0 (i:Nat),i < l.length→zcP K0 k0 (l,(i:Int),0,l.getD i qh) = bif zW (fun j=>!((l.getD i qh).1 && zhW (l.getD j qh) (l.getD i qh))) 0 (i - 0) then k0 (l,wI ((i:Int) + 1)) else some (false,()):=fun k0 i hi =>
    z8 (B:=zcO k0) (i0:=0) (n:=i) (by omega) (Nat.zero_le _) (fun j=>(l,(i:Int),j,l.getD i qh)) (fun k j h1 h2=>by
      simp only [zcO]
      rw [ltT h2]
      simp only [zk (show j < l.length by omega),zG,cond_true,zhW]
      grind) (fun k=>by simp only [zcO]; rw [ltF]; rfl)
  exact z8 (B:=fun k=>zau (zcP K0 k) k) (i0:=0) hl (Nat.zero_le _) (fun i=>(l,i)) (fun k i h1 h2=>by
    simp only [zau]
    rw [ltT h2]
    simp only [zk h2,zG,zji,Option.bind_some,cond_true,zxI,zHD]
    have:=inner k i h2
    rw [this]
    cases hs:(l.getD i qh).1 with
    | false =>
      simp only [Bool.false_and,Bool.not_false,cond_false,Bool.and_true]
      have:zW (fun _=>true) 0 (i - 0) = true:=qL.2 fun _ _ _=>rfl
      rw [this]
      grind
    | true =>
      simp only [Bool.true_and,cond_true,Nat.sub_zero]
      grind) (fun k=>by simp only [zau]; rw [ltF]; rfl)
def zfS (k n:Int) (r:qy):Bool:=((k == 1 || k == 3) && (qn n && eqI zv r (zd zv))) || (k == 2 && (n == 0 && zec r))
def qb (x:zh):Bool:=bif x.1 then zeb x.2.1 && zfS x.2.2.1 x.2.2.2.1 x.2.2.2.2.1 else eqI zi x (zd zi)
theorem zlo (x:qS):jU (x,()) = some (zfS x.1 x.2.1 x.2.2.1,()):=by
  rw [zF]
  simp only [jU,zNH,Option.bind_some,zfS,zec]
  grind
theorem zG3 (x:zh):zi8 (x,()) = some (!qb x,()):=by
  rw [zF]
  have h:zhv (x,()) = some ((x.2.2.1,x.2.2.2.1,x.2.2.2.2.1,()),()):=rfl
  simp only [zi8,zlk,Option.bind_some,qb,h,zlo]
  grind
theorem znI {l:List zh} (hl:l.length ≤ Go.maxLen):zcb (l,()) = some (l.all qb,()):=by
  rw [zF]
  simp only [zcb]
  rw [zlL (p:=fun x=>!qb x) hl fun x _=>zG3 x,Option.bind_some,← ve]
  cases l.any fun x=>!qb x <;> rfl
theorem zcg {l:List zh} (hl:l.length ≤ Go.maxLen):yr (l,()) = some (l.all qb,()):=by
  rw [zF]
  exact jF (B:=zcR) (l:=l) zj (fun i=>(l,i)) hl (fun k i x hi hx _=>by
    simp only [zcR]
    rw [ltT hi]
    simp only [zk hi,zG,hx,zjh,zdW,zji,Option.bind_some,cond_true,qb,zfS]
    grind) (fun k=>by simp only [zcR]; rw [ltF]; rfl)
def ztb (c:Int):Bool:=decide (32 ≤ c ∧ c ≤ 126)
theorem zQm (c:Int):zkk (c,()) = some (ztb c,()):=by simp only [zkk,ztb]; grind
theorem zQY (c:Int):zmt (c,()) = some (ztb c,()):=by simp only [zmt,ztb]; grind
def zC3 (s:ByteArray):Bool:=decide (1 ≤ s.size ∧ s.size ≤ 40) && ((chr s 0 != 32 && chr s (s.size - 1) != 32) && zW (fun i=>ztb (chr s i)) 0 s.size)
theorem zC4 (a b:ByteArray) (h:a.size < b.size):(ByteArray.toList a == ByteArray.toList b) = false:=by
  rw [beq_eq_false_iff_ne]
  intro e
  rw [Go.ByteArray.toList_eq,Go.ByteArray.toList_eq] at e
  have:=congrArg List.length e
  rw [zok,zok] at this
  omega
theorem zQZ (s:ByteArray):∀ (n:Nat) (t:ByteArray),t.size ≤ n→∀ fuel,n < fuel→∃ r,zg zS fuel (t,32) = some (r,()) ∧ r.size ≤ t.size ∧ (chr t 0 ≠ 32→r = t) ∧ (1 ≤ t.size→chr t 0 = 32→r.size < t.size):=by
  intro n
  induction n with
  | zero =>
    intro t ht fuel hf
    obtain ⟨f,rfl⟩:∃ f,fuel = f + 1:=⟨fuel - 1,by omega⟩
    refine ⟨t,?_,Nat.le_refl _,fun _=>rfl,fun h=>by omega⟩
    show zS _ (t,32) = _
    simp only [zS]
    rw [decide_eq_false (by omega)]; rfl
  | succ n ih =>
    intro t ht fuel hf
    obtain ⟨f,rfl⟩:∃ f,fuel = f + 1:=⟨fuel - 1,by omega⟩
    by_cases h0:t.size = 0
    · refine ⟨t,?_,Nat.le_refl _,fun _=>rfl,fun h=>by omega⟩
      show zS _ (t,32) = _
      simp only [zS]
      rw [decide_eq_false (by omega)]; rfl
    have hc:((UInt8.toNat (List.getD t.data.toList (Int.toNat 0) 0):Nat):Int) = chr t 0:=rfl
    by_cases h32:chr t 0 = 32
    · have hsz:(ByteArray.extract t (Int.toNat 1) t.size).size = t.size - 1:=by
        rw [ByteArray.size_extract]
        show min t.size t.size - 1 = _
        omega
      obtain ⟨r,h1,h2,-⟩:=ih (ByteArray.extract t (Int.toNat 1) t.size) (by rw [hsz]; omega) f (by omega)
      refine ⟨r,?_,by omega,fun h=>absurd h32 h,fun _ _=>by omega⟩
      show zS (zg zS f) (t,32) = _
      simp only [zS]
      rw [hc,h32,h1]
      grind
    · refine ⟨t,?_,Nat.le_refl _,fun _=>rfl,fun _ h=>absurd h h32⟩
      show zS (zg zS f) (t,32) = _
      simp only [zS]
      rw [hc,decide_eq_true (by omega),decide_eq_true (by omega)]
      grind
theorem zQ0:∀ (n:Nat) (t:ByteArray),t.size ≤ n→n ≤ 100→∀ fuel,n < fuel→∃ r,zg zP fuel (t,32) = some (r,()) ∧ r.size ≤ t.size ∧ (chr t (t.size - 1) ≠ 32→r = t) ∧ (1 ≤ t.size→chr t (t.size - 1) = 32→r.size < t.size):=by
  intro n
  induction n with
  | zero =>
    intro t ht _ fuel hf
    obtain ⟨f,rfl⟩:∃ f,fuel = f + 1:=⟨fuel - 1,by omega⟩
    refine ⟨t,?_,Nat.le_refl _,fun _=>rfl,fun h=>by omega⟩
    show zP _ (t,32) = _
    simp only [zP]
    rw [decide_eq_false (by omega)]; rfl
  | succ n ih =>
    intro t ht hn fuel hf
    obtain ⟨f,rfl⟩:∃ f,fuel = f + 1:=⟨fuel - 1,by omega⟩
    by_cases h0:t.size = 0
    · refine ⟨t,?_,Nat.le_refl _,fun _=>rfl,fun h=>by omega⟩
      show zP _ (t,32) = _
      simp only [zP]
      rw [decide_eq_false (by omega)]; rfl
    have hw:wI ((t.size:Int) - 1) = ((t.size - 1:Nat):Int):=zjN (by omega) (by unfold Go.maxLen; omega)
    have hc:((UInt8.toNat (List.getD t.data.toList (Int.toNat ((t.size - 1:Nat):Int)) 0):Nat):Int) = chr t (t.size - 1):=by rw [Int.toNat_natCast]; rfl
    by_cases h32:chr t (t.size - 1) = 32
    · have hsz:(ByteArray.extract t 0 (Int.toNat ((t.size - 1:Nat):Int))).size = t.size - 1:=by
        rw [ByteArray.size_extract,Int.toNat_natCast]
        omega
      obtain ⟨r,h1,h2,-⟩:=ih (ByteArray.extract t 0 (Int.toNat ((t.size - 1:Nat):Int))) (by rw [hsz]; omega) (by omega) f (by omega)
      refine ⟨r,?_,by omega,fun h=>absurd h32 h,fun _ _=>by omega⟩
      show zP (zg zP f) (t,32) = _
      simp only [zP]
      rw [hw,hc,h32,h1,zk (by omega)]
      grind
    · refine ⟨t,?_,Nat.le_refl _,fun _=>rfl,fun _ h=>absurd h h32⟩
      show zP (zg zP f) (t,32) = _
      simp only [zP]
      rw [hw,hc,zk (by omega),decide_eq_true (by omega)]
      grind
theorem zQS (s:ByteArray) (h:1 ≤ s.size ∧ s.size ≤ 40):∃ r,zhA (s,ByteArray.mk #[32],()) = some (r,()) ∧ (ByteArray.toList r == ByteArray.toList s) = (chr s 0 != 32 && chr s (s.size - 1) != 32):=by
  obtain ⟨r,h1,h2,h3,h4⟩:=zQ0 s.size s (Nat.le_refl _) (by omega) K0 (zHB (by unfold Go.maxLen; omega))
  obtain ⟨r',h5,h6,h7,h8⟩:=zQZ s r.size r (Nat.le_refl _) K0 (zHB (by unfold Go.maxLen; omega))
  refine ⟨r',?_,?_⟩
  · simp only [zhA]
    have e0:(ByteArray.toList s == ByteArray.toList (ByteArray.mk #[])) = false:=by
      cases he:zpE s with
      | false=>exact he
      | true =>
        unfold zpE at he
        have:=eq_of_beq he
        rw [Go.ByteArray.toList_eq,Go.ByteArray.toList_eq] at this
        have h2:s.size = 0:=by
          rw [← zok,this]; rfl
        omega
    have e1:(ByteArray.toList (ByteArray.mk #[32]) == ByteArray.toList (ByteArray.mk #[])) = false:=by
      rw [Go.ByteArray.toList_eq,Go.ByteArray.toList_eq]; rfl
    have p1:zb7 (s,32,()) = some (r,()):=h1
    have p2:zdP (r,32,()) = some (r',()):=h5
    have z1:((ByteArray.size (ByteArray.mk #[32]):Nat):Int) = 1:=rfl
    have z2:((UInt8.toNat (List.getD (Array.toList (ByteArray.data (ByteArray.mk #[32]))) (Int.toNat 0) 0):Nat):Int) = 32:=rfl
    rw [e0,e1,z1,z2,p1,Option.bind_some,p2]
    rfl
  · by_cases hl:chr s (s.size - 1) = 32
    · have:=h4 h.1 hl
      rw [zC4 r' s (by omega),hl]; simp
    · obtain rfl:=h3 hl
      by_cases hf:chr r 0 = 32
      · have:=h8 h.1 hf
        rw [zC4 r' r (by omega),hf]; simp
      · rw [h7 hf]
        simp [hf,hl]
theorem zLN (s:ByteArray):zmy (s,()) = some (zC3 s,()):=by
  rw [zF]
  simp only [zmy]
  unfold zC3
  by_cases hb:1 ≤ s.size ∧ s.size ≤ 40
  · obtain ⟨r,h1,h2⟩:=zQS s hb
    rw [zCY (by unfold Go.maxLen; omega) zQm,h1,zCX,← h2]
    simp only [Option.bind_some]
    grind
  · grind
theorem zJO (s:ByteArray):zkA (s,()) = some (zC3 s,()):=by
  rw [zF]
  simp only [zkA,zkz]
  unfold zC3
  by_cases hb:1 ≤ s.size ∧ s.size ≤ 40
  · have hw:wI ((s.size:Int) - 1) = ((s.size - 1:Nat):Int):=zjN hb.1 (by unfold Go.maxLen; omega)
    have hc:((UInt8.toNat (List.getD s.data.toList (Int.toNat ((s.size - 1:Nat):Int)) 0):Nat):Int) = chr s (s.size - 1):=by rw [Int.toNat_natCast]; rfl
    have hc0:((UInt8.toNat (List.getD s.data.toList (Int.toNat 0) 0):Nat):Int) = chr s 0:=rfl
    have hloop:zl1 K0 (s,0) = bif zW (fun i=>ztb (chr s i)) 0 (s.size - 0) then some (true,()) else some (false,()) :=
      z8 (i0:=0) (n:=s.size) (by unfold Go.maxLen; omega) (Nat.zero_le _) (fun i=>(s,i)) (fun k i h1 h2=>by
        simp only [zhH]
        have hc:((UInt8.toNat (List.getD s.data.toList (Int.toNat (i:Int)) 0):Nat):Int) = chr s i:=by rw [Int.toNat_natCast]; rfl
        rw [hc,ltT h2,zk h2,zQY]; rfl) (fun k=>by simp only [zhH]; rw [ltF]; rfl)
    rw [hw,zk (by omega),hc,hc0,hloop]
    grind
  · grind
def zlp (x:qr):Bool:=bif x.1 then (qn x.2.1 && (qn x.2.2.1 && qn x.2.2.2.1)) && zC3 x.2.2.2.2.1 else eqI zY x (zd zY)
theorem zJP (x:qr):zk0 (x,()) = some (!zlp x,()):=by
  rw [zF]
  simp only [zk0,zlY,zOW,zLN,Option.bind_some,zlp]
  grind
theorem zJQ {l:List qr} (hl:l.length ≤ Go.maxLen):zk3 (l,()) = some (l.all zlp,()):=by
  rw [zF]
  simp only [zk3]
  rw [zlM (p:=fun x=>!zlp x) hl fun x _=>zJP x,Option.bind_some,← ve]
  cases l.any fun x=>!zlp x <;> rfl
theorem zG4 {l:List qr} (hl:l.length ≤ Go.maxLen):zno (l,()) = some (l.all zlp,()):=by
  rw [zF]
  exact jF (B:=zcW) (l:=l) zaS (fun i=>(l,i)) hl (fun k i x hi hx _=>by
    simp only [zcW]
    rw [ltT hi]
    simp only [zk hi,zG,hx,zJO,zLL,Option.bind_some,cond_true,zlp]
    grind) (fun k=>by simp only [zcW]; rw [ltF]; rfl)
end Go.Proofs.YtejbgeokcpillaaGreatDoor
end
section
namespace Go.Proofs.YtejbgeokcpillaaGreatDoor
open Go.Ev
abbrev M62:Int:=4611686018427387904
abbrev U64:Int:=18446744073709551616
def qH (x:Int):Bool:=decide (0 ≤ x ∧ x ≤ 3)
theorem zbT (x:Int):jt (x,()) = some (qH x,()):=by simp only [jt,qH]; grind
def zt1 (a b:Int):Int × Int × Unit:=bif decide (a + b > M62) then (0,7,()) else (a + b,0,())
theorem zLO {a b:Int} (ha:0 ≤ a) (hb:0 ≤ b ∧ b < U64):zmq (a,b,()) = some (zt1 a b):=by
  simp only [zmq,extA,extB,zt1,cond_true]
  have h0:0 ≤ (a + b) / 18446744073709551616:=by omega
  have h1:((a + b) / 18446744073709551616 != 0) = decide (18446744073709551616 ≤ a + b):=by
    rw [Bool.eq_iff_iff]; simp only [bne_iff_ne,ne_eq,decide_eq_true_eq]; omega
  have h2:a + b < 18446744073709551616→(a + b) % 18446744073709551616 = a + b:=fun h=>by omega
  unfold M62 at *
  unfold U64 at *
  grind
theorem zfd {a b:Int} (ha:0 ≤ a ∧ a < U64) (hb:0 ≤ b ∧ b < U64):vZ (a,b,()) = some (zt1 a b):=by
  simp only [vZ,zt1]
  unfold M62
  unfold U64 at *
  by_cases h1:a > 4611686018427387904
  · grind
  · have hw:wU (4611686018427387904 - a) = 4611686018427387904 - a:=zlm (by omega)
    rw [hw]
    by_cases h2:b > 4611686018427387904 - a
    · grind
    · have hw:wU (a + b) = a + b:=zlm (by omega)
      rw [hw]
      grind
def ztc (a b:Int):Int × Int × Unit:=bif decide (a * b > M62) then (0,7,()) else (a * b,0,())
theorem zQ1 (a b:Nat) (ha:a < 18446744073709551616) (hb:b < 18446744073709551616):zd4 ((a:Int),(b:Int),()) = some ((((a * b) / 18446744073709551616:Nat):Int),(((a * b) % 18446744073709551616:Nat):Int),()):=by
  have e32:((2:Int) ^ min (Int.toNat 32) (Go.IntKind.bits .u64)) = 4294967296:=rfl
  have hand:∀ x:Nat,x < 18446744073709551616→wU (BitVec.toNat (BitVec.ofInt (Go.IntKind.bits .u64) (x:Int) &&& BitVec.ofInt (Go.IntKind.bits .u64) 4294967295):Int) = ((x % 4294967296:Nat):Int):=fun x hx=>by
    have h1:BitVec.ofInt (Go.IntKind.bits .u64) 4294967295 = BitVec.ofNat 64 4294967295:=rfl
    rw [zm5,h1]
    have h2:(BitVec.ofNat 64 x &&& BitVec.ofNat 64 4294967295).toNat = x % 4294967296:=by
      rw [BitVec.toNat_and,BitVec.toNat_ofNat,BitVec.toNat_ofNat,Nat.mod_eq_of_lt (show x < 2 ^ 64 by omega)]
      exact Nat.and_two_pow_sub_one_eq_mod x 32
    have h3:((BitVec.ofNat 64 x &&& BitVec.ofNat 64 4294967295:BitVec (Go.IntKind.bits .u64)).toNat:Int) = ((x % 4294967296:Nat):Int):=congrArg _ h2
    exact (congrArg wU h3).trans (zlm (by omega))
  have hdiv:∀ x:Nat,Int.fdiv (x:Int) 4294967296 = ((x / 4294967296:Nat):Int):=fun x=>by
    rw [Int.fdiv_eq_ediv_of_nonneg _ (by omega)]; rfl
  have hw:∀ x:Nat,x < 18446744073709551616→wU (x:Int) = (x:Int):=fun x hx=>zlm (by omega)
  have hmod:wU ((a:Int) * (b:Int)) = (((a * b) % 18446744073709551616:Nat):Int):=by
    rw [show ((a:Int) * (b:Int)) = ((a * b:Nat):Int) by simp]
    show ((a * b:Nat):Int) % ((2 ^ 64:Nat):Int) = _
    rfl
  simp only [zd4,e32]
  have ha1:a / 4294967296 ≤ 4294967295:=by omega
  have ha0:a % 4294967296 ≤ 4294967295:=by omega
  have hb1:b / 4294967296 ≤ 4294967295:=by omega
  have hb0:b % 4294967296 ≤ 4294967295:=by omega
  have hp:=Nat.mul_le_mul ha1 hb1
  have hq:=Nat.mul_le_mul ha1 hb0
  have hr:=Nat.mul_le_mul ha0 hb1
  have hs:=Nat.mul_le_mul ha0 hb0
  have hab:a * b = (a / 4294967296 * (b / 4294967296)) * 18446744073709551616 + (a / 4294967296 * (b % 4294967296) + a % 4294967296 * (b / 4294967296)) * 4294967296 + a % 4294967296 * (b % 4294967296):=by
    conv=>lhs; rw [← Nat.div_add_mod a 4294967296,← Nat.div_add_mod b 4294967296]
    grind
  rw [hmod,hab,hand a ha,hand b hb,hdiv a,hdiv b]
  generalize a / 4294967296 = a1 at *
  generalize a % 4294967296 = a0 at *
  generalize b / 4294967296 = b1 at *
  generalize b % 4294967296 = b0 at *
  simp only [← Int.natCast_mul]
  generalize a1 * b1 = p at *
  generalize a1 * b0 = q at *
  generalize a0 * b1 = r at *
  generalize a0 * b0 = s at *
  rw [hw p (by omega),hw q (by omega),hw r (by omega),hw s (by omega),hdiv s]
  simp only [← Int.natCast_add]
  rw [hw (q + s / 4294967296) (by omega),hdiv (q + s / 4294967296),hand _ (by omega)]
  simp only [← Int.natCast_add]
  rw [hw (p + (q + s / 4294967296) / 4294967296) (by omega),hw ((q + s / 4294967296) % 4294967296 + r) (by omega),hdiv]
  simp only [← Int.natCast_add]
  rw [hw _ (by omega)]
  have:p + (q + s / 4294967296) / 4294967296 + ((q + s / 4294967296) % 4294967296 + r) / 4294967296 = (p * 18446744073709551616 + (q + r) * 4294967296 + s) / 18446744073709551616:=by omega
  rw [this]
theorem zJR {a b:Int} (ha:0 ≤ a ∧ a < U64) (hb:0 ≤ b ∧ b < U64):zg3 (a,b,()) = some (ztc a b):=by
  obtain ⟨m,rfl⟩:=Int.eq_ofNat_of_zero_le ha.1
  obtain ⟨n,rfl⟩:=Int.eq_ofNat_of_zero_le hb.1
  unfold U64 at *
  simp only [zg3]
  rw [zQ1 m n (by omega) (by omega),Option.bind_some]
  unfold ztc M62
  have e:((m:Int) * (n:Int)) = ((m * n:Nat):Int):=by simp
  rw [e]
  generalize m * n = p
  by_cases h:p < 18446744073709551616
  · have h1:p / 18446744073709551616 = 0:=by omega
    have h2:p % 18446744073709551616 = p:=by omega
    simp only [h1,h2]
    grind
  · have h1:(((p / 18446744073709551616:Nat):Int) != 0) = true:=by simp only [bne_iff_ne,ne_eq]; omega
    simp only [h1]
    grind
theorem zG5 {a b:Int} (ha:0 ≤ a ∧ a < U64) (hb:0 ≤ b ∧ b < U64):ziY (a,b,()) = some (ztc a b):=by
  obtain ⟨m,rfl⟩:=Int.eq_ofNat_of_zero_le ha.1
  obtain ⟨n,rfl⟩:=Int.eq_ofNat_of_zero_le hb.1
  unfold U64 at *
  simp only [ziY,ztc]
  unfold M62
  by_cases h0:m = 0
  · subst h0
    simp only [Int.natCast_zero,Int.zero_mul]
    rfl
  · have e:((m:Int) * (n:Int)) = ((m * n:Nat):Int):=by simp
    have hd:Int.tdiv 4611686018427387904 (m:Int) = ((4611686018427387904 / m:Nat):Int):=rfl
    have hle:4611686018427387904 / m ≤ 4611686018427387904:=Nat.div_le_self _ _
    have h1:4611686018427387904 / m < n ↔ 4611686018427387904 < m * n:=by
      have:=Nat.div_lt_iff_lt_mul (x:=4611686018427387904) (y:=n) (k:=m) (by omega)
      rw [Nat.mul_comm] at this
      exact this
    rw [hd]
    generalize 4611686018427387904 / m = q at *
    have hw:wU ((q:Nat):Int) = (q:Int):=zlm (by omega)
    have b1:(((m:Nat):Int) != 0) = true:=by simp only [bne_iff_ne,ne_eq]; omega
    have b2:(((m:Nat):Int) == 0) = false:=by simp only [beq_eq_false_iff_ne,ne_eq]; omega
    rw [hw,b1,b2,e]
    by_cases h2:m * n > 4611686018427387904
    · have:=h1.2 h2
      rw [decide_eq_true (by omega),decide_eq_true (by omega)]
      rfl
    · have h3:¬ q < n:=fun h=>h2 (h1.1 h)
      have hw2:wU ((m * n:Nat):Int) = ((m * n:Nat):Int):=zlm (by omega)
      rw [decide_eq_false (by omega),decide_eq_false (by omega),hw2]
      rfl
def zma:Int→List Int→Int × Int × Unit
  | a,[]=>(a,0,())
  | a,x :: l=>bif decide (a + x > M62) then (0,7,()) else zma (a + x) l
theorem j5 {σ α β ρ:Type} {B:(σ→Option ρ)→σ→Option ρ} {l:List β} (d:β) (I:Nat→α→Prop) (st:Int→α→σ) (G:List β→α→Option ρ) (hl:l.length ≤ Go.maxLen)
    (hin:∀ k (i:Nat) x rest s,i < l.length→I i s→l.getD i d = x→x ∈ l→l.drop (i + 1) = rest→(∀ s',I (i + 1) s'→k (st (wI (i + 1)) s') = G rest s')→B k (st i s) = G (x :: rest) s) (hout:∀ k s,I l.length s→B k (st l.length s) = G [] s) (s:α) (h0:I 0 s):zg B K0 (st 0 s) = G l s:=by
  have:=vB (B:=B) hl st (fun i s=>G (l.drop i) s) I (fun k i s hi hI h=>?_) (fun k s hI=>?_) s h0
  · simpa using this
  · rw [jB d hi]
    exact hin k i _ _ s hi hI rfl (zV hi) rfl fun s' hI'=>h s' hI'
  · rw [hout _ _ hI,List.drop_of_length_le (Nat.le_refl _)]
theorem zoe {l:List Int} (hl:l.length ≤ Go.maxLen) (h:∀ x ∈ l,0 ≤ x ∧ x < U64):zhB (l,()) = some (zma 0 l) :=
  j5 (B:=zg5) (l:=l) (α:=Int) (0:Int) (fun _ s=>0 ≤ s) (fun i s=>(s,l,(l.length:Int),i)) (fun rest s=>some (zma s rest)) hl (fun k i x rest s hi hI hx hm hr hk=>by
    simp only [zg5]
    have hxx:=h x hm
    rw [ltT hi,zk hi,zG,hx,zLO hI hxx]
    simp only [cond_true,Option.bind_some,zt1,zma]
    by_cases hb:s + x > M62
    · rw [decide_eq_true hb]; rfl
    · rw [decide_eq_false hb]
      exact hk (s + x) (by omega)) (fun k s _=>by simp only [zg5]; rw [ltF]; rfl) 0 (Int.le_refl 0)
def zET (a b:zC):Bool:=decide (a.1 ≤ b.1) && (List.range' 0 64).all fun i=>!znG a.2.1 i || znG b.2.1 i
def zpF (a:zC):Prop:=0 ≤ a.2.1 ∧ a.2.1 < U64
theorem zzi {a b:zC} (ha:zpF a) (hb:zpF b):ziv (a,b,()) = some (zET a b,()):=by
  rw [zF]
  simp only [ziv]
  unfold zET
  unfold zpF U64 at *
  obtain ⟨m,hm⟩:=Int.eq_ofNat_of_zero_le ha.1
  obtain ⟨n,hn⟩:=Int.eq_ofNat_of_zero_le hb.1
  have h1:=zzh m n (by omega) (by omega)
  unfold zhV at h1
  have h2:(wU (BitVec.toNat (BitVec.ofInt (Go.IntKind.bits .u64) (a.2.1:Int) &&& ~~~BitVec.ofInt (Go.IntKind.bits .u64) (b.2.1:Int)):Int) == 0) = (List.range' 0 64).all fun i=>!znG a.2.1 i || znG b.2.1 i:=by
    rw [hm,hn]
    have h3:∀ z:Int,(z != 0) = !(z == 0):=fun z=>rfl
    rw [h3] at h1
    have h4:=congrArg (!·) h1
    simp only [Bool.not_not] at h4
    exact h4
  rw [h2]
  grind
theorem zLP {a b:zC} (ha:zpF a) (hb:zpF b):zrH (a,b,()) = some (zET a b,()):=by
  rw [zF]
  unfold zET
  unfold zpF U64 at *
  have hr:List.range 64 = List.range' 0 64:=List.range_eq_range'
  rw [← hr]
  have hloop:=zFx (B:=zf4) (n:=64) (by unfold Go.maxLen; omega) (p:=fun i=>!znG a.2.1 i || znG b.2.1 i) (fin:=bif decide (a.1 ≤ b.1) then some (true,()) else some (false,())) (bad:=some (false,())) (fun i=>(i,a,b)) (fun k i hi=>by
    simp only [zf4]
    rw [decide_eq_true (by omega),zrK _ _ ha.1 (by omega),zrK _ _ hb.1 (by omega),Int.toNat_natCast]
    simp only [cond_true,Option.bind_some]
    grind) (fun k=>by simp only [zf4]; rfl)
  refine hloop.trans ?_
  grind
theorem zC5 (x:Int):zhw (x,()) = some (qn x,()):=by simp only [zhw,qn]; grind
theorem zLQ (x:Int):jw (x,()) = some (qn x,()):=by simp only [jw,qn]; grind
def ziH (x:zj7):Bool:=qH x.1 && (decide (x.2.1 ≤ M62) && decide (-1 ≤ x.2.2.1 ∧ x.2.2.1 ≤ 127))
theorem zLR (x:zj7):ziB (x,()) = some (ziH x,()):=by
  rw [zF]
  simp only [ziB,zbT,zC5,Option.bind_some,ziH,qn]
  unfold M62
  grind
theorem zLS (x:zj7):jx (x,()) = some (ziH x,()):=by
  rw [zF]
  simp only [jx,ziH,qH]
  unfold M62
  grind
def zq8 (x:zj7):Bool:=(x.2.1:Int) == 0 && (x.2.2.1:Int) == -1
theorem zJS (x:zj7):zg0 (x,()) = some (zq8 x,()):=by
  rw [zF]
  simp only [zg0,zq8]
  have h:eqI zd3 x (x.1,(zd zd3).2.1,-1,(zd zd3).2.2.2) = ((x.2.1:Int) == 0 && (x.2.2.1:Int) == -1):=by
    show cond ((x.1:Int) == x.1) (cond ((x.2.1:Int) == 0) (cond ((x.2.2.1:Int) == -1) true false) false) false = _
    rw [beq_self_eq_true]
    cases ((x.2.1:Int) == 0) <;> cases ((x.2.2.1:Int) == -1) <;> rfl
  rw [h]
def zpG (x:zx):Bool:=(qn x.2.1 && (qn x.2.2.1 && (x.2.1:Int) != x.2.2.1)) && ((ziH x.2.2.2.1 && ziH x.2.2.2.2.1) && !(zq8 x.2.2.2.1 && zq8 x.2.2.2.2.1))
def zhX (x:zx):Prop:=(0 ≤ x.2.2.2.1.2.1 ∧ x.2.2.2.1.2.1 < U64) ∧ (0 ≤ x.2.2.2.2.1.2.1 ∧ x.2.2.2.2.1.2.1 < U64)
theorem zLT (x:zx):zmv (x,()) = some (zpG x,()):=by
  rw [zF]
  simp only [zmv,zC5,zLR,zJS,Option.bind_some,zpG]
  grind
theorem zJT {x:zx} (h:zhX x):zkB (x,()) = some (zpG x,()):=by
  rw [zF]
  simp only [zkB,zLQ,zLS,Option.bind_some,zpG]
  have h1:ziH x.2.2.2.1 = true→zq8 x.2.2.2.1 = !(decide (x.2.2.2.1.2.1 > 0) || decide (x.2.2.2.1.2.2.1 ≥ 0)):=fun hp=>by
    unfold ziH at hp; unfold zq8; unfold zhX at h; grind
  have h2:ziH x.2.2.2.2.1 = true→zq8 x.2.2.2.2.1 = !(decide (x.2.2.2.2.1.2.1 > 0) || decide (x.2.2.2.2.1.2.2.1 ≥ 0)):=fun hp=>by
    unfold ziH at hp; unfold zq8; unfold zhX at h; grind
  generalize decide (x.2.2.2.1.2.1 > 0) = c1 at *
  generalize decide (x.2.2.2.1.2.2.1 ≥ 0) = c2 at *
  generalize decide (x.2.2.2.2.1.2.1 > 0) = c3 at *
  generalize decide (x.2.2.2.2.1.2.2.1 ≥ 0) = c4 at *
  cases c1 <;> cases c2 <;> cases c3 <;> cases c4 <;> grind
def zhY (x:zx):Bool:=bif x.1 then zpG x else eqI zz x (zd zz)
theorem zC6 (x:zx):zgF (x,()) = some (!zhY x,()):=by
  rw [zF]
  simp only [zgF,zLT,Option.bind_some,zhY]
  grind
theorem zG6 {l:List zx} (hl:l.length ≤ Go.maxLen):zi9 (l,()) = some (l.all zhY,()):=by
  rw [zF]
  simp only [zi9]
  rw [zli (p:=fun x=>!zhY x) hl fun x _=>zC6 x,Option.bind_some,← ve]
  cases l.any fun x=>!zhY x <;> rfl
theorem zG7 {l:List zx} (hl:l.length ≤ Go.maxLen) (h:∀ x ∈ l,zhX x):znq (l,()) = some (l.all zhY,()):=by
  rw [zF]
  exact jF (B:=zcY) (l:=l) zR (fun i=>(l,i)) hl (fun k i x hi hx hm=>by
    simp only [zcY]
    rw [ltT hi]
    simp only [zk hi,zG,hx,zJT (h x hm),Option.bind_some,cond_true,zhY]
    grind) (fun k=>by simp only [zcY]; rw [ltF]; rfl)
end Go.Proofs.YtejbgeokcpillaaGreatDoor
end
section
namespace Go.Proofs.YtejbgeokcpillaaGreatDoor
open Go.Ev
theorem zmb {α:Type} {p:α→Bool} {x:α} {l:List α}:(x :: l).filter p = bif p x then x :: l.filter p else l.filter p:=by
  rw [List.filter_cons]; cases p x <;> rfl
def z6 {α:Type} (p:α→Bool):Nat→List α→List Int
  | _,[]=>[]
  | i,x :: l=>bif p x then (i:Int) :: z6 p (i + 1) l else z6 p (i + 1) l
theorem zfT {α:Type} {p:α→Bool}:∀ (l:List α) (i:Nat),(z6 p i l).length ≤ l.length
  | [],_=>Nat.le_refl _
  | x :: l,i=>by
    have:=zfT (p:=p) l (i + 1)
    simp only [z6,List.length_cons]
    cases p x <;> simp <;> omega
theorem zof {α:Type} {p:α→Bool}:∀ (l:List α) (i:Nat),∀ z ∈ z6 p i l,∃ j:Nat,z = (j:Int) ∧ i ≤ j ∧ j < i + l.length
  | [],i,z,h=>by cases h
  | x :: l,i,z,h=>by
    simp only [z6] at h
    have ih:=zof (p:=p) l (i + 1)
    cases hp:p x with
    | true =>
      rw [hp,cond_true] at h
      rcases List.mem_cons.1 h with rfl | h
      · exact ⟨i,rfl,Nat.le_refl _,by simp⟩
      · obtain ⟨j,h1,h2,h3⟩:=ih z h
        exact ⟨j,h1,by omega,by simp; omega⟩
    | false =>
      rw [hp,cond_false] at h
      obtain ⟨j,h1,h2,h3⟩:=ih z h
      exact ⟨j,h1,by omega,by simp; omega⟩
theorem znJ {α β:Type} {p q:α→Bool} {g:α→β} (d:α) (L:List α):∀ (l:List α) (i:Nat),(∀ j,j < l.length→L.getD (i + j) d = l.getD j d)→((z6 p i l).filter fun z=>q (L.getD z.toNat d)).map (fun z=>g (L.getD z.toNat d)) = (l.filter fun x=>p x && q x).map g
  | [],_,_=>rfl
  | x :: l,i,h=>by
    have ih:=znJ (p:=p) (q:=q) (g:=g) d L l (i + 1) fun j hj=>by
      have:=h (j + 1) (by simp; omega)
      rw [show i + 1 + j = i + (j + 1) by omega,this]; rfl
    have h0:L.getD i d = x:=h 0 (by simp)
    simp only [z6,zmb]
    cases hp:p x with
    | false=>simp only [cond_false,Bool.false_and]; exact ih
    | true =>
      simp only [cond_true,Bool.true_and,zmb,Int.toNat_natCast,h0]
      cases hq:q x with
      | false=>exact ih
      | true=>simp only [cond_true,List.map_cons,Int.toNat_natCast,h0,ih]
theorem zxJ {l:List zx} {g:zx × Unit→Option (Bool × Unit)}:zfA (some (l,some g,()),()) = some (true,()):=rfl
theorem zzj {l:List zx} {g:zx × Unit→Option (Bool × Unit)} {p:zx→Bool} (hg:∀ x,g (x,()) = some (p x,())) {i:Nat} (hi:i < l.length):yc (some (l,some g,()),(i:Int),()) = some (p (l.getD i zR),()):=by
  rw [zF]
  simp only [yc,zxJ,Option.bind_some,cond_true]
  rw [decide_eq_true (by omega),ltT hi,zk hi,zG,hg]
  simp only [cond_true,Option.bind_some]
theorem zvl {l:List zx} {g:zx × Unit→Option (Bool × Unit)} {p:zx→Bool} (hl:l.length ≤ lim) (hg:∀ x,g (x,()) = some (p x,())):zea (some (l,some g,()),()) = some (z6 p 0 l,()):=by
  have hl':l.length ≤ Go.maxLen:=by unfold lim at hl; unfold Go.maxLen; omega
  have:=vB (B:=yM) (α:=List Int) hl' (fun i o=>(some (l,some g,()),(l.length:Int),i,o)) (fun i o=>some (o ++ z6 p i (l.drop i),())) (fun i o=>o.length ≤ i) (fun k i o hi hI hk=>by
    simp only [yM]
    rw [ltT hi,zzj hg hi,zgq,jB zR hi]
    simp only [cond_true,Option.bind_some,z6]
    rw [decide_eq_true (by simp; omega)]
    cases hp:p (l.getD i zR) with
    | false =>
      simp only [cond_false]
      exact hk o (by omega)
    | true =>
      simp only [cond_true]
      rw [hk _ (by simp; omega)]
      simp) (fun k o _=>by
    simp only [yM]
    rw [ltF,List.drop_of_length_le (Nat.le_refl _)]
    simp [z6]) [] (Nat.le_refl _)
  refine Eq.trans ?_ (this.trans ?_)
  · rfl
  · simp
theorem zJU {l:List zu} {g:zu × Unit→Option (Bool × Unit)}:zfB (some (l,some g,()),()) = some (true,()):=rfl
theorem zLU {l:List zu} {g:zu × Unit→Option (Bool × Unit)} {p:zu→Bool} (hg:∀ x,g (x,()) = some (p x,())) {i:Nat} (hi:i < l.length):zgD (some (l,some g,()),(i:Int),()) = some (p (l.getD i zK),()):=by
  rw [zF]
  simp only [zgD,zJU,Option.bind_some,cond_true]
  rw [decide_eq_true (by omega),ltT hi,zk hi,zG,hg]
  simp only [cond_true,Option.bind_some]
theorem zG8 {l:List zu} {g:zu × Unit→Option (Bool × Unit)} {p:zu→Bool} (hl:l.length ≤ lim) (hg:∀ x,g (x,()) = some (p x,())):zii (some (l,some g,()),()) = some (z6 p 0 l,()):=by
  have hl':l.length ≤ Go.maxLen:=by unfold lim at hl; unfold Go.maxLen; omega
  have:=vB (B:=yO) (α:=List Int) hl' (fun i o=>(some (l,some g,()),(l.length:Int),i,o)) (fun i o=>some (o ++ z6 p i (l.drop i),())) (fun i o=>o.length ≤ i) (fun k i o hi hI hk=>by
    simp only [yO]
    rw [ltT hi,zLU hg hi,zgq,jB zK hi]
    simp only [cond_true,Option.bind_some,z6]
    rw [decide_eq_true (by simp; omega)]
    cases hp:p (l.getD i zK) with
    | false =>
      simp only [cond_false]
      exact hk o (by omega)
    | true =>
      simp only [cond_true]
      rw [hk _ (by simp; omega)]
      simp) (fun k o _=>by
    simp only [yO]
    rw [ltF,List.drop_of_length_le (Nat.le_refl _)]
    simp [z6]) [] (Nat.le_refl _)
  refine Eq.trans ?_ (this.trans ?_)
  · rfl
  · simp
def zjW (l:List zx) (c:Int):Int × Int × Unit:=bif qH c then zma 0 ((l.filter fun x=>x.1 && (x.2.2.2.1.1:Int) == c).map fun x=>x.2.2.2.1.2.1) else (0,1,())
theorem zLV (l:List zx) (hl:l.length ≤ lim):zmw (l,()) = some (some (l,some ziS,()),()):=by
  simp only [zmw,yT,zvi hl,Option.bind_some]
  rfl
theorem zG9 (x:zx):ziS (x,()) = some (x.1,()):=by
  rw [zF]; rfl
theorem zJV {l:List zx} (hl:l.length ≤ lim) (h:∀ x ∈ l,zhX x) (c:Int):zkX (l,c,()) = some (zjW l c):=by
  have hl':l.length ≤ Go.maxLen:=by unfold lim at hl; unfold Go.maxLen; omega
  simp only [zkX,zkW,zbT,Option.bind_some]
  unfold zjW
  cases hc:qH c with
  | false=>rfl
  | true =>
    simp only [cond_true]
    rw [zLV l hl,Option.bind_some,zvl hl zG9,Option.bind_some]
    have hsl:=zfT (p:=fun x:zx=>x.1) l 0
    have hsm:=zof (p:=fun x:zx=>x.1) l 0
    have hloop:=j5 (B:=ze3) (l:=z6 (fun x:zx=>x.1) 0 l) (α:=List Int) (0:Int) (fun i o=>o.length ≤ i ∧ ∀ x ∈ o,0 ≤ x ∧ x < U64) (fun i o=>(l,c,z6 (fun x:zx=>x.1) 0 l,((z6 (fun x:zx=>x.1) 0 l).length:Int),i,o))
      (fun rest o=>some (zma 0 (o ++ (rest.filter fun z=>((l.getD z.toNat zR).2.2.2.1.1:Int) == c).map fun z=>(l.getD z.toNat zR).2.2.2.1.2.1))) (by omega) (fun k i x rest o hi hI hx hm hr hk=>by
        simp only [ze3]
        obtain ⟨j,rfl,-,hj⟩:=hsm x hm
        rw [ltT hi,zk hi,zG,hx,zk (by omega),zk (by omega),Int.toNat_natCast,zgq]
        have hxx:=(h (l.getD j zR) (zV (by omega))).1
        simp only [cond_true,zmb,Int.toNat_natCast]
        rw [decide_eq_true (by simp; omega)]
        simp only [cond_true]
        cases hq:((l.getD j zR).2.2.2.1.1:Int) == c with
        | false =>
          exact hk o ⟨by omega,hI.2⟩
        | true =>
          simp only [cond_true,List.map_cons,Int.toNat_natCast]
          refine (hk _ ⟨by simp; omega,fun x hx=>?_⟩).trans ?_
          · rcases List.mem_append.1 hx with hx | hx
            · exact hI.2 x hx
            · rcases List.mem_singleton.1 hx with rfl
              exact hxx
          · rw [List.append_assoc]; rfl) (fun k o hI=>by
        simp only [ze3]
        rw [ltF]
        simp only [cond_false]
        rw [zoe (by omega) hI.2,List.filter_nil,List.map_nil,List.append_nil]
        rfl) [] ⟨Nat.le_refl _,fun x hx=>by cases hx⟩
    refine hloop.trans ?_
    rw [List.nil_append,znJ (q:=fun x:zx=>(x.2.2.2.1.1:Int) == c) (g:=fun x:zx=>x.2.2.2.1.2.1) zR l l 0 fun j _=>by rw [Nat.zero_add]]
theorem zJW {l:List zx} (hl:l.length ≤ Go.maxLen) (h:∀ x ∈ l,zhX x) (c:Int):zkG (l,c,()) = some (zjW l c):=by
  simp only [zkG,zkF]
  unfold zjW
  cases hc:qH c with
  | false=>unfold qH at hc; grind
  | true =>
    have hloop:=j5 (B:=zeL) (l:=l) (α:=Int) zR (fun _ s=>0 ≤ s ∧ s ≤ M62) (fun i s=>(l,c,s,i)) (fun rest s=>some (zma s ((rest.filter fun x=>x.1 && (x.2.2.2.1.1:Int) == c).map fun x=>x.2.2.2.1.2.1))) hl (fun k i x rest s hi hI hx hm hr hk=>by
      simp only [zeL]
      have hxx:=(h x hm).1
      rw [ltT hi]
      simp only [zk hi,zG,hx,cond_true,zmb]
      unfold M62 at *
      unfold U64 at *
      rw [zfd (by unfold U64; omega) (by unfold U64; omega)]
      cases hl:x.1 with
      | false=>exact hk s hI
      | true =>
        cases hq:(x.2.2.2.1.1:Int) == c with
        | false=>exact hk s hI
        | true =>
          simp only [cond_true,Option.bind_some,zt1,Bool.and_self,List.map_cons,zma]
          unfold M62
          by_cases hb:s + x.2.2.2.1.2.1 > 4611686018427387904
          · rw [decide_eq_true hb]; rfl
          · rw [decide_eq_false hb]
            exact hk (s + x.2.2.2.1.2.1) (by omega)) (fun k s _=>by simp only [zeL]; rw [ltF]; rfl) 0 (by unfold M62; omega)
    refine Eq.trans ?_ hloop
    unfold qH at hc
    grind
end Go.Proofs.YtejbgeokcpillaaGreatDoor
end
section
namespace Go.Proofs.YtejbgeokcpillaaGreatDoor
open Go.Ev
def zAF (x:Int):Bool:=decide (0 ≤ x ∧ x ≤ 2)
theorem zEU (x:Int):za8 (x,()) = some (!zAF x,()):=by simp only [za8,zAF]; grind
def ztd (r:zf) (i:Nat) (row:List Int):Bool:=decide (row.length = r.2.2.1.length) && (row.all zAF && row.getD (Int.toNat (r.2.2.2.1.getD i qB).2.1) (0:Int) == 2)
def ziI (r:zf) (l:List (List Int)):Bool:=decide (l.length = r.2.2.2.1.length) && zW (fun i=>ztd r i (l.getD i [])) 0 (l.length - 0)
structure zhZ (r:zf):Prop where
  labels:1 ≤ r.1.length ∧ r.1.length ≤ 8
  lines:1 ≤ r.2.1.length ∧ r.2.1.length ≤ 8
  accounts:1 ≤ r.2.2.1.length ∧ r.2.2.1.length ≤ 8
  guilds:r.2.2.2.1.length ≤ 8
  quotas:r.2.2.2.2.1.length = r.1.length
  heads:∀ i,i < r.2.2.2.1.length→0 ≤ (r.2.2.2.1.getD i qB).2.1 ∧ (r.2.2.2.1.getD i qB).2.1 < (r.2.2.1.length:Int)
theorem vN {r:zf} (h:qZ r = true):zhZ r:=by
  simp only [qZ,Bool.and_eq_true] at h
  obtain ⟨h1,h2,h3,h4,h5,-⟩:=h
  simp only [zcf,zm4,zfi,zol,zhU,zT,Bool.and_eq_true,decide_eq_true_eq,zC1,qL] at h1 h2 h3 h4 h5
  refine ⟨by omega,by omega,by omega,h4.1,by omega,fun i hi=>?_⟩
  have:=h4.2.1 i (by omega) (by omega)
  simp only [zAE,zT,Bool.and_eq_true,decide_eq_true_eq] at this
  omega
theorem ixR {n:Nat} {x:Int} {ρ:Type} {y:Option ρ} (h:0 ≤ x ∧ x < (n:Int)):inR x (n:Int) y = y:=zOO h.1 h.2
theorem zJX {r:zf} (hr:z9 r) (l:List (List Int)):zlc (r,l,()) = some (qZ r && ziI r l,()):=by
  rw [zF]
  simp only [zlc,zlb,znH r hr,Option.bind_some]
  cases hb:qZ r with
  | false=>rfl
  | true =>
    have ok:=vN hb
    rw [ziP]
    unfold ziI
    by_cases hn:l.length = r.2.2.2.1.length
    · have hg:=ok.guilds
      have hloop:zl6 K0 (some za8,l,(l.length:Int),0,r) = bif zW (fun i=>ztd r i (l.getD i [])) 0 (l.length - 0) then some (true,()) else some (false,()) :=
        z8 (i0:=0) (n:=l.length) (by unfold Go.maxLen; omega) (Nat.zero_le _) (fun i=>(some za8,l,(l.length:Int),i,r)) (fun k i h1 h2=>by
          simp only [zhQ]
          rw [ltT h2,zk h2,Int.toNat_natCast,ziP]
          unfold ztd
          by_cases hm:(l.getD i []).length = r.2.2.1.length
          · have ha:=ok.accounts
            have hh:=ok.heads i (by omega)
            rw [zdF (p:=fun x=>!zAF x) (l:=l.getD i []) (by unfold Go.maxLen; omega) fun x _=>zEU x,zk (by omega),zG,ixR (by rw [hm]; exact hh)]
            have:=ve (l:=l.getD i []) (p:=zAF)
            simp only [Option.bind_some,cond_true]
            grind
          · grind) (fun k=>by simp only [zhQ]; rw [ltF]; rfl)
      rw [hloop]
      grind
    · grind
theorem zHa {r:zf} (hr:z9 r) (l:List (List Int)):zi7 (r,l,()) = some (qZ r && ziI r l,()):=by
  rw [zF]
  simp only [zi7,zi6,zvk r hr,Option.bind_some]
  cases hb:qZ r with
  | false=>rfl
  | true =>
    have ok:=vN hb
    rw [ziP]
    unfold ziI
    by_cases hn:l.length = r.2.2.2.1.length
    · have hg:=ok.guilds
      have ha:=ok.accounts
      have inner:∀ k0 (i:Nat),i < l.length→(l.getD i []).length = r.2.2.1.length→zgH K0 k0 (l,(i:Int),0,r) = bif (l.getD i []).all zAF then k0 (l,wI ((i:Int) + 1),r) else some (false,()):=fun k0 i hi hm =>
        jF (l:=l.getD i []) (0:Int) (fun j=>(l,(i:Int),j,r)) (by unfold Go.maxLen; omega) (fun k j x h1 h2 _=>by
          simp only [zgG]
          have h2':List.getD (l.getD i []) j (0:Int) = x:=h2
          simp only [zk hi,Int.toNat_natCast,ltT h1,zk h1,h2',cond_true,zAF]
          grind) (fun k=>by
          simp only [zgG]
          simp only [zk hi,Int.toNat_natCast]
          rw [ltF]; rfl)
      have hloop:zkZ K0 (l,0,r) = bif zW (fun i=>ztd r i (l.getD i [])) 0 (l.length - 0) then some (true,()) else some (false,()) :=
        z8 (i0:=0) (n:=l.length) (by unfold Go.maxLen; omega) (Nat.zero_le _) (fun i=>(l,i,r)) (fun k i h1 h2=>by
          simp only [zc5]
          rw [ltT h2]
          simp only [zk h2,Int.toNat_natCast]
          rw [ziP]
          unfold ztd
          by_cases hm:(l.getD i []).length = r.2.2.1.length
          · have hh:=ok.heads i (by omega)
            have hi:=inner k i h2 hm
            rw [zk (by omega),zG,ixR (by rw [hm]; exact hh),hi]
            simp only [cond_true]
            grind
          · grind) (fun k=>by simp only [zc5]; rw [ltF]; rfl)
      rw [hloop]
      grind
    · grind
theorem zOY (x:Int):zmS (x,()) = some (qn x,()):=by simp only [zmS,qn]; grind
theorem zLW (x:Int):ziw (x,()) = some (qn x,()):=by simp only [ziw,qn]; grind
theorem zNI (x:Int):zfw (x,()) = some (qn x,()):=by simp only [zfw,qn]; grind
theorem zLX (x:Int):zdT (x,()) = some (qn x,()):=by simp only [zdT,qn]; grind
def zlq (k a b:Int):Int × Int × Unit:=bif (k != 1 && k != 2) || (a == 0 || b == 0) then (0,1,()) else bif decide (a * b > M62) then (0,7,()) else bif k == 2 then (a,0,()) else (a * b,0,())
theorem zzk {k a b:Int} (ha:0 ≤ a ∧ a < U64) (hb:0 ≤ b ∧ b < U64):ziE (k,a,b,()) = some (zlq k a b):=by
  simp only [ziE,zJR ha hb,Option.bind_some,ztc,zlq]
  generalize a * b = p
  cases h:decide (p > M62) <;> simp only [cond_true,cond_false] <;> grind
theorem zxK {k a b:Int} (ha:0 ≤ a ∧ a < U64) (hb:0 ≤ b ∧ b < U64):zg7 (k,a,b,()) = some (zlq k a b):=by
  simp only [zg7,zG5 ha hb,Option.bind_some,ztc,zlq]
  generalize a * b = p
  cases h:decide (p > M62) <;> simp only [cond_true,cond_false] <;> grind
def zgP (x:Int):Prop:=0 ≤ x ∧ x < U64
structure zh0 (x:zu):Prop where
  amount:zgP x.2.2.2.2.2.2.1
  price:zgP x.2.2.2.2.2.2.2.1
  held:zgP x.2.2.2.2.2.2.2.2.1
def zjD (x:zu):Bool:=((zlq x.2.2.2.1 x.2.2.2.2.2.2.2.1 x.2.2.2.2.2.2.1).2.1 == 0 && (zlq x.2.2.2.1 x.2.2.2.2.2.2.2.1 x.2.2.2.2.2.2.1).1 == x.2.2.2.2.2.2.2.2.1) && ((qn x.2.1 && qn x.2.2.1) && ((qH x.2.2.2.2.1 && qH x.2.2.2.2.2.1) && ((x.2.2.2.2.1:Int) != x.2.2.2.2.2.1 && decide (0 ≤ x.2.2.2.2.2.2.2.2.2.1))))
theorem zNJ {x:zu} (h:zh0 x):zob (x,()) = some (zjD x,()):=by
  rw [zF]
  simp only [zob,zzk h.price h.amount,zOY,zbT,Option.bind_some,zjD]
  generalize zlq x.2.2.2.1 x.2.2.2.2.2.2.2.1 x.2.2.2.2.2.2.1 = n
  grind
theorem zLY {x:zu} (h:zh0 x):ziF (x,()) = some (zjD x,()):=by
  rw [zF]
  simp only [ziF,zxK h.price h.amount,zLW,Option.bind_some,zjD]
  generalize zlq x.2.2.2.1 x.2.2.2.2.2.2.2.1 x.2.2.2.2.2.2.1 = n
  unfold qH
  grind
def zmc (x:zu):Bool:=bif x.1 then zjD x else eqI zr x (zd zr)
def zrL (l:List zu):List Int:=(l.filter fun x=>x.1).map fun x=>x.2.2.2.2.2.2.2.2.2.1
end Go.Proofs.YtejbgeokcpillaaGreatDoor
end
