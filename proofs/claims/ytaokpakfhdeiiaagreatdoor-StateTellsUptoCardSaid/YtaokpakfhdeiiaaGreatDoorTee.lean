import Derived.Test.YtaokpakfhdeiiaaGreatDoorTed
set_option linter.unusedVariables false
set_option linter.unusedSimpArgs false
section
namespace Go.Proofs.YtaokpakfhdeiiaaGreatDoor
open Go.Ev
noncomputable section
section
variable (zdx:zNQ) (zbv:zGe) (zdy:zNR) (zbX:zNS)
abbrev zRE:Env:=(En E0 false [zvT zdx,zro zbv,zvU zdy,zvV zbX])
abbrev ziI:Type:=Int × zd
abbrev z0q:ziI→St:=fun (v3,o0)=>St.mk [(1,AV.bp 0 []),(3,AV.dat tI v3)] [Obj.bx (AV.dat zC o0) false]
def zoX (k0:ziI→Option (Bool × Unit)):ziI→Option (Bool × Unit):=fun (v3,o0) =>
  bif decide (v3 < ((List.length o0.2.1):Int)) then inR v3 ((List.length o0.2.1):Int) (bif decide (ix (0:Int) o0.2.1 v3 < 0) then some (false,()) else inR v3 ((List.length o0.2.1):Int) (bif decide (ix (0:Int) o0.2.1 v3 ≥ ((List.length o0.1):Int)) then some (false,()) else k0 (wI (v3 + 1),o0))) else bif ((List.length o0.2.2.2.2.1):Int) != ((List.length o0.1):Int) then some (false,()) else Option.bind (zbX (o0.2.2.2.2.1,())) fun q3=>bif q3.1 then bif decide (o0.2.2.2.2.2.1 ≥ 0) then bif decide (o0.2.2.2.2.2.1 ≤ 24) then bif decide (o0.2.2.2.2.2.2.1 ≥ 0) then bif decide (o0.2.2.2.2.2.2.1 ≤ 48) then bif decide (o0.2.2.2.2.2.2.2.1 ≥ 1) then bif decide (o0.2.2.2.2.2.2.2.1 ≤ 4) then bif decide (o0.2.2.2.2.2.2.2.2.1 ≥ 1) then bif decide (o0.2.2.2.2.2.2.2.2.1 ≤ 16) then some (true,()) else some (false,()) else some (false,()) else some (false,()) else some (false,()) else some (false,()) else some (false,()) else some (false,()) else some (false,()) else some (false,())
abbrev zx6 (K:Nat):ziI→Option (Bool × Unit):=iter (zoX zbX) K
theorem z0r (K:Nat):∀ n,evV (zRE zdx zbv zdy zbX) K Tryz.f9 0 zs1 [1,1,0,1,0] [] z0q n = iter (zoX zbX) n:=zm fun n0 (v3,o0)=>by kernel_rfl
def ztr (L0:ziI→Option (Bool × Unit)):(zd × Unit)→Option (Bool × Unit):=fun (x0,()) =>
  Option.bind (zdx (x0.1,())) fun q0=>bif q0.1 then bif decide (((List.length x0.2.1):Int) < 1) then some (false,()) else bif decide (((List.length x0.2.1):Int) > 8) then some (false,()) else Option.bind (zbv (x0.2.2.1,())) fun q1=>bif q1.1 then Option.bind (zdy (x0.2.2.2.1,x0.1,((List.length x0.2.2.1):Int),())) fun q2=>bif q2.1 then L0 (0,x0) else some (false,()) else some (false,()) else some (false,())
theorem z40 (K:Nat):evF (zRE zdx zbv zdy zbX) K Tryz.f9 0 zB9 zs1 = ztr zdx zbv zdy (zx6 zbX K):=tr1 (T:=ztr zdx zbv zdy) (z0r zdx zbv zdy zbX K K) fun (x0,())=>by kernel_rfl
end
def yd:zs2:=ztr zfR zdt zfS (zx6 zfT K0)
theorem zEt:Sd Tryz.prog E0 (zdc yd):=mkS (l:=[zvT zfR,zro zdt,zvU zfS,zvV zfT]) ⟨z2w,zX0,z2y,z2A,trivial⟩ Tryz.func9 (by kernel_rfl) (z40 zfR zdt zfS zfT K0)
section
abbrev zRF:Env:=(En E0 false [])
abbrev ziJ:Type:=Int × zd × ze
abbrev z0s:ziJ→St:=fun (v5,o0,o1)=>St.mk [(2,AV.bp 0 []),(3,AV.bp 1 []),(5,AV.dat tI v5)] [Obj.bx (AV.dat zC o0) false,Obj.bx (AV.dat zW o1) false]
def zoY (k0:ziJ→Option (Bool × Unit)):ziJ→Option (Bool × Unit):=fun (v5,o0,o1) =>
  bif decide (v5 < ((List.length o1.2.1):Int)) then inR v5 ((List.length o1.2.1):Int) (inR v5 ((List.length o0.2.2.2.2.1):Int) (bif ((List.length (ix za o1.2.1 v5).1):Int) != (ix zD o0.2.2.2.2.1 v5).1 then some (false,()) else bif ((List.length (ix za o1.2.1 v5).2.1):Int) != (ix zD o0.2.2.2.2.1 v5).2.1 then some (false,()) else bif ((List.length (ix za o1.2.1 v5).2.2.1):Int) != (ix zD o0.2.2.2.2.1 v5).2.2.1 then some (false,()) else bif ((List.length (ix za o1.2.1 v5).2.2.2.1):Int) != (ix zD o0.2.2.2.2.1 v5).2.2.2.1 then some (false,()) else bif ((List.length (ix za o1.2.1 v5).2.2.2.2.1):Int) != (ix zD o0.2.2.2.2.1 v5).2.2.2.2.1 then some (false,()) else bif ((List.length (ix za o1.2.1 v5).2.2.2.2.2.1):Int) != ((List.length o0.2.2.1):Int) then some (false,()) else bif ((List.length (ix za o1.2.1 v5).2.2.2.2.2.2.1):Int) != ((List.length o0.2.2.1):Int) then some (false,()) else k0 (wI (v5 + 1),o0,o1))) else some (true,())
abbrev zx7 (K:Nat):ziJ→Option (Bool × Unit):=iter (zoY) K
theorem z0t (K:Nat):∀ n,evV (zRF) K Tryz.f40 0 zs6 [1,1,0,1,0] [] z0s n = iter (zoY) n:=zm fun n0 (v5,o0,o1)=>by kernel_rfl
def zts (L0:ziJ→Option (Bool × Unit)):(zd × (ze × Unit))→Option (Bool × Unit):=fun (x0,x1,()) =>
  bif ((List.length x1.2.1):Int) != ((List.length x0.1):Int) then some (false,()) else bif ((List.length x1.2.2.2.1):Int) != x0.2.2.2.2.2.1 then some (false,()) else bif decide (((List.length x1.2.2.2.2.1):Int) > x0.2.2.2.2.2.2.1) then some (false,()) else bif ((List.length x1.2.2.2.2.2.1):Int) != ((List.length x0.2.1):Int) then some (false,()) else bif decide (x1.1 > 4611686018427387904) then some (false,()) else L0 (0,x0,x1)
theorem z41 (K:Nat):evF (zRF) K Tryz.f40 0 zCq zs6 = zts (zx7 K):=tr1 (T:=zts) (z0t K K) fun (x0,x1,())=>by kernel_rfl
end
def zhO:zQP:=zts (zx7 K0)
theorem z42:Sd Tryz.prog E0 (zzg zhO):=mkS (l:=[]) trivial Tryz.func40 (by kernel_rfl) (z41 K0)
section
variable (z6:zs2)
abbrev zm3:Env:=(En E0 false [zdc z6])
abbrev ziK:Type:=(List (List Int)) × Int × Int × zd
abbrev zK7:ziK→St:=fun (v1,v5,v6,o0)=>St.mk [(1,AV.dat (Ty.sl (Ty.sl tI)) v1),(2,AV.bp 0 []),(5,AV.dat tI v5),(6,AV.dat tI v6)] [Obj.bx (AV.dat zC o0) false]
abbrev zcp:Type:=(List (List Int)) × Int × zd
abbrev zK8:zcp→St:=fun (v1,v5,o0)=>St.mk [(1,AV.dat (Ty.sl (Ty.sl tI)) v1),(2,AV.bp 0 []),(5,AV.dat tI v5)] [Obj.bx (AV.dat zC o0) false]
def zoZ (k0:zcp→Option (Bool × Unit)) (k1:ziK→Option (Bool × Unit)):ziK→Option (Bool × Unit):=fun (v1,v5,v6,o0) =>
  inR v5 ((List.length v1):Int) (bif decide (v6 < ((List.length (List.getD v1 (Int.toNat v5) ([]:List Int))):Int)) then inR v5 ((List.length v1):Int) (inR v6 ((List.length (List.getD v1 (Int.toNat v5) ([]:List Int))):Int) (bif decide (List.getD (List.getD v1 (Int.toNat v5) ([]:List Int)) (Int.toNat v6) (0:Int) < 0) then some (false,()) else inR v5 ((List.length v1):Int) (inR v6 ((List.length (List.getD v1 (Int.toNat v5) ([]:List Int))):Int) (bif decide (List.getD (List.getD v1 (Int.toNat v5) ([]:List Int)) (Int.toNat v6) (0:Int) > 2) then some (false,()) else k1 (v1,v5,wI (v6 + 1),o0))))) else k0 (v1,wI (v5 + 1),o0))
abbrev zo0 (K:Nat) (k0:zcp→Option (Bool × Unit)):ziK→Option (Bool × Unit):=iter (fun k1=>zoZ k0 k1) K
theorem z0u (K:Nat) (n0:Nat):∀ n,evV (zm3 z6) K Tryz.f106 0 zeG [1,1,0,1,0,0,1,0,0,1,1,0] [n0] zK7 n = iter (fun k1=>zoZ (evV (zm3 z6) K Tryz.f106 0 zeG [1,1,0,1,0] [] zK8 n0) k1) n:=zm fun n1 (v1,v5,v6,o0)=>by kernel_rfl
def ziL (L1:ziK→Option (Bool × Unit)) (k0:zcp→Option (Bool × Unit)):zcp→Option (Bool × Unit):=fun (v1,v5,o0) =>
  bif decide (v5 < ((List.length v1):Int)) then inR v5 ((List.length v1):Int) (bif ((List.length (List.getD v1 (Int.toNat v5) ([]:List Int))):Int) != ((List.length o0.2.2.1):Int) then some (false,()) else inR v5 ((List.length v1):Int) (inR v5 ((List.length o0.2.2.2.1):Int) (inR (ix qj o0.2.2.2.1 v5).2.1 ((List.length (List.getD v1 (Int.toNat v5) ([]:List Int))):Int) (bif List.getD (List.getD v1 (Int.toNat v5) ([]:List Int)) (Int.toNat (ix qj o0.2.2.2.1 v5).2.1) (0:Int) != 2 then some (false,()) else L1 (v1,v5,0,o0))))) else some (true,())
abbrev zx8 (K:Nat):zcp→Option (Bool × Unit):=iter (fun k0=>ziL (zo0 K k0) k0) K
theorem z0v (K:Nat):∀ n,evV (zm3 z6) K Tryz.f106 0 zeG [1,1,0,1,0] [] zK8 n = iter (fun k0=>ziL (zo0 K k0) k0) n:=qX (B:=fun L1 k0=>ziL L1 k0) (V1:=fun n0=>evV (zm3 z6) K Tryz.f106 0 zeG [1,1,0,1,0,0,1,0,0,1,1,0] [n0] zK7 K) (W1:=fun k0=>(zo0 K k0)) (fun n0=>z0u z6 K n0 K) fun n0 (v1,v5,o0)=>by kernel_rfl
def ztt (L0:zcp→Option (Bool × Unit)):(zd × ((List (List Int)) × Unit))→Option (Bool × Unit):=fun (x0,x1,()) =>
  Option.bind (z6 (x0,())) fun q0=>bif q0.1 then bif ((List.length x1):Int) != ((List.length x0.2.2.2.1):Int) then some (false,()) else L0 (x1,0,x0) else some (false,())
theorem z43 (K:Nat):evF (zm3 z6) K Tryz.f106 0 zCX zeG = ztt z6 (zx8 K):=tr1 (T:=ztt z6) (z0v z6 K K) fun (x0,x1,())=>by kernel_rfl
end
def zhP:zQ3:=ztt yd (zx8 K0)
theorem z44:Sd Tryz.prog E0 (zzN zhP):=mkS (l:=[zdc yd]) ⟨zEt,trivial⟩ Tryz.func106 (by kernel_rfl) (z43 yd K0)
section
def zEu:(Int × (Int × Unit))→Option (Int × (Int × Unit)):=fun (x0,x1,()) =>
  bif x0 != 0 then bif x0 == 0 then none else bif decide (x1 > wU (Int.tdiv 4611686018427387904 x0)) then some (0,7,()) else some (wU (x0 * x1),0,()) else some (wU (x0 * x1),0,())
theorem z45 (K:Nat):evF (En E0 false []) K Tryz.f281 0 zDT zDU = zEu:=funext fun (x0,x1,())=>by kernel_rfl
end
def zhQ:zRm:=zEu
theorem z46:Sd Tryz.prog E0 (zAn zhQ):=mkS (l:=[]) trivial Tryz.func281 (by kernel_rfl) (z45 K0)
section
variable (zEv:zRm)
def zJj:(Int × (Int × (Int × Unit)))→Option (Int × (Int × Unit)):=fun (x0,x1,x2,()) =>
  bif decide (x0 < 1) then some (0,1,()) else bif decide (x0 > 2) then some (0,1,()) else bif x1 == 0 then some (0,1,()) else bif x2 == 0 then some (0,1,()) else Option.bind (zEv (x1,x2,())) fun q0=>bif q0.2.1 == 0 then bif x0 == 2 then some (x1,q0.2.1,()) else some (q0.1,q0.2.1,()) else some (q0.1,q0.2.1,())
theorem z70 (K:Nat):evF (En E0 false [zAn zEv]) K Tryz.f243 0 zHG zHH = zJj zEv:=funext fun (x0,x1,x2,())=>by kernel_rfl
end
def zcq:zHI:=zJj zhQ
theorem zUs:Sd Tryz.prog E0 (zmQ zcq):=mkS (l:=[zAn zhQ]) ⟨z46,trivial⟩ Tryz.func243 (by kernel_rfl) (z70 zhQ K0)
section
def zNm:(Int × Unit)→Option (Bool × Unit):=fun (x0,()) =>
  bif decide (x0 ≥ 0) then bif decide (x0 < 128) then some (true,()) else some (false,()) else some (false,())
theorem z9P (K:Nat):evF (En E0 false []) K Tryz.f244 0 zMn zMo = zNm:=funext fun (x0,())=>by kernel_rfl
end
def znN:zWj:=zNm
theorem z9Q:Sd Tryz.prog E0 (zHJ znN):=mkS (l:=[]) trivial Tryz.func244 (by kernel_rfl) (z9P K0)
section
variable (zgL:zHI) (zBo:zWj)
def zNn:(zj × Unit)→Option (Bool × Unit):=fun (x0,()) =>
  Option.bind (zgL (x0.2.2.2.1,x0.2.2.2.2.2.2.2.1,x0.2.2.2.2.2.2.1,())) fun q0=>bif decide (x0.2.2.2.2.1 ≥ 0) then bif decide (x0.2.2.2.2.1 < 4) then bif decide (x0.2.2.2.2.2.1 ≥ 0) then bif decide (x0.2.2.2.2.2.1 < 4) then bif x0.2.2.2.2.1 != x0.2.2.2.2.2.1 then bif q0.2.1 == 0 then bif x0.2.2.2.2.2.2.2.2.1 == q0.1 then Option.bind (zBo (x0.2.1,())) fun q1=>bif q1.1 then Option.bind (zBo (x0.2.2.1,())) fun q2=>bif q2.1 then bif decide (x0.2.2.2.2.2.2.2.2.2.1 ≥ 0) then some (true,()) else some (false,()) else some (false,()) else some (false,()) else some (false,()) else some (false,()) else bif q0.2.1 == 0 then bif x0.2.2.2.2.2.2.2.2.1 == q0.1 then some (false,()) else some (false,()) else some (false,()) else bif q0.2.1 == 0 then bif x0.2.2.2.2.2.2.2.2.1 == q0.1 then some (false,()) else some (false,()) else some (false,()) else bif q0.2.1 == 0 then bif x0.2.2.2.2.2.2.2.2.1 == q0.1 then some (false,()) else some (false,()) else some (false,()) else bif q0.2.1 == 0 then bif x0.2.2.2.2.2.2.2.2.1 == q0.1 then some (false,()) else some (false,()) else some (false,()) else bif q0.2.1 == 0 then bif x0.2.2.2.2.2.2.2.2.1 == q0.1 then some (false,()) else some (false,()) else some (false,())
theorem z9R (K:Nat):evF (En E0 false [zmQ zgL,zHJ zBo]) K Tryz.f185 0 zL7 zL8 = zNn zgL zBo:=funext fun (x0,())=>by kernel_rfl
end
def zjU:zWb:=zNn zcq znN
theorem z9S:Sd Tryz.prog E0 (zHh zjU):=mkS (l:=[zmQ zcq,zHJ znN]) ⟨zUs,z9Q,trivial⟩ Tryz.func185 (by kernel_rfl) (z9R zcq znN K0)
section
abbrev zWv:Env:=(En E0 false [])
abbrev zm4:Type:=(List zj) × Int × Int × Int
abbrev z47:zm4→St:=fun (v0,v1,v2,v7)=>St.mk [(0,AV.dat (Ty.sl zi) v0),(1,AV.dat tI v1),(2,AV.dat tI v2),(7,AV.dat tI v7)] []
def zm5 (k0:zm4→Option (Bool × Unit)):zm4→Option (Bool × Unit):=fun (v0,v1,v2,v7) =>
  bif decide (v7 < v1) then inR v7 ((List.length v0):Int) (bif (ix zP v0 v7).1 then inR v7 ((List.length v0):Int) (bif (ix zP v0 v7).2.2.2.2.2.2.2.2.2.1 == v2 then some (true,()) else k0 (v0,v1,v2,wI (v7 + 1))) else k0 (v0,v1,v2,wI (v7 + 1))) else some (false,())
abbrev zRG (K:Nat):zm4→Option (Bool × Unit):=iter (zm5) K
theorem z48 (K:Nat):∀ n,evV (zWv) K Tryz.f186 0 zBi [1,0,1,0] [] z47 n = iter (zm5) n:=zm fun n0 (v0,v1,v2,v7)=>by kernel_rfl
def zNo (L0:zm4→Option (Bool × Unit)):((List zj) × (Int × (Int × Unit)))→Option (Bool × Unit):=fun (x0,x1,x2,()) =>
  L0 (x0,x1,x2,0)
theorem z9T (K:Nat):evF (zWv) K Tryz.f186 0 zL9 zBi = zNo (zRG K):=tr1 (T:=zNo) (z48 K K) fun (x0,x1,x2,())=>by kernel_rfl
end
def znO:zWc:=zNo (zRG K0)
theorem z9U:Sd Tryz.prog E0 (zHi znO):=mkS (l:=[]) trivial Tryz.func186 (by kernel_rfl) (z9T K0)
section
variable (zdO:zWb) (zdP:zWc)
abbrev zRH:Env:=(En E0 false [zHh zdO,zHi zdP])
abbrev ziM:Type:=(List zj) × Int
abbrev z0w:ziM→St:=fun (v0,v3)=>St.mk [(0,AV.dat (Ty.sl zi) v0),(3,AV.dat tI v3)] []
def ziN (k0:ziM→Option (Bool × Unit)):ziM→Option (Bool × Unit):=fun (v0,v3) =>
  bif decide (v3 < ((List.length v0):Int)) then inR v3 ((List.length v0):Int) (bif (ix zP v0 v3).1 then inR v3 ((List.length v0):Int) (bif (ix zP v0 v3).1 then inR v3 ((List.length v0):Int) (Option.bind (zdO (ix zP v0 v3,())) fun q0=>bif q0.1 then inR v3 ((List.length v0):Int) (Option.bind (zdP (v0,v3,(ix zP v0 v3).2.2.2.2.2.2.2.2.2.1,())) fun q1=>bif q1.1 then some (false,()) else k0 (v0,wI (v3 + 1))) else some (false,())) else k0 (v0,wI (v3 + 1))) else inR v3 ((List.length v0):Int) (bif !eqI zi (ix zP v0 v3) (zb zi) then some (false,()) else inR v3 ((List.length v0):Int) (bif (ix zP v0 v3).1 then inR v3 ((List.length v0):Int) (Option.bind (zdO (ix zP v0 v3,())) fun q2=>bif q2.1 then inR v3 ((List.length v0):Int) (Option.bind (zdP (v0,v3,(ix zP v0 v3).2.2.2.2.2.2.2.2.2.1,())) fun q3=>bif q3.1 then some (false,()) else k0 (v0,wI (v3 + 1))) else some (false,())) else k0 (v0,wI (v3 + 1))))) else some (true,())
abbrev zK9 (K:Nat):ziM→Option (Bool × Unit):=iter (ziN zdO zdP) K
theorem z0x (K:Nat):∀ n,evV (zRH zdO zdP) K Tryz.f107 0 ztd [1,0,1,0] [] z0w n = iter (ziN zdO zdP) n:=zm fun n0 (v0,v3)=>by kernel_rfl
def zEw (L0:ziM→Option (Bool × Unit)):((List zj) × Unit)→Option (Bool × Unit):=fun (x0,()) =>
  L0 (x0,0)
theorem z49 (K:Nat):evF (zRH zdO zdP) K Tryz.f107 0 zCY ztd = zEw (zK9 zdO zdP K):=tr1 (T:=zEw) (z0x zdO zdP K K) fun (x0,())=>by kernel_rfl
end
def zm6:zQ4:=zEw (zK9 zjU znO K0)
theorem z5a:Sd Tryz.prog E0 (zzO zm6):=mkS (l:=[zHh zjU,zHi znO]) ⟨z9S,z9U,trivial⟩ Tryz.func107 (by kernel_rfl) (z49 zjU znO K0)
section
def zNp:(Int × Unit)→Option (Bool × Unit):=fun (x0,()) =>
  bif decide (x0 ≥ 0) then bif decide (x0 < 128) then some (true,()) else some (false,()) else some (false,())
theorem z9V (K:Nat):evF (En E0 false []) K Tryz.f245 0 zMp zMq = zNp:=funext fun (x0,())=>by kernel_rfl
end
def znP:zWk:=zNp
theorem z9W:Sd Tryz.prog E0 (zHK znP):=mkS (l:=[]) trivial Tryz.func245 (by kernel_rfl) (z9V K0)
section
variable (znQ:zWk) (zgL:zHI)
def zNq:(zy × Unit)→Option (Bool × Unit):=fun (x0,()) =>
  bif decide (x0.1 > 4611686018427387904) then some (false,()) else Option.bind (znQ (x0.2.1,())) fun q0=>bif q0.1 then Option.bind (znQ (x0.2.2.1,())) fun q1=>bif q1.1 then Option.bind (znQ (x0.2.2.2.1,())) fun q2=>bif q2.1 then bif x0.2.2.2.2.1 == 3 then Option.bind (znQ (x0.2.2.2.2.2.2.2.2.2.1,())) fun q3=>bif q3.1 then bif x0.2.2.2.2.2.1 == 0 then bif x0.2.2.2.2.2.2.1 == 0 then bif x0.2.2.2.2.2.2.2.1 == 0 then bif x0.2.2.2.2.2.2.2.2.1 == 0 then some (true,()) else some (false,()) else some (false,()) else some (false,()) else some (false,()) else some (false,()) else Option.bind (zgL (x0.2.2.2.2.1,x0.2.2.2.2.2.2.2.1,x0.2.2.2.2.2.2.2.2.1,())) fun q4=>bif q4.2.1 == 0 then bif x0.2.2.2.2.2.2.2.2.2.1 == 0 then bif decide (x0.2.2.2.2.2.1 ≥ 0) then bif decide (x0.2.2.2.2.2.1 < 4) then bif decide (x0.2.2.2.2.2.2.1 ≥ 0) then bif decide (x0.2.2.2.2.2.2.1 < 4) then bif x0.2.2.2.2.2.1 != x0.2.2.2.2.2.2.1 then some (true,()) else some (false,()) else some (false,()) else some (false,()) else some (false,()) else some (false,()) else some (false,()) else some (false,()) else some (false,()) else some (false,()) else some (false,())
theorem z9X (K:Nat):evF (En E0 false [zHK znQ,zmQ zgL]) K Tryz.f187 0 zMa zMb = zNq znQ zgL:=funext fun (x0,())=>by kernel_rfl
end
def zjV:zWd:=zNq znP zcq
theorem z9Y:Sd Tryz.prog E0 (zHj zjV):=mkS (l:=[zHK znP,zmQ zcq]) ⟨z9W,zUs,trivial⟩ Tryz.func187 (by kernel_rfl) (z9X znP zcq K0)
section
def zAU:(zy × (zy × Unit))→Option (Bool × Unit):=fun (x0,x1,()) =>
  bif decide (x0.1 > x1.1) then some (true,()) else bif x0.1 == x1.1 then bif decide (x0.2.1 > x1.2.1) then some (true,()) else some (false,()) else some (false,())
theorem z2B (K:Nat):evF (En E0 false []) K Tryz.f188 0 zz7 zz8 = zAU:=funext fun (x0,x1,())=>by kernel_rfl
end
def zdz:zN8:=zAU
theorem z2C:Sd Tryz.prog E0 (zw2 zdz):=mkS (l:=[]) trivial Tryz.func188 (by kernel_rfl) (z2B K0)
section
variable (zfG:zWd) (zbY:zN8)
abbrev zRI:Env:=(En E0 false [zHj zfG,zw2 zbY])
abbrev ziO:Type:=(List zy) × Int
abbrev z0y:ziO→St:=fun (v0,v3)=>St.mk [(0,AV.dat (Ty.sl zl) v0),(3,AV.dat tI v3)] []
def ziP (k0:ziO→Option (Bool × Unit)):ziO→Option (Bool × Unit):=fun (v0,v3) =>
  bif decide (v3 < ((List.length v0):Int)) then inR v3 ((List.length v0):Int) (Option.bind (zfG (ix zaV v0 v3,())) fun q0=>bif q0.1 then bif decide (v3 > 0) then inR v3 ((List.length v0):Int) (inR (wI (v3 - 1)) ((List.length v0):Int) (Option.bind (zbY (ix zaV v0 v3,List.getD v0 (Int.toNat (wI (v3 - 1))) (zb zl),())) fun q1=>bif q1.1 then k0 (v0,wI (v3 + 1)) else some (false,()))) else k0 (v0,wI (v3 + 1)) else some (false,())) else some (true,())
abbrev zLa (K:Nat):ziO→Option (Bool × Unit):=iter (ziP zfG zbY) K
theorem z0z (K:Nat):∀ n,evV (zRI zfG zbY) K Tryz.f108 0 zte [1,0,1,0] [] z0y n = iter (ziP zfG zbY) n:=zm fun n0 (v0,v3)=>by kernel_rfl
def zEx (L0:ziO→Option (Bool × Unit)):((List zy) × Unit)→Option (Bool × Unit):=fun (x0,()) =>
  L0 (x0,0)
theorem z5b (K:Nat):evF (zRI zfG zbY) K Tryz.f108 0 zCZ zte = zEx (zLa zfG zbY K):=tr1 (T:=zEx) (z0z zfG zbY K K) fun (x0,())=>by kernel_rfl
end
def zm7:zQ5:=zEx (zLa zjV zdz K0)
theorem z5c:Sd Tryz.prog E0 (zzP zm7):=mkS (l:=[zHj zjV,zw2 zdz]) ⟨z9Y,z2C,trivial⟩ Tryz.func108 (by kernel_rfl) (z5b zjV zdz K0)
section
def zEy:(ze × (qe × Unit))→Option (Bool × Unit):=fun (x0,x1,()) =>
  bif decide (x1.1 < 0) then some (false,()) else bif decide (x1.1 ≥ ((List.length x0.2.1):Int)) then some (false,()) else bif decide (x1.2.1 < 0) then some (false,()) else inR x1.1 ((List.length x0.2.1):Int) (bif decide (x1.2.1 ≥ ((List.length (ix za x0.2.1 x1.1).1):Int)) then some (false,()) else inR x1.1 ((List.length x0.2.1):Int) (inR x1.2.1 ((List.length (ix za x0.2.1 x1.1).1):Int) (bif (List.getD (ix za x0.2.1 x1.1).1 (Int.toNat x1.2.1) (zb zX)).1 then some (true,()) else some (false,()))))
theorem z5d (K:Nat):evF (En E0 false []) K Tryz.f19 0 zCd zCe = zEy:=funext fun (x0,x1,())=>by kernel_rfl
end
def ye:zs4:=zEy
theorem zEz:Sd Tryz.prog E0 (zdd ye):=mkS (l:=[]) trivial Tryz.func19 (by kernel_rfl) (z5d K0)
section
def zNr:(zd × (Int × Unit))→Option (Bool × Unit):=fun (x0,x1,()) =>
  bif decide (x1 ≥ 0) then bif decide (x1 < ((List.length x0.2.2.1):Int)) then some (true,()) else some (false,()) else some (false,())
theorem z9Z (K:Nat):evF (En E0 false []) K Tryz.f90 0 zLM zLN = zNr:=funext fun (x0,x1,())=>by kernel_rfl
end
def qE:zsv:=zNr
theorem zBp:Sd Tryz.prog E0 (zca qE):=mkS (l:=[]) trivial Tryz.func90 (by kernel_rfl) (z9Z K0)
section
variable (vD:zQ3) (vE:zQ4) (vF:zQ5) (qw:zs4) (zr:zsv)
abbrev zfU:Env:=(En E0 false [zzN vD,zzO vE,zzP vF,zdd qw,zca zr])
abbrev zgM:Type:=Int × zd × ze
abbrev zJk:zgM→St:=fun (v9,o0,o1)=>St.mk [(2,AV.bp 0 []),(3,AV.bp 1 []),(9,AV.dat tI v9)] [Obj.bx (AV.dat zC o0) false,Obj.bx (AV.dat zW o1) false]
abbrev zgN:Type:=Int × zd × ze
abbrev zJl:zgN→St:=fun (v7,o0,o1)=>St.mk [(2,AV.bp 0 []),(3,AV.bp 1 []),(7,AV.dat tI v7)] [Obj.bx (AV.dat zC o0) false,Obj.bx (AV.dat zW o1) false]
abbrev zgO:Type:=Int × zd × ze
abbrev zX7:zgO→St:=fun (v5,o0,o1)=>St.mk [(2,AV.bp 0 []),(3,AV.bp 1 []),(5,AV.dat tI v5)] [Obj.bx (AV.dat zC o0) false,Obj.bx (AV.dat zW o1) false]
def zmF (k2:zgM→Option (Bool × Unit)):zgM→Option (Bool × Unit):=fun (v9,o0,o1) =>
  bif decide (v9 < ((List.length o1.2.2.2.2.2.1):Int)) then inR v9 ((List.length o1.2.2.2.2.2.1):Int) (bif ix (0:Int) o1.2.2.2.2.2.1 v9 != -1 then inR v9 ((List.length o1.2.2.2.2.2.1):Int) (Option.bind (zr (o0,ix (0:Int) o1.2.2.2.2.2.1 v9,())) fun q6=>bif q6.1 then k2 (wI (v9 + 1),o0,o1) else some (false,())) else k2 (wI (v9 + 1),o0,o1)) else some (true,())
abbrev zgP (K:Nat):zgM→Option (Bool × Unit):=iter (zmF zr) K
theorem zX8 (K:Nat):∀ n,evV (zfU vD vE vF qw zr) K Tryz.f41 0 zbz [1,1,1,1,0,1,0] [] zJk n = iter (zmF zr) n:=zm fun n2 (v9,o0,o1)=>by kernel_rfl
def zgQ (L2:zgM→Option (Bool × Unit)) (k1:zgN→Option (Bool × Unit)):zgN→Option (Bool × Unit):=fun (v7,o0,o1) =>
  bif decide (v7 < ((List.length o1.2.2.2.2.1):Int)) then inR v7 ((List.length o1.2.2.2.2.1):Int) (bif decide ((ix zaV o1.2.2.2.2.1 v7).2.1 ≥ ((List.length o0.2.1):Int)) then some (false,()) else inR (ix zaV o1.2.2.2.2.1 v7).2.1 ((List.length o0.2.1):Int) (bif (ix zaV o1.2.2.2.2.1 v7).2.2.1 != List.getD o0.2.1 (Int.toNat (ix zaV o1.2.2.2.2.1 v7).2.1) (0:Int) then some (false,()) else Option.bind (zr (o0,(ix zaV o1.2.2.2.2.1 v7).2.2.2.1,())) fun q5=>bif q5.1 then bif decide ((ix zaV o1.2.2.2.2.1 v7).1 > o1.1) then some (false,()) else k1 (wI (v7 + 1),o0,o1) else some (false,()))) else L2 (0,o0,o1)
abbrev zgR (K:Nat):zgN→Option (Bool × Unit):=iter (fun k1=>zgQ zr (zgP zr K) k1) K
theorem zX9 (K:Nat):∀ n,evV (zfU vD vE vF qw zr) K Tryz.f41 0 zbz [1,1,1,0,1,0] [] zJl n = iter (fun k1=>zgQ zr (zgP zr K) k1) n:=qX (B:=fun L2 k1=>zgQ zr L2 k1) (V1:=fun n1=>evV (zfU vD vE vF qw zr) K Tryz.f41 0 zbz [1,1,1,1,0,1,0] [] zJk K) (W1:=fun k1=>(zgP zr K)) (fun n1=>zX8 vD vE vF qw zr K K) fun n1 (v7,o0,o1)=>by kernel_rfl
def zgS (L1:zgN→Option (Bool × Unit)) (k0:zgO→Option (Bool × Unit)):zgO→Option (Bool × Unit):=fun (v5,o0,o1) =>
  bif decide (v5 < ((List.length o1.2.2.2.1):Int)) then inR v5 ((List.length o1.2.2.2.1):Int) (bif (ix zP o1.2.2.2.1 v5).1 then bif decide ((ix zP o1.2.2.2.1 v5).2.1 ≥ ((List.length o0.1):Int)) then some (false,()) else Option.bind (zr (o0,(ix zP o1.2.2.2.1 v5).2.2.1,())) fun q4=>bif q4.1 then bif decide ((ix zP o1.2.2.2.1 v5).2.2.2.2.2.2.2.2.2.1 ≥ ((List.length o1.2.2.2.2.1):Int)) then some (false,()) else k0 (wI (v5 + 1),o0,o1) else some (false,()) else k0 (wI (v5 + 1),o0,o1)) else L1 (0,o0,o1)
abbrev zvo (K:Nat):zgO→Option (Bool × Unit):=iter (fun k0=>zgS zr (zgR zr K) k0) K
theorem zYa (K:Nat):∀ n,evV (zfU vD vE vF qw zr) K Tryz.f41 0 zbz [1,1,0,1,0] [] zX7 n = iter (fun k0=>zgS zr (zgR zr K) k0) n:=qX (B:=fun L1 k0=>zgS zr L1 k0) (V1:=fun n0=>evV (zfU vD vE vF qw zr) K Tryz.f41 0 zbz [1,1,1,0,1,0] [] zJl K) (W1:=fun k0=>(zgR zr K)) (fun n0=>zX9 vD vE vF qw zr K K) fun n0 (v5,o0,o1)=>by kernel_rfl
def zqZ (L0:zgO→Option (Bool × Unit)):(zd × (ze × Unit))→Option (Bool × Unit):=fun (x0,x1,()) =>
  Option.bind (vD (x0,x1.2.2.1,())) fun q0=>bif q0.1 then Option.bind (vE (x1.2.2.2.1,())) fun q1=>bif q1.1 then Option.bind (vF (x1.2.2.2.2.1,())) fun q2=>bif q2.1 then Option.bind (qw (x1,zb zY,())) fun q3=>bif q3.1 then L0 (0,x0,x1) else some (false,()) else some (false,()) else some (false,()) else some (false,())
theorem z2D (K:Nat):evF (zfU vD vE vF qw zr) K Tryz.f41 0 zzh zbz = zqZ vD vE vF qw (zvo zr K):=tr1 (T:=zqZ vD vE vF qw) (zYa vD vE vF qw zr K K) fun (x0,x1,())=>by kernel_rfl
end
def zfV:zNT:=zqZ zhP zm6 zm7 ye (zvo qE K0)
theorem z2E:Sd Tryz.prog E0 (zvY zfV):=mkS (l:=[zzN zhP,zzO zm6,zzP zm7,zdd ye,zca qE]) ⟨z44,z5a,z5c,zEz,zBp,trivial⟩ Tryz.func41 (by kernel_rfl) (z2D zhP zm6 zm7 ye qE K0)
section
variable (zp:ztb)
abbrev zRJ:Env:=(En E0 false [zdf zp])
abbrev ziQ:Type:=(List qP) × Int
abbrev z0A:ziQ→St:=fun (v0,v3)=>St.mk [(0,AV.dat (Ty.sl zX) v0),(3,AV.dat tI v3)] []
def ziR (k0:ziQ→Option (Bool × Unit)):ziQ→Option (Bool × Unit):=fun (v0,v3) =>
  bif decide (v3 < ((List.length v0):Int)) then inR v3 ((List.length v0):Int) (bif (ix zbh v0 v3).1 then inR v3 ((List.length v0):Int) (Option.bind (zp ((ix zbh v0 v3).2.1,())) fun q0=>bif q0.1 then inR v3 ((List.length v0):Int) (bif (ix zbh v0 v3).1 then k0 (v0,wI (v3 + 1)) else inR v3 ((List.length v0):Int) (bif !ByteArray.toList (ix zbh v0 v3).2.1 == ByteArray.toList (ByteArray.mk #[]) then some (false,()) else k0 (v0,wI (v3 + 1)))) else some (false,())) else inR v3 ((List.length v0):Int) (Option.bind (zp ((ix zbh v0 v3).2.1,())) fun q1=>bif q1.1 then some (false,()) else inR v3 ((List.length v0):Int) (bif (ix zbh v0 v3).1 then k0 (v0,wI (v3 + 1)) else inR v3 ((List.length v0):Int) (bif !ByteArray.toList (ix zbh v0 v3).2.1 == ByteArray.toList (ByteArray.mk #[]) then some (false,()) else k0 (v0,wI (v3 + 1)))))) else some (true,())
abbrev zLb (K:Nat):ziQ→Option (Bool × Unit):=iter (ziR zp) K
theorem z0B (K:Nat):∀ n,evV (zRJ zp) K Tryz.f109 0 ztf [1,0,1,0] [] z0A n = iter (ziR zp) n:=zm fun n0 (v0,v3)=>by kernel_rfl
def zEA (L0:ziQ→Option (Bool × Unit)):((List qP) × Unit)→Option (Bool × Unit):=fun (x0,()) =>
  L0 (x0,0)
theorem z5e (K:Nat):evF (zRJ zp) K Tryz.f109 0 zC0 ztf = zEA (zLb zp K):=tr1 (T:=zEA) (z0B zp K K) fun (x0,())=>by kernel_rfl
end
def zm8:zQ6:=zEA (zLb j7 K0)
theorem z5f:Sd Tryz.prog E0 (zzQ zm8):=mkS (l:=[zdf j7]) ⟨zEq,trivial⟩ Tryz.func109 (by kernel_rfl) (z5e j7 K0)
section
def zEB:(qe × Unit)→Option (Bool × Unit):=fun (x0,()) =>
  bif decide (x0.1 ≥ 0) then bif decide (x0.1 < 128) then bif decide (x0.2.1 ≥ 0) then bif decide (x0.2.1 < 128) then some (true,()) else some (false,()) else some (false,()) else some (false,()) else some (false,())
theorem z5g (K:Nat):evF (En E0 false []) K Tryz.f189 0 zDy zDz = zEB:=funext fun (x0,())=>by kernel_rfl
end
def yB:zDA:=zEB
theorem zRK:Sd Tryz.prog E0 (zkr yB):=mkS (l:=[]) trivial Tryz.func189 (by kernel_rfl) (z5g K0)
section
variable (z0:zDA)
abbrev zm9:Env:=(En E0 false [zkr z0])
abbrev ziS:Type:=(List z5) × Int × Int × z5
abbrev zLc:ziS→St:=fun (v0,v3,v5,o0)=>St.mk [(0,AV.dat (Ty.sl zV) v0),(3,AV.dat tI v3),(4,AV.bp 0 []),(5,AV.dat tI v5)] [Obj.bx (AV.dat zV o0) false]
abbrev zcr:Type:=(List z5) × Int
abbrev zLd:zcr→St:=fun (v0,v3)=>St.mk [(0,AV.dat (Ty.sl zV) v0),(3,AV.dat tI v3)] []
def ziT (k0:zcr→Option (Bool × Unit)) (k1:ziS→Option (Bool × Unit)):ziS→Option (Bool × Unit):=fun (v0,v3,v5,o0) =>
  bif decide (v5 < v3) then bif o0.1 then inR v5 ((List.length v0):Int) (bif (ix qQ v0 v5).1 then inR v5 ((List.length v0):Int) (bif eqI zY (ix qQ v0 v5).2.1 o0.2.1 then inR v5 ((List.length v0):Int) (bif (ix qQ v0 v5).2.2.2.1 == o0.2.2.2.1 then some (false,()) else k1 (v0,v3,wI (v5 + 1),o0)) else k1 (v0,v3,wI (v5 + 1),o0)) else k1 (v0,v3,wI (v5 + 1),o0)) else k1 (v0,v3,wI (v5 + 1),o0) else k0 (v0,wI (v3 + 1))
abbrev ziU (K:Nat) (k0:zcr→Option (Bool × Unit)):ziS→Option (Bool × Unit):=iter (fun k1=>ziT k0 k1) K
theorem z0C (K:Nat) (n0:Nat):∀ n,evV (zm9 z0) K Tryz.f110 0 zeH [1,0,1,0,0,1,0,0,1,1,1,0] [n0] zLc n = iter (fun k1=>ziT (evV (zm9 z0) K Tryz.f110 0 zeH [1,0,1,0] [] zLd n0) k1) n:=zm fun n1 (v0,v3,v5,o0)=>by kernel_rfl
def zev (L1:ziS→Option (Bool × Unit)) (k0:zcr→Option (Bool × Unit)):zcr→Option (Bool × Unit):=fun (v0,v3) =>
  bif decide (v3 < ((List.length v0):Int)) then inR v3 ((List.length v0):Int) (bif (ix qQ v0 v3).1 then bif (ix qQ v0 v3).1 then Option.bind (z0 ((ix qQ v0 v3).2.1,())) fun q0=>bif q0.1 then Option.bind (z0 ((ix qQ v0 v3).2.2.1,())) fun q1=>bif q1.1 then bif decide ((ix qQ v0 v3).2.2.2.1 < 0) then some (false,()) else bif decide ((ix qQ v0 v3).2.2.2.1 > 5) then some (false,()) else L1 (v0,v3,0,ix qQ v0 v3) else some (false,()) else some (false,()) else L1 (v0,v3,0,ix qQ v0 v3) else bif !eqI zV (ix qQ v0 v3) (zb zV) then some (false,()) else bif (ix qQ v0 v3).1 then Option.bind (z0 ((ix qQ v0 v3).2.1,())) fun q2=>bif q2.1 then Option.bind (z0 ((ix qQ v0 v3).2.2.1,())) fun q3=>bif q3.1 then bif decide ((ix qQ v0 v3).2.2.2.1 < 0) then some (false,()) else bif decide ((ix qQ v0 v3).2.2.2.1 > 5) then some (false,()) else L1 (v0,v3,0,ix qQ v0 v3) else some (false,()) else some (false,()) else L1 (v0,v3,0,ix qQ v0 v3)) else some (true,())
abbrev zLe (K:Nat):zcr→Option (Bool × Unit):=iter (fun k0=>zev z0 (ziU K k0) k0) K
theorem z0D (K:Nat):∀ n,evV (zm9 z0) K Tryz.f110 0 zeH [1,0,1,0] [] zLd n = iter (fun k0=>zev z0 (ziU K k0) k0) n:=qX (B:=fun L1 k0=>zev z0 L1 k0) (V1:=fun n0=>evV (zm9 z0) K Tryz.f110 0 zeH [1,0,1,0,0,1,0,0,1,1,1,0] [n0] zLc K) (W1:=fun k0=>(ziU K k0)) (fun n0=>z0C z0 K n0 K) fun n0 (v0,v3)=>by kernel_rfl
def zEC (L0:zcr→Option (Bool × Unit)):((List z5) × Unit)→Option (Bool × Unit):=fun (x0,()) =>
  L0 (x0,0)
theorem z5h (K:Nat):evF (zm9 z0) K Tryz.f110 0 zC1 zeH = zEC (zLe z0 K):=tr1 (T:=zEC) (z0D z0 K K) fun (x0,())=>by kernel_rfl
end
def zna:zQ7:=zEC (zLe yB K0)
theorem z5i:Sd Tryz.prog E0 (zzR zna):=mkS (l:=[zkr yB]) ⟨zRK,trivial⟩ Tryz.func110 (by kernel_rfl) (z5h yB K0)
section
def zNs:(Int × Unit)→Option (Bool × Unit):=fun (x0,()) =>
  bif decide (x0 ≥ 0) then bif decide (x0 < 128) then some (true,()) else some (false,()) else some (false,())
theorem z90 (K:Nat):evF (En E0 false []) K Tryz.f190 0 zMc zMd = zNs:=funext fun (x0,())=>by kernel_rfl
end
def zjW:zWe:=zNs
theorem z91:Sd Tryz.prog E0 (zHk zjW):=mkS (l:=[]) trivial Tryz.func190 (by kernel_rfl) (z90 K0)
section
variable (zdQ:zWe) (z0:zDA) (zp:ztb)
abbrev zRL:Env:=(En E0 false [zHk zdQ,zkr z0,zdf zp])
abbrev ziV:Type:=(List z3) × Int
abbrev z0E:ziV→St:=fun (v0,v3)=>St.mk [(0,AV.dat (Ty.sl zI) v0),(3,AV.dat tI v3)] []
def ziW (k0:ziV→Option (Bool × Unit)):ziV→Option (Bool × Unit):=fun (v0,v3) =>
  bif decide (v3 < ((List.length v0):Int)) then inR v3 ((List.length v0):Int) (bif (ix zL v0 v3).1 then bif (ix zL v0 v3).2.2.1 == 1 then Option.bind (zdQ ((ix zL v0 v3).2.2.2.1,())) fun q0=>bif q0.1 then bif eqI zY (ix zL v0 v3).2.2.2.2.1 (zb zY) then bif (ix zL v0 v3).2.2.1 == 2 then bif (ix zL v0 v3).2.2.2.1 == 0 then Option.bind (z0 ((ix zL v0 v3).2.2.2.2.1,())) fun q1=>bif q1.1 then Option.bind (zp ((ix zL v0 v3).2.1,())) fun q2=>bif q2.1 then k0 (v0,wI (v3 + 1)) else some (false,()) else Option.bind (zp ((ix zL v0 v3).2.1,())) fun q3=>bif q3.1 then k0 (v0,wI (v3 + 1)) else some (false,()) else Option.bind (zp ((ix zL v0 v3).2.1,())) fun q4=>bif q4.1 then k0 (v0,wI (v3 + 1)) else some (false,()) else Option.bind (zp ((ix zL v0 v3).2.1,())) fun q5=>bif q5.1 then k0 (v0,wI (v3 + 1)) else some (false,()) else bif (ix zL v0 v3).2.2.1 == 2 then bif (ix zL v0 v3).2.2.2.1 == 0 then Option.bind (z0 ((ix zL v0 v3).2.2.2.2.1,())) fun q6=>bif q6.1 then Option.bind (zp ((ix zL v0 v3).2.1,())) fun q7=>bif q7.1 then k0 (v0,wI (v3 + 1)) else some (false,()) else Option.bind (zp ((ix zL v0 v3).2.1,())) fun q8=>bif q8.1 then some (false,()) else some (false,()) else Option.bind (zp ((ix zL v0 v3).2.1,())) fun q9=>bif q9.1 then some (false,()) else some (false,()) else Option.bind (zp ((ix zL v0 v3).2.1,())) fun q10=>bif q10.1 then some (false,()) else some (false,()) else bif (ix zL v0 v3).2.2.1 == 2 then bif (ix zL v0 v3).2.2.2.1 == 0 then Option.bind (z0 ((ix zL v0 v3).2.2.2.2.1,())) fun q11=>bif q11.1 then Option.bind (zp ((ix zL v0 v3).2.1,())) fun q12=>bif q12.1 then k0 (v0,wI (v3 + 1)) else some (false,()) else Option.bind (zp ((ix zL v0 v3).2.1,())) fun q13=>bif q13.1 then some (false,()) else some (false,()) else Option.bind (zp ((ix zL v0 v3).2.1,())) fun q14=>bif q14.1 then some (false,()) else some (false,()) else Option.bind (zp ((ix zL v0 v3).2.1,())) fun q15=>bif q15.1 then some (false,()) else some (false,()) else bif (ix zL v0 v3).2.2.1 == 3 then Option.bind (zdQ ((ix zL v0 v3).2.2.2.1,())) fun q16=>bif q16.1 then bif eqI zY (ix zL v0 v3).2.2.2.2.1 (zb zY) then bif (ix zL v0 v3).2.2.1 == 2 then bif (ix zL v0 v3).2.2.2.1 == 0 then Option.bind (z0 ((ix zL v0 v3).2.2.2.2.1,())) fun q17=>bif q17.1 then Option.bind (zp ((ix zL v0 v3).2.1,())) fun q18=>bif q18.1 then k0 (v0,wI (v3 + 1)) else some (false,()) else Option.bind (zp ((ix zL v0 v3).2.1,())) fun q19=>bif q19.1 then k0 (v0,wI (v3 + 1)) else some (false,()) else Option.bind (zp ((ix zL v0 v3).2.1,())) fun q20=>bif q20.1 then k0 (v0,wI (v3 + 1)) else some (false,()) else Option.bind (zp ((ix zL v0 v3).2.1,())) fun q21=>bif q21.1 then k0 (v0,wI (v3 + 1)) else some (false,()) else bif (ix zL v0 v3).2.2.1 == 2 then bif (ix zL v0 v3).2.2.2.1 == 0 then Option.bind (z0 ((ix zL v0 v3).2.2.2.2.1,())) fun q22=>bif q22.1 then Option.bind (zp ((ix zL v0 v3).2.1,())) fun q23=>bif q23.1 then k0 (v0,wI (v3 + 1)) else some (false,()) else Option.bind (zp ((ix zL v0 v3).2.1,())) fun q24=>bif q24.1 then some (false,()) else some (false,()) else Option.bind (zp ((ix zL v0 v3).2.1,())) fun q25=>bif q25.1 then some (false,()) else some (false,()) else Option.bind (zp ((ix zL v0 v3).2.1,())) fun q26=>bif q26.1 then some (false,()) else some (false,()) else bif (ix zL v0 v3).2.2.1 == 2 then bif (ix zL v0 v3).2.2.2.1 == 0 then Option.bind (z0 ((ix zL v0 v3).2.2.2.2.1,())) fun q27=>bif q27.1 then Option.bind (zp ((ix zL v0 v3).2.1,())) fun q28=>bif q28.1 then k0 (v0,wI (v3 + 1)) else some (false,()) else Option.bind (zp ((ix zL v0 v3).2.1,())) fun q29=>bif q29.1 then some (false,()) else some (false,()) else Option.bind (zp ((ix zL v0 v3).2.1,())) fun q30=>bif q30.1 then some (false,()) else some (false,()) else Option.bind (zp ((ix zL v0 v3).2.1,())) fun q31=>bif q31.1 then some (false,()) else some (false,()) else bif (ix zL v0 v3).2.2.1 == 2 then bif (ix zL v0 v3).2.2.2.1 == 0 then Option.bind (z0 ((ix zL v0 v3).2.2.2.2.1,())) fun q32=>bif q32.1 then Option.bind (zp ((ix zL v0 v3).2.1,())) fun q33=>bif q33.1 then k0 (v0,wI (v3 + 1)) else some (false,()) else Option.bind (zp ((ix zL v0 v3).2.1,())) fun q34=>bif q34.1 then some (false,()) else some (false,()) else Option.bind (zp ((ix zL v0 v3).2.1,())) fun q35=>bif q35.1 then some (false,()) else some (false,()) else Option.bind (zp ((ix zL v0 v3).2.1,())) fun q36=>bif q36.1 then some (false,()) else some (false,()) else bif !eqI zI (ix zL v0 v3) (zb zI) then some (false,()) else k0 (v0,wI (v3 + 1))) else some (true,())
abbrev zLf (K:Nat):ziV→Option (Bool × Unit):=iter (ziW zdQ z0 zp) K
theorem z0F (K:Nat):∀ n,evV (zRL zdQ z0 zp) K Tryz.f111 0 ztg [1,0,1,0] [] z0E n = iter (ziW zdQ z0 zp) n:=zm fun n0 (v0,v3)=>by kernel_rfl
def zED (L0:ziV→Option (Bool × Unit)):((List z3) × Unit)→Option (Bool × Unit):=fun (x0,()) =>
  L0 (x0,0)
theorem z5j (K:Nat):evF (zRL zdQ z0 zp) K Tryz.f111 0 zC2 ztg = zED (zLf zdQ z0 zp K):=tr1 (T:=zED) (z0F zdQ z0 zp K K) fun (x0,())=>by kernel_rfl
end
def znb:zQ8:=zED (zLf zjW yB j7 K0)
theorem z5k:Sd Tryz.prog E0 (zzS znb):=mkS (l:=[zHk zjW,zkr yB,zdf j7]) ⟨z91,zRK,zEq,trivial⟩ Tryz.func111 (by kernel_rfl) (z5j zjW yB j7 K0)
section
def zNt:(Int × Unit)→Option (Bool × Unit):=fun (x0,()) =>
  bif decide (x0 ≥ 0) then bif decide (x0 < 128) then some (true,()) else some (false,()) else some (false,())
theorem z92 (K:Nat):evF (En E0 false []) K Tryz.f191 0 zMe zMf = zNt:=funext fun (x0,())=>by kernel_rfl
end
def zjX:zWf:=zNt
theorem z93:Sd Tryz.prog E0 (zHl zjX):=mkS (l:=[]) trivial Tryz.func191 (by kernel_rfl) (z92 K0)
section
def zNu:(Int × Unit)→Option (Bool × Unit):=fun (x0,()) =>
  bif decide (x0 ≥ 32) then bif decide (x0 ≤ 126) then some (true,()) else some (false,()) else some (false,())
theorem z94 (K:Nat):evF (En E0 false []) K Tryz.f246 0 zMr zMs = zNu:=funext fun (x0,())=>by kernel_rfl
end
def zjY:zWl:=zNu
theorem z95:Sd Tryz.prog E0 (zHL zjY):=mkS (l:=[]) trivial Tryz.func246 (by kernel_rfl) (z94 K0)
section
variable (zfH:zWl)
abbrev zUt:Env:=(En E0 false [zHL zfH])
abbrev zlb:Type:=ByteArray × Int
abbrev z2F:zlb→St:=fun (v0,v3)=>St.mk [(0,AV.dat Ty.str v0),(3,AV.dat tI v3)] []
def zq0 (k0:zlb→Option (Bool × Unit)):zlb→Option (Bool × Unit):=fun (v0,v3) =>
  bif decide (v3 < (↑(ByteArray.size v0):Int)) then inR v3 (↑(ByteArray.size v0):Int) (Option.bind (zfH ((↑(UInt8.toNat (List.getD (Array.toList (ByteArray.data v0)) (Int.toNat v3) 0)):Int),())) fun q0=>bif q0.1 then k0 (v0,wI (v3 + 1)) else some (false,())) else some (true,())
abbrev zAV (K:Nat):zlb→Option (Bool × Unit):=iter (zq0 zfH) K
theorem z2G (K:Nat):∀ n,evV (zUt zfH) K Tryz.f192 0 zw3 [1,1,0,1,0] [] z2F n = iter (zq0 zfH) n:=zm fun n0 (v0,v3)=>by kernel_rfl
def zx9 (L0:zlb→Option (Bool × Unit)):(ByteArray × Unit)→Option (Bool × Unit):=fun (x0,()) =>
  bif (↑(ByteArray.size x0):Int) == 0 then some (false,()) else bif decide ((↑(ByteArray.size x0):Int) > 40) then some (false,()) else bif decide (0 < (↑(ByteArray.size x0):Int)) then bif (↑(UInt8.toNat (List.getD (Array.toList (ByteArray.data x0)) (Int.toNat 0) 0)):Int) == 32 then some (false,()) else inR (wI ((↑(ByteArray.size x0):Int) - 1)) (↑(ByteArray.size x0):Int) (bif (↑(UInt8.toNat (List.getD (Array.toList (ByteArray.data x0)) (Int.toNat (wI ((↑(ByteArray.size x0):Int) - 1))) 0)):Int) == 32 then some (false,()) else L0 (x0,0)) else none
theorem z71 (K:Nat):evF (zUt zfH) K Tryz.f192 0 zHm zw3 = zx9 (zAV zfH K):=tr1 (T:=zx9) (z2G zfH K K) fun (x0,())=>by kernel_rfl
end
def zgT:zTq:=zx9 (zAV zjY K0)
theorem z72:Sd Tryz.prog E0 (zDB zgT):=mkS (l:=[zHL zjY]) ⟨z95,trivial⟩ Tryz.func192 (by kernel_rfl) (z71 zjY K0)
section
variable (zb2:zWf) (zeb:zTq)
abbrev zRM:Env:=(En E0 false [zHl zb2,zDB zeb])
abbrev ziX:Type:=(List qh) × Int
abbrev z0G:ziX→St:=fun (v0,v3)=>St.mk [(0,AV.dat (Ty.sl zZ) v0),(3,AV.dat tI v3)] []
def ziY (k0:ziX→Option (Bool × Unit)):ziX→Option (Bool × Unit):=fun (v0,v3) =>
  bif decide (v3 < ((List.length v0):Int)) then inR v3 ((List.length v0):Int) (bif (ix zaE v0 v3).1 then Option.bind (zb2 ((ix zaE v0 v3).2.1,())) fun q0=>bif q0.1 then Option.bind (zb2 ((ix zaE v0 v3).2.2.1,())) fun q1=>bif q1.1 then Option.bind (zb2 ((ix zaE v0 v3).2.2.2.1,())) fun q2=>bif q2.1 then Option.bind (zeb ((ix zaE v0 v3).2.2.2.2.1,())) fun q3=>bif q3.1 then bif (ix zaE v0 v3).1 then k0 (v0,wI (v3 + 1)) else bif !eqI zZ (ix zaE v0 v3) (zb zZ) then some (false,()) else k0 (v0,wI (v3 + 1)) else some (false,()) else some (false,()) else some (false,()) else some (false,()) else bif (ix zaE v0 v3).1 then k0 (v0,wI (v3 + 1)) else bif !eqI zZ (ix zaE v0 v3) (zb zZ) then some (false,()) else k0 (v0,wI (v3 + 1))) else some (true,())
abbrev zLg (K:Nat):ziX→Option (Bool × Unit):=iter (ziY zb2 zeb) K
theorem z0H (K:Nat):∀ n,evV (zRM zb2 zeb) K Tryz.f112 0 zth [1,0,1,0] [] z0G n = iter (ziY zb2 zeb) n:=zm fun n0 (v0,v3)=>by kernel_rfl
def zEE (L0:ziX→Option (Bool × Unit)):((List qh) × Unit)→Option (Bool × Unit):=fun (x0,()) =>
  L0 (x0,0)
theorem z5l (K:Nat):evF (zRM zb2 zeb) K Tryz.f112 0 zC3 zth = zEE (zLg zb2 zeb K):=tr1 (T:=zEE) (z0H zb2 zeb K K) fun (x0,())=>by kernel_rfl
end
def znc:zQ9:=zEE (zLg zjX zgT K0)
theorem z5m:Sd Tryz.prog E0 (zzT znc):=mkS (l:=[zHl zjX,zDB zgT]) ⟨z93,z72,trivial⟩ Tryz.func112 (by kernel_rfl) (z5l zjX zgT K0)
section
def zNv:(Int × Unit)→Option (Bool × Unit):=fun (x0,()) =>
  bif decide (x0 ≥ 0) then bif decide (x0 < 128) then some (true,()) else some (false,()) else some (false,())
theorem z96 (K:Nat):evF (En E0 false []) K Tryz.f247 0 zMt zMu = zNv:=funext fun (x0,())=>by kernel_rfl
end
def znR:zWm:=zNv
theorem z97:Sd Tryz.prog E0 (zHM znR):=mkS (l:=[]) trivial Tryz.func247 (by kernel_rfl) (z96 K0)
section
def zNw:(zoE × Unit)→Option (Bool × Unit):=fun (x0,()) =>
  bif decide (x0.1 ≥ 0) then bif decide (x0.1 < 4) then bif decide (x0.2.1 ≤ 4611686018427387904) then bif decide (x0.2.2.1 ≥ -1) then bif decide (x0.2.2.1 < 128) then some (true,()) else some (false,()) else some (false,()) else some (false,()) else some (false,()) else some (false,())
theorem z98 (K:Nat):evF (En E0 false []) K Tryz.f248 0 zMv zMw = zNw:=funext fun (x0,())=>by kernel_rfl
end
def znS:zWn:=zNw
theorem z99:Sd Tryz.prog E0 (zHN znS):=mkS (l:=[]) trivial Tryz.func248 (by kernel_rfl) (z98 K0)
section
variable (zad:zWm) (zae:zWn)
def zJm:(zo × Unit)→Option (Bool × Unit):=fun (x0,()) =>
  bif decide (x0.2.2.2.1.2.1 > 0) then Option.bind (zad (x0.2.1,())) fun q0=>bif q0.1 then Option.bind (zad (x0.2.2.1,())) fun q1=>bif q1.1 then bif x0.2.1 != x0.2.2.1 then Option.bind (zae (x0.2.2.2.1,())) fun q2=>bif q2.1 then Option.bind (zae (x0.2.2.2.2.1,())) fun q3=>bif q3.1 then some (true,()) else some (false,()) else some (false,()) else some (false,()) else some (false,()) else some (false,()) else bif decide (x0.2.2.2.1.2.2.1 ≥ 0) then Option.bind (zad (x0.2.1,())) fun q4=>bif q4.1 then Option.bind (zad (x0.2.2.1,())) fun q5=>bif q5.1 then bif x0.2.1 != x0.2.2.1 then Option.bind (zae (x0.2.2.2.1,())) fun q6=>bif q6.1 then Option.bind (zae (x0.2.2.2.2.1,())) fun q7=>bif q7.1 then some (true,()) else some (false,()) else some (false,()) else some (false,()) else some (false,()) else some (false,()) else bif decide (x0.2.2.2.2.1.2.1 > 0) then Option.bind (zad (x0.2.1,())) fun q8=>bif q8.1 then Option.bind (zad (x0.2.2.1,())) fun q9=>bif q9.1 then bif x0.2.1 != x0.2.2.1 then Option.bind (zae (x0.2.2.2.1,())) fun q10=>bif q10.1 then Option.bind (zae (x0.2.2.2.2.1,())) fun q11=>bif q11.1 then some (true,()) else some (false,()) else some (false,()) else some (false,()) else some (false,()) else some (false,()) else bif decide (x0.2.2.2.2.1.2.2.1 ≥ 0) then Option.bind (zad (x0.2.1,())) fun q12=>bif q12.1 then Option.bind (zad (x0.2.2.1,())) fun q13=>bif q13.1 then bif x0.2.1 != x0.2.2.1 then Option.bind (zae (x0.2.2.2.1,())) fun q14=>bif q14.1 then Option.bind (zae (x0.2.2.2.2.1,())) fun q15=>bif q15.1 then some (true,()) else some (false,()) else some (false,()) else some (false,()) else some (false,()) else some (false,()) else Option.bind (zad (x0.2.1,())) fun q16=>bif q16.1 then Option.bind (zad (x0.2.2.1,())) fun q17=>bif q17.1 then bif x0.2.1 != x0.2.2.1 then Option.bind (zae (x0.2.2.2.1,())) fun q18=>bif q18.1 then Option.bind (zae (x0.2.2.2.2.1,())) fun q19=>bif q19.1 then some (false,()) else some (false,()) else some (false,()) else some (false,()) else some (false,()) else some (false,())
theorem z73 (K:Nat):evF (En E0 false [zHM zad,zHN zae]) K Tryz.f193 0 zHn zHo = zJm zad zae:=funext fun (x0,())=>by kernel_rfl
end
def zgU:zTr:=zJm znR znS
theorem z74:Sd Tryz.prog E0 (zDC zgU):=mkS (l:=[zHM znR,zHN znS]) ⟨z97,z99,trivial⟩ Tryz.func193 (by kernel_rfl) (z73 znR znS K0)
end
end Go.Proofs.YtaokpakfhdeiiaaGreatDoor
end
section
namespace Go.Proofs.YtaokpakfhdeiiaaGreatDoor
open Go.Ev
noncomputable section
section
variable (zec:zTr)
abbrev zRN:Env:=(En E0 false [zDC zec])
abbrev ziZ:Type:=(List zo) × Int
abbrev z0I:ziZ→St:=fun (v0,v3)=>St.mk [(0,AV.dat (Ty.sl zu) v0),(3,AV.dat tI v3)] []
def zi0 (k0:ziZ→Option (Bool × Unit)):ziZ→Option (Bool × Unit):=fun (v0,v3) =>
  bif decide (v3 < ((List.length v0):Int)) then inR v3 ((List.length v0):Int) (bif (ix qb v0 v3).1 then inR v3 ((List.length v0):Int) (Option.bind (zec (ix qb v0 v3,())) fun q0=>bif q0.1 then inR v3 ((List.length v0):Int) (bif (ix qb v0 v3).1 then k0 (v0,wI (v3 + 1)) else inR v3 ((List.length v0):Int) (bif !eqI zu (ix qb v0 v3) (zb zu) then some (false,()) else k0 (v0,wI (v3 + 1)))) else some (false,())) else inR v3 ((List.length v0):Int) (bif (ix qb v0 v3).1 then k0 (v0,wI (v3 + 1)) else inR v3 ((List.length v0):Int) (bif !eqI zu (ix qb v0 v3) (zb zu) then some (false,()) else k0 (v0,wI (v3 + 1))))) else some (true,())
abbrev zLh (K:Nat):ziZ→Option (Bool × Unit):=iter (zi0 zec) K
theorem z0J (K:Nat):∀ n,evV (zRN zec) K Tryz.f113 0 zti [1,0,1,0] [] z0I n = iter (zi0 zec) n:=zm fun n0 (v0,v3)=>by kernel_rfl
def zEF (L0:ziZ→Option (Bool × Unit)):((List zo) × Unit)→Option (Bool × Unit):=fun (x0,()) =>
  L0 (x0,0)
theorem z5n (K:Nat):evF (zRN zec) K Tryz.f113 0 zC4 zti = zEF (zLh zec K):=tr1 (T:=zEF) (z0J zec K K) fun (x0,())=>by kernel_rfl
end
def znd:zRa:=zEF (zLh zgU K0)
theorem z5o:Sd Tryz.prog E0 (zzU znd):=mkS (l:=[zDC zgU]) ⟨z74,trivial⟩ Tryz.func113 (by kernel_rfl) (z5n zgU K0)
section
variable (zT:zBg)
abbrev zWw:Env:=(En E0 false [zf8 zT])
abbrev zne:Type:=Int × zz × zz
abbrev z5p:zne→St:=fun (v5,o0,o1)=>St.mk [(2,AV.bp 0 []),(3,AV.bp 1 []),(5,AV.dat tI v5)] [Obj.bx (AV.dat zw o0) false,Obj.bx (AV.dat zw o1) false]
def znf (k0:zne→Option (Bool × Unit)):zne→Option (Bool × Unit):=fun (v5,o0,o1) =>
  bif decide (v5 < 64) then Option.bind (zT (o0,v5,())) fun q0=>bif q0.1 then Option.bind (zT (o1,v5,())) fun q1=>bif q1.1 then k0 (wI (v5 + 1),o0,o1) else some (false,()) else k0 (wI (v5 + 1),o0,o1) else bif decide (o0.1 ≤ o1.1) then some (true,()) else some (false,())
abbrev zRO (K:Nat):zne→Option (Bool × Unit):=iter (znf zT) K
theorem z5q (K:Nat):∀ n,evV (zWw zT) K Tryz.f194 0 zBj [1,0,1,0] [] z5p n = iter (znf zT) n:=zm fun n0 (v5,o0,o1)=>by kernel_rfl
def zNx (L0:zne→Option (Bool × Unit)):(zz × (zz × Unit))→Option (Bool × Unit):=fun (x0,x1,()) =>
  L0 (0,x0,x1)
theorem qaa (K:Nat):evF (zWw zT) K Tryz.f194 0 zMg zBj = zNx (zRO zT K):=tr1 (T:=zNx) (z5q zT K K) fun (x0,x1,())=>by kernel_rfl
end
def zsT:zWg:=zNx (zRO j4 K0)
theorem qab:Sd Tryz.prog E0 (zHp zsT):=mkS (l:=[zf8 j4]) ⟨zNk,trivial⟩ Tryz.func194 (by kernel_rfl) (qaa j4 K0)
section
variable (zNy:zWg)
def zNz:(zd × (Int × (Int × Unit)))→Option (Bool × Unit):=fun (x0,x1,x2,()) =>
  bif decide (x1 ≥ 0) then bif decide (x2 ≥ 0) then bif decide (x1 < ((List.length x0.1):Int)) then bif decide (x2 < ((List.length x0.1):Int)) then inR x1 ((List.length x0.1):Int) (inR x2 ((List.length x0.1):Int) (Option.bind (zNy (ix qm x0.1 x1,ix qm x0.1 x2,())) fun q0=>bif q0.1 then some (true,()) else some (false,()))) else some (false,()) else some (false,()) else some (false,()) else some (false,())
theorem qac (K:Nat):evF (En E0 false [zHp zNy]) K Tryz.f117 0 zLV zLW = zNz zNy:=funext fun (x0,x1,x2,())=>by kernel_rfl
end
def vp:zLX:=zNz zsT
theorem zWx:Sd Tryz.prog E0 (zpi vp):=mkS (l:=[zHp zsT]) ⟨qab,trivial⟩ Tryz.func117 (by kernel_rfl) (qac zsT K0)
section
variable (qw:zs4) (qd:zLX)
def zEG:(zd × (ze × (qe × (Int × Unit))))→Option (Bool × Unit):=fun (x0,x1,x2,x3,()) =>
  Option.bind (qw (x1,x2,())) fun q0=>bif q0.1 then Option.bind (qd (x0,x2.1,x3,())) fun q1=>bif q1.1 then some (true,()) else some (false,()) else some (false,())
theorem z5r (K:Nat):evF (En E0 false [zdd qw,zpi qd]) K Tryz.f114 0 zC5 zC6 = zEG qw qd:=funext fun (x0,x1,x2,x3,())=>by kernel_rfl
end
def jm:zC7:=zEG ye vp
theorem zRP:Sd Tryz.prog E0 (zkn jm):=mkS (l:=[zdd ye,zpi vp]) ⟨zEz,zWx,trivial⟩ Tryz.func114 (by kernel_rfl) (z5r ye vp K0)
section
variable (zr:zsv) (zF:zC7)
def zJn:(zd × (ze × (Int × (Int × Unit))))→Option (Bool × Unit):=fun (x0,x1,x2,x3,()) =>
  inR x2 ((List.length x1.2.1):Int) (inR x3 ((List.length (ix za x1.2.1 x2).2.2.1):Int) (bif (List.getD (ix za x1.2.1 x2).2.2.1 (Int.toNat x3) (zb zI)).1 then bif (List.getD (ix za x1.2.1 x2).2.2.1 (Int.toNat x3) (zb zI)).2.2.1 == 1 then Option.bind (zr (x0,(List.getD (ix za x1.2.1 x2).2.2.1 (Int.toNat x3) (zb zI)).2.2.2.1,())) fun q0=>bif q0.1 then some (true,()) else some (false,()) else bif (List.getD (ix za x1.2.1 x2).2.2.1 (Int.toNat x3) (zb zI)).2.2.1 == 2 then Option.bind (zF (x0,x1,(List.getD (ix za x1.2.1 x2).2.2.1 (Int.toNat x3) (zb zI)).2.2.2.2.1,x2,())) fun q1=>bif q1.1 then some (true,()) else some (false,()) else bif decide ((List.getD (ix za x1.2.1 x2).2.2.1 (Int.toNat x3) (zb zI)).2.2.2.1 < ((List.length (ix za x1.2.1 x2).2.2.2.2.1):Int)) then inR (List.getD (ix za x1.2.1 x2).2.2.1 (Int.toNat x3) (zb zI)).2.2.2.1 ((List.length (ix za x1.2.1 x2).2.2.2.2.1):Int) (bif (List.getD (ix za x1.2.1 x2).2.2.2.2.1 (Int.toNat (List.getD (ix za x1.2.1 x2).2.2.1 (Int.toNat x3) (zb zI)).2.2.2.1) (zb zu)).1 then inR (List.getD (ix za x1.2.1 x2).2.2.1 (Int.toNat x3) (zb zI)).2.2.2.1 ((List.length (ix za x1.2.1 x2).2.2.2.2.1):Int) (bif (List.getD (ix za x1.2.1 x2).2.2.2.2.1 (Int.toNat (List.getD (ix za x1.2.1 x2).2.2.1 (Int.toNat x3) (zb zI)).2.2.2.1) (zb zu)).2.2.2.1.2.2.1 == x3 then some (true,()) else some (false,())) else some (false,())) else some (false,()) else some (true,())))
theorem z75 (K:Nat):evF (En E0 false [zca zr,zkn zF]) K Tryz.f115 0 zGI zGJ = zJn zr zF:=funext fun (x0,x1,x2,x3,())=>by kernel_rfl
end
def zcs:zTf:=zJn qE jm
theorem z76:Sd Tryz.prog E0 (zC8 zcs):=mkS (l:=[zca qE,zkn jm]) ⟨zBp,zRP,trivial⟩ Tryz.func115 (by kernel_rfl) (z75 qE jm K0)
section
variable (zr:zsv)
def zJo:(zd × (zg × (Int × Unit)))→Option (Bool × Unit):=fun (x0,x1,x2,()) =>
  inR x2 ((List.length x1.2.2.2.2.1):Int) (bif (ix qb x1.2.2.2.2.1 x2).1 then Option.bind (zr (x0,(ix qb x1.2.2.2.2.1 x2).2.1,())) fun q0=>bif q0.1 then Option.bind (zr (x0,(ix qb x1.2.2.2.2.1 x2).2.2.1,())) fun q1=>bif q1.1 then bif decide ((ix qb x1.2.2.2.2.1 x2).2.2.2.1.2.2.1 ≥ ((List.length x1.2.2.1):Int)) then some (false,()) else bif decide ((ix qb x1.2.2.2.2.1 x2).2.2.2.2.1.2.2.1 ≥ ((List.length x1.2.2.1):Int)) then some (false,()) else bif decide ((ix qb x1.2.2.2.2.1 x2).2.2.2.1.2.2.1 < 0) then some (true,()) else inR (ix qb x1.2.2.2.2.1 x2).2.2.2.1.2.2.1 ((List.length x1.2.2.1):Int) (bif (List.getD x1.2.2.1 (Int.toNat (ix qb x1.2.2.2.2.1 x2).2.2.2.1.2.2.1) (zb zI)).1 then bif (List.getD x1.2.2.1 (Int.toNat (ix qb x1.2.2.2.2.1 x2).2.2.2.1.2.2.1) (zb zI)).2.2.1 == 3 then bif (List.getD x1.2.2.1 (Int.toNat (ix qb x1.2.2.2.2.1 x2).2.2.2.1.2.2.1) (zb zI)).2.2.2.1 == x2 then some (true,()) else some (false,()) else some (false,()) else some (false,())) else some (false,()) else some (false,()) else some (true,()))
theorem z77 (K:Nat):evF (En E0 false [zca zr]) K Tryz.f116 0 zGK zGL = zJo zr:=funext fun (x0,x1,x2,())=>by kernel_rfl
end
def zab:zTg:=zJo qE
theorem z78:Sd Tryz.prog E0 (zC9 zab):=mkS (l:=[zca qE]) ⟨zBp,trivial⟩ Tryz.func116 (by kernel_rfl) (z77 qE K0)
section
variable (qZ:zQ6) (ja:zQ7) (jb:zQ8) (jc:zQ9) (je:zRa) (zF:zC7) (qJ:zTf) (qs:zTg) (qd:zLX) (zr:zsv)
abbrev zaf:Env:=(En E0 false [zzQ qZ,zzR ja,zzS jb,zzT jc,zzU je,zkn zF,zC8 qJ,zC9 qs,zpi qd,zca zr])
abbrev zi1:Type:=Int × Int × zd × ze × zg
abbrev zLi:zi1→St:=fun (v2,v14,o0,o1,o2)=>St.mk [(2,AV.dat tI v2),(3,AV.bp 0 []),(4,AV.bp 1 []),(7,AV.bp 2 []),(14,AV.dat tI v14)] [Obj.bx (AV.dat zC o0) false,Obj.bx (AV.dat zW o1) false,Obj.bx (AV.dat zh o2) false]
abbrev zi2:Type:=Int × Int × zd × ze × zg
abbrev zLj:zi2→St:=fun (v2,v12,o0,o1,o2)=>St.mk [(2,AV.dat tI v2),(3,AV.bp 0 []),(4,AV.bp 1 []),(7,AV.bp 2 []),(12,AV.dat tI v12)] [Obj.bx (AV.dat zC o0) false,Obj.bx (AV.dat zW o1) false,Obj.bx (AV.dat zh o2) false]
abbrev zi3:Type:=Int × Int × zd × ze × zg
abbrev zLk:zi3→St:=fun (v2,v11,o0,o1,o2)=>St.mk [(2,AV.dat tI v2),(3,AV.bp 0 []),(4,AV.bp 1 []),(7,AV.bp 2 []),(11,AV.dat tI v11)] [Obj.bx (AV.dat zC o0) false,Obj.bx (AV.dat zW o1) false,Obj.bx (AV.dat zh o2) false]
abbrev zi4:Type:=Int × Int × zd × ze × zg
abbrev zLl:zi4→St:=fun (v2,v10,o0,o1,o2)=>St.mk [(2,AV.dat tI v2),(3,AV.bp 0 []),(4,AV.bp 1 []),(7,AV.bp 2 []),(10,AV.dat tI v10)] [Obj.bx (AV.dat zC o0) false,Obj.bx (AV.dat zW o1) false,Obj.bx (AV.dat zh o2) false]
abbrev zi5:Type:=Int × Int × zd × ze × zg
abbrev z0K:zi5→St:=fun (v2,v8,o0,o1,o2)=>St.mk [(2,AV.dat tI v2),(3,AV.bp 0 []),(4,AV.bp 1 []),(7,AV.bp 2 []),(8,AV.dat tI v8)] [Obj.bx (AV.dat zC o0) false,Obj.bx (AV.dat zW o1) false,Obj.bx (AV.dat zh o2) false]
def zo1 (k4:zi1→Option (Bool × Unit)):zi1→Option (Bool × Unit):=fun (v2,v14,o0,o1,o2) =>
  bif decide (v14 < ((List.length o2.2.2.2.2.2.2.1):Int)) then inR v14 ((List.length o2.2.2.2.2.2.2.1):Int) (Option.bind (zF (o0,o1,ix zki o2.2.2.2.2.2.2.1 v14,v2,())) fun q12=>bif q12.1 then k4 (v2,wI (v14 + 1),o0,o1,o2) else some (false,())) else some (true,())
abbrev zi6 (K:Nat):zi1→Option (Bool × Unit):=iter (zo1 zF) K
theorem z0L (K:Nat):∀ n,evV (zaf qZ ja jb jc je zF qJ qs qd zr) K Tryz.f42 0 vZ [1,1,1,1,1,1,1,0,1,0] [] zLi n = iter (zo1 zF) n:=zm fun n4 (v2,v14,o0,o1,o2)=>by kernel_rfl
def zi7 (L4:zi1→Option (Bool × Unit)) (k3:zi2→Option (Bool × Unit)):zi2→Option (Bool × Unit):=fun (v2,v12,o0,o1,o2) =>
  bif decide (v12 < ((List.length o2.2.2.2.1):Int)) then inR v12 ((List.length o2.2.2.2.1):Int) (bif (ix zaE o2.2.2.2.1 v12).1 then Option.bind (qd (o0,(ix zaE o2.2.2.2.1 v12).2.1,v2,())) fun q9=>bif q9.1 then Option.bind (zr (o0,(ix zaE o2.2.2.2.1 v12).2.2.1,())) fun q10=>bif q10.1 then Option.bind (zr (o0,(ix zaE o2.2.2.2.1 v12).2.2.2.1,())) fun q11=>bif q11.1 then k3 (v2,wI (v12 + 1),o0,o1,o2) else some (false,()) else some (false,()) else some (false,()) else k3 (v2,wI (v12 + 1),o0,o1,o2)) else L4 (v2,0,o0,o1,o2)
abbrev zi8 (K:Nat):zi2→Option (Bool × Unit):=iter (fun k3=>zi7 qd zr (zi6 zF K) k3) K
theorem z0M (K:Nat):∀ n,evV (zaf qZ ja jb jc je zF qJ qs qd zr) K Tryz.f42 0 vZ [1,1,1,1,1,1,0,1,0] [] zLj n = iter (fun k3=>zi7 qd zr (zi6 zF K) k3) n:=qX (B:=fun L4 k3=>zi7 qd zr L4 k3) (V1:=fun n3=>evV (zaf qZ ja jb jc je zF qJ qs qd zr) K Tryz.f42 0 vZ [1,1,1,1,1,1,1,0,1,0] [] zLi K) (W1:=fun k3=>(zi6 zF K)) (fun n3=>z0L qZ ja jb jc je zF qJ qs qd zr K K) fun n3 (v2,v12,o0,o1,o2)=>by kernel_rfl
def zi9 (L3:zi2→Option (Bool × Unit)) (k2:zi3→Option (Bool × Unit)):zi3→Option (Bool × Unit):=fun (v2,v11,o0,o1,o2) =>
  bif decide (v11 < ((List.length o2.2.2.2.2.1):Int)) then Option.bind (qs (o0,o2,v11,())) fun q8=>bif q8.1 then k2 (v2,wI (v11 + 1),o0,o1,o2) else some (false,()) else L3 (v2,0,o0,o1,o2)
abbrev zja (K:Nat):zi3→Option (Bool × Unit):=iter (fun k2=>zi9 qs (zi8 zF qd zr K) k2) K
theorem z0N (K:Nat):∀ n,evV (zaf qZ ja jb jc je zF qJ qs qd zr) K Tryz.f42 0 vZ [1,1,1,1,1,0,1,0] [] zLk n = iter (fun k2=>zi9 qs (zi8 zF qd zr K) k2) n:=qX (B:=fun L3 k2=>zi9 qs L3 k2) (V1:=fun n2=>evV (zaf qZ ja jb jc je zF qJ qs qd zr) K Tryz.f42 0 vZ [1,1,1,1,1,1,0,1,0] [] zLj K) (W1:=fun k2=>(zi8 zF qd zr K)) (fun n2=>z0M qZ ja jb jc je zF qJ qs qd zr K K) fun n2 (v2,v11,o0,o1,o2)=>by kernel_rfl
def zjb (L2:zi3→Option (Bool × Unit)) (k1:zi4→Option (Bool × Unit)):zi4→Option (Bool × Unit):=fun (v2,v10,o0,o1,o2) =>
  bif decide (v10 < ((List.length o2.2.2.1):Int)) then Option.bind (qJ (o0,o1,v2,v10,())) fun q7=>bif q7.1 then k1 (v2,wI (v10 + 1),o0,o1,o2) else some (false,()) else L2 (v2,0,o0,o1,o2)
abbrev zjc (K:Nat):zi4→Option (Bool × Unit):=iter (fun k1=>zjb qJ (zja zF qs qd zr K) k1) K
theorem z0O (K:Nat):∀ n,evV (zaf qZ ja jb jc je zF qJ qs qd zr) K Tryz.f42 0 vZ [1,1,1,1,0,1,0] [] zLl n = iter (fun k1=>zjb qJ (zja zF qs qd zr K) k1) n:=qX (B:=fun L2 k1=>zjb qJ L2 k1) (V1:=fun n1=>evV (zaf qZ ja jb jc je zF qJ qs qd zr) K Tryz.f42 0 vZ [1,1,1,1,1,0,1,0] [] zLk K) (W1:=fun k1=>(zja zF qs qd zr K)) (fun n1=>z0N qZ ja jb jc je zF qJ qs qd zr K K) fun n1 (v2,v10,o0,o1,o2)=>by kernel_rfl
def zjd (L1:zi4→Option (Bool × Unit)) (k0:zi5→Option (Bool × Unit)):zi5→Option (Bool × Unit):=fun (v2,v8,o0,o1,o2) =>
  bif decide (v8 < ((List.length o2.2.1):Int)) then inR v8 ((List.length o2.2.1):Int) (bif (ix qQ o2.2.1 v8).1 then Option.bind (zF (o0,o1,(ix qQ o2.2.1 v8).2.1,v2,())) fun q5=>bif q5.1 then Option.bind (zF (o0,o1,(ix qQ o2.2.1 v8).2.2.1,v2,())) fun q6=>bif q6.1 then k0 (v2,wI (v8 + 1),o0,o1,o2) else some (false,()) else some (false,()) else k0 (v2,wI (v8 + 1),o0,o1,o2)) else L1 (v2,0,o0,o1,o2)
abbrev zya (K:Nat):zi5→Option (Bool × Unit):=iter (fun k0=>zjd zF (zjc zF qJ qs qd zr K) k0) K
theorem z0P (K:Nat):∀ n,evV (zaf qZ ja jb jc je zF qJ qs qd zr) K Tryz.f42 0 vZ [1,1,1,0,1,0] [] z0K n = iter (fun k0=>zjd zF (zjc zF qJ qs qd zr K) k0) n:=qX (B:=fun L1 k0=>zjd zF L1 k0) (V1:=fun n0=>evV (zaf qZ ja jb jc je zF qJ qs qd zr) K Tryz.f42 0 vZ [1,1,1,1,0,1,0] [] zLl K) (W1:=fun k0=>(zjc zF qJ qs qd zr K)) (fun n0=>z0O qZ ja jb jc je zF qJ qs qd zr K K) fun n0 (v2,v8,o0,o1,o2)=>by kernel_rfl
def ztu (L0:zi5→Option (Bool × Unit)):(zd × (ze × (Int × Unit)))→Option (Bool × Unit):=fun (x0,x1,x2,()) =>
  inR x2 ((List.length x1.2.1):Int) (Option.bind (qZ ((ix za x1.2.1 x2).1,())) fun q0=>bif q0.1 then Option.bind (ja ((ix za x1.2.1 x2).2.1,())) fun q1=>bif q1.1 then Option.bind (jb ((ix za x1.2.1 x2).2.2.1,())) fun q2=>bif q2.1 then Option.bind (jc ((ix za x1.2.1 x2).2.2.2.1,())) fun q3=>bif q3.1 then Option.bind (je ((ix za x1.2.1 x2).2.2.2.2.1,())) fun q4=>bif q4.1 then L0 (x2,0,x0,x1,ix za x1.2.1 x2) else some (false,()) else some (false,()) else some (false,()) else some (false,()) else some (false,()))
theorem z5s (K:Nat):evF (zaf qZ ja jb jc je zF qJ qs qd zr) K Tryz.f42 0 zCr vZ = ztu qZ ja jb jc je (zya zF qJ qs qd zr K):=tr1 (T:=ztu qZ ja jb jc je) (z0P qZ ja jb jc je zF qJ qs qd zr K K) fun (x0,x1,x2,())=>by kernel_rfl
end
def zcR:zQQ:=ztu zm8 zna znb znc znd (zya jm zcs zab vp qE K0)
theorem z5t:Sd Tryz.prog E0 (zzi zcR):=mkS (l:=[zzQ zm8,zzR zna,zzS znb,zzT znc,zzU znd,zkn jm,zC8 zcs,zC9 zab,zpi vp,zca qE]) ⟨z5f,z5i,z5k,z5m,z5o,zRP,z76,z78,zWx,zBp,trivial⟩ Tryz.func42 (by kernel_rfl) (z5s zm8 zna znb znc znd jm zcs zab vp qE K0)
section
def zEH:(zj × (Int × Unit))→Option (Int × Unit):=fun (x0,x1,()) =>
  bif x0.1 then bif x0.2.2.2.1 == 2 then bif x0.2.2.2.2.1 == x1 then some (x0.2.2.2.2.2.2.2.2.1,()) else bif x0.2.2.2.1 != 2 then bif x0.2.2.2.2.2.1 == x1 then some (x0.2.2.2.2.2.2.2.2.1,()) else some (0,()) else some (0,()) else bif x0.2.2.2.1 != 2 then bif x0.2.2.2.2.2.1 == x1 then some (x0.2.2.2.2.2.2.2.2.1,()) else some (0,()) else some (0,()) else some (0,())
theorem z5u (K:Nat):evF (En E0 false []) K Tryz.f123 0 zDd zDe = zEH:=funext fun (x0,x1,())=>by kernel_rfl
end
def zeR:zRc:=zEH
theorem z5v:Sd Tryz.prog E0 (zzW zeR):=mkS (l:=[]) trivial Tryz.func123 (by kernel_rfl) (z5u K0)
section
def zJp:(Int × (Int × Unit))→Option (Int × (Int × Unit)):=fun (x0,x1,()) =>
  bif decide (x0 > 4611686018427387904) then some (0,7,()) else bif decide (x1 > wU (4611686018427387904 - x0)) then some (0,7,()) else some (wU (x0 + x1),0,())
theorem z79 (K:Nat):evF (En E0 false []) K Tryz.f49 0 zGp zGq = zJp:=funext fun (x0,x1,())=>by kernel_rfl
end
def qz:zpe:=zJp
theorem zyb:Sd Tryz.prog E0 (zbk qz):=mkS (l:=[]) trivial Tryz.func49 (by kernel_rfl) (z79 K0)
section
variable (zcS:zRc) (zv:zpe)
abbrev zUu:Env:=(En E0 false [zzW zcS,zbk zv])
abbrev zlc:Type:=(List zj) × Int × Int × Int
abbrev z2H:zlc→St:=fun (v0,v1,v6,v7)=>St.mk [(0,AV.dat (Ty.sl zi) v0),(1,AV.dat tI v1),(6,AV.dat tU v6),(7,AV.dat tI v7)] []
def zld (k0:zlc→Option (Int × (Int × Unit))):zlc→Option (Int × (Int × Unit)):=fun (v0,v1,v6,v7) =>
  bif decide (v7 < ((List.length v0):Int)) then inR v7 ((List.length v0):Int) (Option.bind (zcS (ix zP v0 v7,v1,())) fun q0=>Option.bind (zv (v6,q0.1,())) fun q1=>bif q1.2.1 != 0 then some (0,q1.2.1,()) else k0 (v0,v1,q1.1,wI (v7 + 1))) else some (v6,0,())
abbrev zOS (K:Nat):zlc→Option (Int × (Int × Unit)):=iter (zld zcS zv) K
theorem z2I (K:Nat):∀ n,evV (zUu zcS zv) K Tryz.f47 0 zv1 [1,1,1,0,1,0] [] z2H n = iter (zld zcS zv) n:=zm fun n0 (v0,v1,v6,v7)=>by kernel_rfl
def zyc (L0:zlc→Option (Int × (Int × Unit))):((List zj) × (Int × Unit))→Option (Int × (Int × Unit)):=fun (x0,x1,()) =>
  bif decide (x1 < 0) then some (0,1,()) else bif decide (x1 > 3) then some (0,1,()) else L0 (x0,x1,0,0)
theorem z8a (K:Nat):evF (zUu zcS zv) K Tryz.f47 0 zGn zv1 = zyc (zOS zcS zv K):=tr1 (T:=zyc) (z2I zcS zv K K) fun (x0,x1,())=>by kernel_rfl
end
def zle:zS7:=zyc (zOS zeR qz K0)
theorem z8b:Sd Tryz.prog E0 (zCt zle):=mkS (l:=[zzW zeR,zbk qz]) ⟨z5v,zyb,trivial⟩ Tryz.func47 (by kernel_rfl) (z8a zeR qz K0)
section
variable (zv:zpe)
abbrev zUv:Env:=(En E0 false [zbk zv])
abbrev zlf:Type:=(List zo) × Int × Int × Int
abbrev z2J:zlf→St:=fun (v0,v1,v6,v7)=>St.mk [(0,AV.dat (Ty.sl zu) v0),(1,AV.dat tI v1),(6,AV.dat tU v6),(7,AV.dat tI v7)] []
def zlg (k0:zlf→Option (Int × (Int × Unit))):zlf→Option (Int × (Int × Unit)):=fun (v0,v1,v6,v7) =>
  bif decide (v7 < ((List.length v0):Int)) then inR v7 ((List.length v0):Int) (bif (ix qb v0 v7).1 then inR v7 ((List.length v0):Int) (bif (ix qb v0 v7).2.2.2.1.1 == v1 then inR v7 ((List.length v0):Int) (Option.bind (zv (v6,(ix qb v0 v7).2.2.2.1.2.1,())) fun q0=>bif q0.2.1 != 0 then some (0,q0.2.1,()) else k0 (v0,v1,q0.1,wI (v7 + 1))) else k0 (v0,v1,v6,wI (v7 + 1))) else k0 (v0,v1,v6,wI (v7 + 1))) else some (v6,0,())
abbrev zOT (K:Nat):zlf→Option (Int × (Int × Unit)):=iter (zlg zv) K
theorem z2K (K:Nat):∀ n,evV (zUv zv) K Tryz.f48 0 zv2 [1,1,1,0,1,0] [] z2J n = iter (zlg zv) n:=zm fun n0 (v0,v1,v6,v7)=>by kernel_rfl
def zyd (L0:zlf→Option (Int × (Int × Unit))):((List zo) × (Int × Unit))→Option (Int × (Int × Unit)):=fun (x0,x1,()) =>
  bif decide (x1 < 0) then some (0,1,()) else bif decide (x1 > 3) then some (0,1,()) else L0 (x0,x1,0,0)
theorem z8c (K:Nat):evF (zUv zv) K Tryz.f48 0 zGo zv2 = zyd (zOT zv K):=tr1 (T:=zyd) (z2K zv K K) fun (x0,x1,())=>by kernel_rfl
end
def zgV:zS8:=zyd (zOT qz K0)
theorem z8d:Sd Tryz.prog E0 (zCu zgV):=mkS (l:=[zbk qz]) ⟨zyb,trivial⟩ Tryz.func48 (by kernel_rfl) (z8c qz K0)
section
variable (zac:zS7) (ym:zS8) (zv:zpe)
abbrev zp6:Env:=(En E0 false [zCt zac,zCu ym,zbk zv])
abbrev zlh:Type:=Int × Int × Int × Int × ze
abbrev zOU:zlh→St:=fun (v1,v6,v8,v11,o0)=>St.mk [(1,AV.dat tI v1),(2,AV.bp 0 []),(6,AV.dat tU v6),(8,AV.dat tI v8),(11,AV.dat tI v11)] [Obj.bx (AV.dat zW o0) false]
abbrev zdA:Type:=Int × Int × Int × ze
abbrev zOV:zdA→St:=fun (v1,v6,v8,o0)=>St.mk [(1,AV.dat tI v1),(2,AV.bp 0 []),(6,AV.dat tU v6),(8,AV.dat tI v8)] [Obj.bx (AV.dat zW o0) false]
def zli (k0:zdA→Option (Int × (Int × Unit))) (k1:zlh→Option (Int × (Int × Unit))):zlh→Option (Int × (Int × Unit)):=fun (v1,v6,v8,v11,o0) =>
  inR v8 ((List.length o0.2.1):Int) (bif decide (v11 < ((List.length (ix za o0.2.1 v8).2.2.2.2.2.1):Int)) then inR v8 ((List.length o0.2.1):Int) (inR v11 ((List.length (ix za o0.2.1 v8).2.2.2.2.2.1):Int) (inR v1 (↑4:Int) (Option.bind (zv (v6,List.getD (List.getD (ix za o0.2.1 v8).2.2.2.2.2.1 (Int.toNat v11) (zb (Ty.arr 4 tU))) (Int.toNat v1) (0:Int),())) fun q3=>bif q3.2.1 != 0 then some (0,q3.2.1,()) else k1 (v1,q3.1,v8,wI (v11 + 1),o0)))) else k0 (v1,v6,wI (v8 + 1),o0))
abbrev zlj (K:Nat) (k0:zdA→Option (Int × (Int × Unit))):zlh→Option (Int × (Int × Unit)):=iter (fun k1=>zli zv k0 k1) K
theorem z2L (K:Nat) (n0:Nat):∀ n,evV (zp6 zac ym zv) K Tryz.f14 0 zf6 [1,1,1,0,1,0,0,1,0,0,1,1,1,1,1,0] [n0] zOU n = iter (fun k1=>zli zv (evV (zp6 zac ym zv) K Tryz.f14 0 zf6 [1,1,1,0,1,0] [] zOV n0) k1) n:=zm fun n1 (v1,v6,v8,v11,o0)=>by kernel_rfl
def zfW (L1:zlh→Option (Int × (Int × Unit))) (k0:zdA→Option (Int × (Int × Unit))):zdA→Option (Int × (Int × Unit)):=fun (v1,v6,v8,o0) =>
  bif decide (v8 < ((List.length o0.2.1):Int)) then inR v8 ((List.length o0.2.1):Int) (Option.bind (ym ((ix za o0.2.1 v8).2.2.2.2.1,v1,())) fun q1=>bif q1.2.1 != 0 then some (0,q1.2.1,()) else Option.bind (zv (v6,q1.1,())) fun q2=>bif q2.2.1 != 0 then some (0,q2.2.1,()) else L1 (v1,q2.1,v8,0,o0)) else some (v6,0,())
abbrev zOW (K:Nat):zdA→Option (Int × (Int × Unit)):=iter (fun k0=>zfW ym zv (zlj zv K k0) k0) K
theorem z2M (K:Nat):∀ n,evV (zp6 zac ym zv) K Tryz.f14 0 zf6 [1,1,1,0,1,0] [] zOV n = iter (fun k0=>zfW ym zv (zlj zv K k0) k0) n:=qX (B:=fun L1 k0=>zfW ym zv L1 k0) (V1:=fun n0=>evV (zp6 zac ym zv) K Tryz.f14 0 zf6 [1,1,1,0,1,0,0,1,0,0,1,1,1,1,1,0] [n0] zOU K) (W1:=fun k0=>(zlj zv K k0)) (fun n0=>z2L zac ym zv K n0 K) fun n0 (v1,v6,v8,o0)=>by kernel_rfl
def zye (L0:zdA→Option (Int × (Int × Unit))):(ze × (Int × Unit))→Option (Int × (Int × Unit)):=fun (x0,x1,()) =>
  Option.bind (zac (x0.2.2.2.1,x1,())) fun q0=>bif q0.2.1 != 0 then some (0,q0.2.1,()) else L0 (x1,q0.1,0,x0)
theorem z8e (K:Nat):evF (zp6 zac ym zv) K Tryz.f14 0 zF6 zf6 = zye zac (zOW ym zv K):=tr1 (T:=zye zac) (z2M zac ym zv K K) fun (x0,x1,())=>by kernel_rfl
end
def yC:zF7:=zye zle (zOW zgV qz K0)
theorem zUw:Sd Tryz.prog E0 (zmK yC):=mkS (l:=[zCt zle,zCu zgV,zbk qz]) ⟨z8b,z8d,zyb,trivial⟩ Tryz.func14 (by kernel_rfl) (z8e zle zgV qz K0)
section
def zEI:(Int × (Int × Unit))→Option (Int × (Int × Unit)):=fun (x0,x1,()) =>
  bif decide (x1 > x0) then some (0,6,()) else some (wU (x0 - x1),0,())
theorem z5w (K:Nat):evF (En E0 false []) K Tryz.f54 0 zCw zCx = zEI:=funext fun (x0,x1,())=>by kernel_rfl
end
def zag:zQR:=zEI
theorem z5x:Sd Tryz.prog E0 (zzo zag):=mkS (l:=[]) trivial Tryz.func54 (by kernel_rfl) (z5w K0)
section
variable (zv:zpe) (j8:zQR)
abbrev zyf:Env:=(En E0 false [zbk zv,zzo j8])
abbrev zlk:Type:=Int × Int × Int × Int × Int × ze
abbrev zOX:zlk→St:=fun (v1,v6,v7,v8,v10,o0)=>St.mk [(1,AV.dat tI v1),(2,AV.bp 0 []),(6,AV.dat tU v6),(7,AV.dat tU v7),(8,AV.dat tI v8),(10,AV.dat tI v10)] [Obj.bx (AV.dat zW o0) false]
abbrev zll:Type:=Int × Int × Int × Int × Int × ze
abbrev z2N:zll→St:=fun (v1,v6,v7,v8,v9,o0)=>St.mk [(1,AV.dat tI v1),(2,AV.bp 0 []),(6,AV.dat tU v6),(7,AV.dat tU v7),(8,AV.dat tI v8),(9,AV.dat tI v9)] [Obj.bx (AV.dat zW o0) false]
def zlm (k1:zlk→Option (Int × (Int × Unit))):zlk→Option (Int × (Int × Unit)):=fun (v1,v6,v7,v8,v10,o0) =>
  bif decide (v10 < ((List.length o0.2.1):Int)) then bif v8 == 0 then inR v10 ((List.length o0.2.1):Int) (inR v1 (↑4:Int) (Option.bind (zv (v7,List.getD (ix za o0.2.1 v10).2.2.2.2.2.2.2.2.1 (Int.toNat v1) (0:Int),())) fun q1=>k1 (v1,v6,q1.1,q1.2.1,wI (v10 + 1),o0))) else bif v8 != 0 then some (0,v8,()) else Option.bind (j8 (v6,v7,())) fun q2=>some (q2.1,q2.2.1,()) else bif v8 != 0 then some (0,v8,()) else Option.bind (j8 (v6,v7,())) fun q3=>some (q3.1,q3.2.1,())
abbrev zfX (K:Nat):zlk→Option (Int × (Int × Unit)):=iter (zlm zv j8) K
theorem z2O (K:Nat):∀ n,evV (zyf zv j8) K Tryz.f16 0 zkk [1,1,1,1,1,1,0,1,0] [] zOX n = iter (zlm zv j8) n:=zm fun n1 (v1,v6,v7,v8,v10,o0)=>by kernel_rfl
def zfY (L1:zlk→Option (Int × (Int × Unit))) (k0:zll→Option (Int × (Int × Unit))):zll→Option (Int × (Int × Unit)):=fun (v1,v6,v7,v8,v9,o0) =>
  bif decide (v9 < ((List.length o0.2.1):Int)) then bif v8 == 0 then inR v9 ((List.length o0.2.1):Int) (inR v1 (↑4:Int) (Option.bind (zv (v6,List.getD (ix za o0.2.1 v9).2.2.2.2.2.2.2.1 (Int.toNat v1) (0:Int),())) fun q0=>k0 (v1,q0.1,v7,q0.2.1,wI (v9 + 1),o0))) else L1 (v1,v6,v7,v8,0,o0) else L1 (v1,v6,v7,v8,0,o0)
abbrev zOY (K:Nat):zll→Option (Int × (Int × Unit)):=iter (fun k0=>zfY zv (zfX zv j8 K) k0) K
theorem z2P (K:Nat):∀ n,evV (zyf zv j8) K Tryz.f16 0 zkk [1,1,1,1,1,0,1,0] [] z2N n = iter (fun k0=>zfY zv (zfX zv j8 K) k0) n:=qX (B:=fun L1 k0=>zfY zv L1 k0) (V1:=fun n0=>evV (zyf zv j8) K Tryz.f16 0 zkk [1,1,1,1,1,1,0,1,0] [] zOX K) (W1:=fun k0=>(zfX zv j8 K)) (fun n0=>z2O zv j8 K K) fun n0 (v1,v6,v7,v8,v9,o0)=>by kernel_rfl
def zyg (L0:zll→Option (Int × (Int × Unit))):(ze × (Int × Unit))→Option (Int × (Int × Unit)):=fun (x0,x1,()) =>
  bif decide (x1 < 0) then some (0,1,()) else bif decide (x1 > 3) then some (0,1,()) else L0 (x1,0,0,0,0,x0)
theorem z8f (K:Nat):evF (zyf zv j8) K Tryz.f16 0 zGa zkk = zyg (zOY zv j8 K):=tr1 (T:=zyg) (z2P zv j8 K K) fun (x0,x1,())=>by kernel_rfl
end
def yD:zGb:=zyg (zOY qz zag K0)
theorem zUx:Sd Tryz.prog E0 (zmL yD):=mkS (l:=[zbk qz,zzo zag]) ⟨zyb,z5x,trivial⟩ Tryz.func16 (by kernel_rfl) (z8f qz zag K0)
section
variable (z6:zs2) (ve:zQP) (j3:zNT) (jS:zQQ) (qC:zF7) (qD:zGb)
abbrev zeS:Env:=(En E0 false [zdc z6,zzg ve,zvY j3,zzi jS,zmK qC,zmL qD])
abbrev zje:Type:=Int × Int × zd × ze
abbrev zLm:zje→St:=fun (v5,v6,o0,o1)=>St.mk [(2,AV.bp 0 []),(3,AV.bp 1 []),(5,AV.dat tI v5),(6,AV.dat tI v6)] [Obj.bx (AV.dat zC o0) false,Obj.bx (AV.dat zW o1) false]
abbrev zjf:Type:=Int × ze
abbrev zLn:zjf→St:=fun (v7,o0)=>St.mk [(3,AV.bp 0 []),(7,AV.dat tI v7)] [Obj.bx (AV.dat zW o0) false]
abbrev zct:Type:=Int × zd × ze
abbrev zLo:zct→St:=fun (v5,o0,o1)=>St.mk [(2,AV.bp 0 []),(3,AV.bp 1 []),(5,AV.dat tI v5)] [Obj.bx (AV.dat zC o0) false,Obj.bx (AV.dat zW o1) false]
def zo2 (k0:zct→Option (Bool × Unit)) (k1:zje→Option (Bool × Unit)):zje→Option (Bool × Unit):=fun (v5,v6,o0,o1) =>
  bif decide (v6 < 4) then inR v5 ((List.length o1.2.1):Int) (inR v6 (↑4:Int) (inR v5 ((List.length o0.2.2.2.2.1):Int) (bif decide (List.getD (ix za o1.2.1 v5).2.2.2.2.2.2.2.1 (Int.toNat v6) (0:Int) > (ix zD o0.2.2.2.2.1 v5).2.2.2.2.2.1) then some (false,()) else k1 (v5,wI (v6 + 1),o0,o1)))) else k0 (wI (v5 + 1),o0,o1)
abbrev zo3 (K:Nat) (k0:zct→Option (Bool × Unit)):zje→Option (Bool × Unit):=iter (fun k1=>zo2 k0 k1) K
theorem z0Q (K:Nat) (n0:Nat):∀ n,evV (zeS z6 ve j3 jS qC qD) K Tryz.f12 0 zbj [1,1,0,1,0,0,1,0,0,1,1,0] [n0] zLm n = iter (fun k1=>zo2 (evV (zeS z6 ve j3 jS qC qD) K Tryz.f12 0 zbj [1,1,0,1,0] [] zLo n0) k1) n:=zm fun n1 (v5,v6,o0,o1)=>by kernel_rfl
def zyh (k2:zjf→Option (Bool × Unit)):zjf→Option (Bool × Unit):=fun (v7,o0) =>
  bif decide (v7 < 4) then Option.bind (qC (o0,v7,())) fun q4=>Option.bind (qD (o0,v7,())) fun q5=>bif q4.2.1 != 0 then some (false,()) else bif q5.2.1 != 0 then some (false,()) else bif q4.1 != q5.1 then some (false,()) else k2 (wI (v7 + 1),o0) else some (true,())
abbrev zjg (K:Nat):zjf→Option (Bool × Unit):=iter (zyh qC qD) K
theorem z0R (K:Nat):∀ n,evV (zeS z6 ve j3 jS qC qD) K Tryz.f12 0 zbj [1,1,1,0,1,0] [] zLn n = iter (zyh qC qD) n:=zm fun n2 (v7,o0)=>by kernel_rfl
def zjh (L1:zje→Option (Bool × Unit)) (L2:zjf→Option (Bool × Unit)) (k0:zct→Option (Bool × Unit)):zct→Option (Bool × Unit):=fun (v5,o0,o1) =>
  bif decide (v5 < ((List.length o1.2.1):Int)) then Option.bind (jS (o0,o1,v5,())) fun q3=>bif q3.1 then L1 (v5,0,o0,o1) else some (false,()) else L2 (0,o1)
abbrev zyi (K:Nat):zct→Option (Bool × Unit):=iter (fun k0=>zjh jS (zo3 K k0) (zjg qC qD K) k0) K
theorem z0S (K:Nat):∀ n,evV (zeS z6 ve j3 jS qC qD) K Tryz.f12 0 zbj [1,1,0,1,0] [] zLo n = iter (fun k0=>zjh jS (zo3 K k0) (zjg qC qD K) k0) n:=zSZ (B:=fun L1 L2 k0=>zjh jS L1 L2 k0) (V1:=fun n0=>evV (zeS z6 ve j3 jS qC qD) K Tryz.f12 0 zbj [1,1,0,1,0,0,1,0,0,1,1,0] [n0] zLm K) (V2:=fun n0=>evV (zeS z6 ve j3 jS qC qD) K Tryz.f12 0 zbj [1,1,1,0,1,0] [] zLn K) (W1:=fun k0=>(zo3 K k0)) (W2:=fun k0=>(zjg qC qD K)) (fun n0=>z0Q z6 ve j3 jS qC qD K n0 K) (fun n0=>z0R z6 ve j3 jS qC qD K K) fun n0 (v5,o0,o1)=>by kernel_rfl
def ztv (L0:zct→Option (Bool × Unit)):(zd × (ze × Unit))→Option (Bool × Unit):=fun (x0,x1,()) =>
  Option.bind (z6 (x0,())) fun q0=>bif q0.1 then Option.bind (ve (x0,x1,())) fun q1=>bif q1.1 then Option.bind (j3 (x0,x1,())) fun q2=>bif q2.1 then L0 (0,x0,x1) else some (false,()) else some (false,()) else some (false,())
theorem z5y (K:Nat):evF (zeS z6 ve j3 jS qC qD) K Tryz.f12 0 zCb zbj = ztv z6 ve j3 (zyi jS qC qD K):=tr1 (T:=ztv z6 ve j3) (z0S z6 ve j3 jS qC qD K K) fun (x0,x1,())=>by kernel_rfl
end
def zhR:zQM:=ztv yd zhO zfV (zyi zcR yC yD K0)
theorem z5z:Sd Tryz.prog E0 (zy6 zhR):=mkS (l:=[zdc yd,zzg zhO,zvY zfV,zzi zcR,zmK yC,zmL yD]) ⟨zEt,z42,z2E,z5t,zUw,zUx,trivial⟩ Tryz.func12 (by kernel_rfl) (z5y yd zhO zfV zcR yC yD K0)
end
end Go.Proofs.YtaokpakfhdeiiaaGreatDoor
end
section
namespace Go.Proofs.YtaokpakfhdeiiaaGreatDoor
open Go.Ev
noncomputable section
section
abbrev zp7:Env:=(En E0 false [])
abbrev zln:Type:=(List (List Int)) × (List (List Int)) × Int × Int
abbrev zOZ:zln→St:=fun (v0,v1,v5,v6)=>St.mk [(0,AV.dat (Ty.sl (Ty.sl tI)) v0),(1,AV.dat (Ty.sl (Ty.sl tI)) v1),(5,AV.dat tI v5),(6,AV.dat tI v6)] []
abbrev zdB:Type:=(List (List Int)) × (List (List Int)) × Int
abbrev zO0:zdB→St:=fun (v0,v1,v5)=>St.mk [(0,AV.dat (Ty.sl (Ty.sl tI)) v0),(1,AV.dat (Ty.sl (Ty.sl tI)) v1),(5,AV.dat tI v5)] []
def zlo (k0:zdB→Option (Bool × Unit)) (k1:zln→Option (Bool × Unit)):zln→Option (Bool × Unit):=fun (v0,v1,v5,v6) =>
  inR v5 ((List.length v0):Int) (bif decide (v6 < ((List.length (List.getD v0 (Int.toNat v5) ([]:List Int))):Int)) then inR v5 ((List.length v0):Int) (inR v6 ((List.length (List.getD v0 (Int.toNat v5) ([]:List Int))):Int) (inR v5 ((List.length v1):Int) (inR v6 ((List.length (List.getD v1 (Int.toNat v5) ([]:List Int))):Int) (bif List.getD (List.getD v0 (Int.toNat v5) ([]:List Int)) (Int.toNat v6) (0:Int) != List.getD (List.getD v1 (Int.toNat v5) ([]:List Int)) (Int.toNat v6) (0:Int) then some (false,()) else k1 (v0,v1,v5,wI (v6 + 1)))))) else k0 (v0,v1,wI (v5 + 1)))
abbrev zq1 (K:Nat) (k0:zdB→Option (Bool × Unit)):zln→Option (Bool × Unit):=iter (fun k1=>zlo k0 k1) K
theorem z2Q (K:Nat) (n0:Nat):∀ n,evV (zp7) K Tryz.f35 0 zf7 [1,1,0,1,0,0,1,0,0,1,1,0] [n0] zOZ n = iter (fun k1=>zlo (evV (zp7) K Tryz.f35 0 zf7 [1,1,0,1,0] [] zO0 n0) k1) n:=zm fun n1 (v0,v1,v5,v6)=>by kernel_rfl
def zfZ (L1:zln→Option (Bool × Unit)) (k0:zdB→Option (Bool × Unit)):zdB→Option (Bool × Unit):=fun (v0,v1,v5) =>
  bif decide (v5 < ((List.length v0):Int)) then inR v5 ((List.length v0):Int) (inR v5 ((List.length v1):Int) (bif ((List.length (List.getD v0 (Int.toNat v5) ([]:List Int))):Int) != ((List.length (List.getD v1 (Int.toNat v5) ([]:List Int))):Int) then some (false,()) else L1 (v0,v1,v5,0))) else some (true,())
abbrev zO1 (K:Nat):zdB→Option (Bool × Unit):=iter (fun k0=>zfZ (zq1 K k0) k0) K
theorem z2R (K:Nat):∀ n,evV (zp7) K Tryz.f35 0 zf7 [1,1,0,1,0] [] zO0 n = iter (fun k0=>zfZ (zq1 K k0) k0) n:=qX (B:=fun L1 k0=>zfZ L1 k0) (V1:=fun n0=>evV (zp7) K Tryz.f35 0 zf7 [1,1,0,1,0,0,1,0,0,1,1,0] [n0] zOZ K) (W1:=fun k0=>(zq1 K k0)) (fun n0=>z2Q K n0 K) fun n0 (v0,v1,v5)=>by kernel_rfl
def zJq (L0:zdB→Option (Bool × Unit)):((List (List Int)) × ((List (List Int)) × Unit))→Option (Bool × Unit):=fun (x0,x1,()) =>
  bif ((List.length x0):Int) != ((List.length x1):Int) then some (false,()) else L0 (x0,x1,0)
theorem z8g (K:Nat):evF (zp7) K Tryz.f35 0 zGf zf7 = zJq (zO1 K):=tr1 (T:=zJq) (z2R K K) fun (x0,x1,())=>by kernel_rfl
end
def zp8:zS3:=zJq (zO1 K0)
theorem z8h:Sd Tryz.prog E0 (zCn zp8):=mkS (l:=[]) trivial Tryz.func35 (by kernel_rfl) (z8g K0)
section
abbrev zUy:Env:=(En E0 false [])
abbrev zlp:Type:=(List zj) × (List zj) × Int
abbrev z2S:zlp→St:=fun (v0,v1,v5)=>St.mk [(0,AV.dat (Ty.sl zi) v0),(1,AV.dat (Ty.sl zi) v1),(5,AV.dat tI v5)] []
def zlq (k0:zlp→Option (Bool × Unit)):zlp→Option (Bool × Unit):=fun (v0,v1,v5) =>
  bif decide (v5 < ((List.length v0):Int)) then inR v5 ((List.length v0):Int) (inR v5 ((List.length v1):Int) (bif !eqI zi (ix zP v0 v5) (ix zP v1 v5) then some (false,()) else k0 (v0,v1,wI (v5 + 1)))) else some (true,())
abbrev zO2 (K:Nat):zlp→Option (Bool × Unit):=iter (zlq) K
theorem z2T (K:Nat):∀ n,evV (zUy) K Tryz.f36 0 zvW [1,1,0,1,0] [] z2S n = iter (zlq) n:=zm fun n0 (v0,v1,v5)=>by kernel_rfl
def zJr (L0:zlp→Option (Bool × Unit)):((List zj) × ((List zj) × Unit))→Option (Bool × Unit):=fun (x0,x1,()) =>
  bif ((List.length x0):Int) != ((List.length x1):Int) then some (false,()) else L0 (x0,x1,0)
theorem z8i (K:Nat):evF (zUy) K Tryz.f36 0 zGg zvW = zJr (zO2 K):=tr1 (T:=zJr) (z2T K K) fun (x0,x1,())=>by kernel_rfl
end
def zp9:zS4:=zJr (zO2 K0)
theorem z8j:Sd Tryz.prog E0 (zCo zp9):=mkS (l:=[]) trivial Tryz.func36 (by kernel_rfl) (z8i K0)
section
abbrev zUz:Env:=(En E0 false [])
abbrev zlr:Type:=(List zy) × (List zy) × Int
abbrev z2U:zlr→St:=fun (v0,v1,v5)=>St.mk [(0,AV.dat (Ty.sl zl) v0),(1,AV.dat (Ty.sl zl) v1),(5,AV.dat tI v5)] []
def zls (k0:zlr→Option (Bool × Unit)):zlr→Option (Bool × Unit):=fun (v0,v1,v5) =>
  bif decide (v5 < ((List.length v0):Int)) then inR v5 ((List.length v0):Int) (inR v5 ((List.length v1):Int) (bif !eqI zl (ix zaV v0 v5) (ix zaV v1 v5) then some (false,()) else k0 (v0,v1,wI (v5 + 1)))) else some (true,())
abbrev zO3 (K:Nat):zlr→Option (Bool × Unit):=iter (zls) K
theorem z2V (K:Nat):∀ n,evV (zUz) K Tryz.f37 0 zvX [1,1,0,1,0] [] z2U n = iter (zls) n:=zm fun n0 (v0,v1,v5)=>by kernel_rfl
def zJs (L0:zlr→Option (Bool × Unit)):((List zy) × ((List zy) × Unit))→Option (Bool × Unit):=fun (x0,x1,()) =>
  bif ((List.length x0):Int) != ((List.length x1):Int) then some (false,()) else L0 (x0,x1,0)
theorem z8k (K:Nat):evF (zUz) K Tryz.f37 0 zGh zvX = zJs (zO3 K):=tr1 (T:=zJs) (z2V K K) fun (x0,x1,())=>by kernel_rfl
end
def zqa:zS5:=zJs (zO3 K0)
theorem z8l:Sd Tryz.prog E0 (zCp zqa):=mkS (l:=[]) trivial Tryz.func37 (by kernel_rfl) (z8k K0)
section
abbrev zFr:Env:=(En E0 false [])
abbrev zc4:Type:=(List qP) × (List qP) × Int
abbrev zSB:zc4→St:=fun (v0,v1,v5)=>St.mk [(0,AV.dat (Ty.sl zX) v0),(1,AV.dat (Ty.sl zX) v1),(5,AV.dat tI v5)] []
def zc5 (k0:zc4→Option (Bool × Unit)):zc4→Option (Bool × Unit):=fun (v0,v1,v5) =>
  bif decide (v5 < ((List.length v0):Int)) then inR v5 ((List.length v0):Int) (inR v5 ((List.length v1):Int) (bif !eqI zX (ix zbh v0 v5) (ix zbh v1 v5) then some (false,()) else k0 (v0,v1,wI (v5 + 1)))) else some (true,())
abbrev zyY (K:Nat):zc4→Option (Bool × Unit):=iter (zc5) K
theorem zSC (K:Nat):∀ n,evV (zFr) K Tryz.f101 0 zj2 [1,1,0,1,0] [] zSB n = iter (zc5) n:=zm fun n0 (v0,v1,v5)=>by kernel_rfl
def zsp (L0:zc4→Option (Bool × Unit)):((List qP) × ((List qP) × Unit))→Option (Bool × Unit):=fun (x0,x1,()) =>
  bif ((List.length x0):Int) != ((List.length x1):Int) then some (false,()) else L0 (x0,x1,0)
theorem zVH (K:Nat):evF (zFr) K Tryz.f101 0 zrx zj2 = zsp (zyY K):=tr1 (T:=zsp) (zSC K K) fun (x0,x1,())=>by kernel_rfl
end
def zfc:zEV:=zsp (zyY K0)
theorem zVI:Sd Tryz.prog E0 (zpg zfc):=mkS (l:=[]) trivial Tryz.func101 (by kernel_rfl) (zVH K0)
section
abbrev zFs:Env:=(En E0 false [])
abbrev zc6:Type:=(List z5) × (List z5) × Int
abbrev zSD:zc6→St:=fun (v0,v1,v5)=>St.mk [(0,AV.dat (Ty.sl zV) v0),(1,AV.dat (Ty.sl zV) v1),(5,AV.dat tI v5)] []
def zc7 (k0:zc6→Option (Bool × Unit)):zc6→Option (Bool × Unit):=fun (v0,v1,v5) =>
  bif decide (v5 < ((List.length v0):Int)) then inR v5 ((List.length v0):Int) (inR v5 ((List.length v1):Int) (bif !eqI zV (ix qQ v0 v5) (ix qQ v1 v5) then some (false,()) else k0 (v0,v1,wI (v5 + 1)))) else some (true,())
abbrev zyZ (K:Nat):zc6→Option (Bool × Unit):=iter (zc7) K
theorem zSE (K:Nat):∀ n,evV (zFs) K Tryz.f102 0 zj3 [1,1,0,1,0] [] zSD n = iter (zc7) n:=zm fun n0 (v0,v1,v5)=>by kernel_rfl
def zsq (L0:zc6→Option (Bool × Unit)):((List z5) × ((List z5) × Unit))→Option (Bool × Unit):=fun (x0,x1,()) =>
  bif ((List.length x0):Int) != ((List.length x1):Int) then some (false,()) else L0 (x0,x1,0)
theorem zVJ (K:Nat):evF (zFs) K Tryz.f102 0 zry zj3 = zsq (zyZ K):=tr1 (T:=zsq) (zSE K K) fun (x0,x1,())=>by kernel_rfl
end
def zfd:zEW:=zsq (zyZ K0)
theorem zVK:Sd Tryz.prog E0 (zph zfd):=mkS (l:=[]) trivial Tryz.func102 (by kernel_rfl) (zVJ K0)
section
abbrev zUA:Env:=(En E0 false [])
abbrev zlt:Type:=(List z3) × (List z3) × Int
abbrev z2W:zlt→St:=fun (v0,v1,v5)=>St.mk [(0,AV.dat (Ty.sl zI) v0),(1,AV.dat (Ty.sl zI) v1),(5,AV.dat tI v5)] []
def zlu (k0:zlt→Option (Bool × Unit)):zlt→Option (Bool × Unit):=fun (v0,v1,v5) =>
  bif decide (v5 < ((List.length v0):Int)) then inR v5 ((List.length v0):Int) (inR v5 ((List.length v1):Int) (bif !eqI zI (ix zL v0 v5) (ix zL v1 v5) then some (false,()) else k0 (v0,v1,wI (v5 + 1)))) else some (true,())
abbrev zO4 (K:Nat):zlt→Option (Bool × Unit):=iter (zlu) K
theorem z2X (K:Nat):∀ n,evV (zUA) K Tryz.f103 0 zwt [1,1,0,1,0] [] z2W n = iter (zlu) n:=zm fun n0 (v0,v1,v5)=>by kernel_rfl
def zJt (L0:zlt→Option (Bool × Unit)):((List z3) × ((List z3) × Unit))→Option (Bool × Unit):=fun (x0,x1,()) =>
  bif ((List.length x0):Int) != ((List.length x1):Int) then some (false,()) else L0 (x0,x1,0)
theorem z8m (K:Nat):evF (zUA) K Tryz.f103 0 zGF zwt = zJt (zO4 K):=tr1 (T:=zJt) (z2X K K) fun (x0,x1,())=>by kernel_rfl
end
def zqb:zTc:=zJt (zO4 K0)
theorem z8n:Sd Tryz.prog E0 (zCU zqb):=mkS (l:=[]) trivial Tryz.func103 (by kernel_rfl) (z8m K0)
section
abbrev zUB:Env:=(En E0 false [])
abbrev zlv:Type:=(List qh) × (List qh) × Int
abbrev z2Y:zlv→St:=fun (v0,v1,v5)=>St.mk [(0,AV.dat (Ty.sl zZ) v0),(1,AV.dat (Ty.sl zZ) v1),(5,AV.dat tI v5)] []
def zlw (k0:zlv→Option (Bool × Unit)):zlv→Option (Bool × Unit):=fun (v0,v1,v5) =>
  bif decide (v5 < ((List.length v0):Int)) then inR v5 ((List.length v0):Int) (inR v5 ((List.length v1):Int) (bif !eqI zZ (ix zaE v0 v5) (ix zaE v1 v5) then some (false,()) else k0 (v0,v1,wI (v5 + 1)))) else some (true,())
abbrev zO5 (K:Nat):zlv→Option (Bool × Unit):=iter (zlw) K
theorem z2Z (K:Nat):∀ n,evV (zUB) K Tryz.f104 0 zwu [1,1,0,1,0] [] z2Y n = iter (zlw) n:=zm fun n0 (v0,v1,v5)=>by kernel_rfl
def zJu (L0:zlv→Option (Bool × Unit)):((List qh) × ((List qh) × Unit))→Option (Bool × Unit):=fun (x0,x1,()) =>
  bif ((List.length x0):Int) != ((List.length x1):Int) then some (false,()) else L0 (x0,x1,0)
theorem z8o (K:Nat):evF (zUB) K Tryz.f104 0 zGG zwu = zJu (zO5 K):=tr1 (T:=zJu) (z2Z K K) fun (x0,x1,())=>by kernel_rfl
end
def zqc:zTd:=zJu (zO5 K0)
theorem z8p:Sd Tryz.prog E0 (zCV zqc):=mkS (l:=[]) trivial Tryz.func104 (by kernel_rfl) (z8o K0)
section
abbrev zUC:Env:=(En E0 false [])
abbrev zlx:Type:=(List zo) × (List zo) × Int
abbrev z20:zlx→St:=fun (v0,v1,v5)=>St.mk [(0,AV.dat (Ty.sl zu) v0),(1,AV.dat (Ty.sl zu) v1),(5,AV.dat tI v5)] []
def zly (k0:zlx→Option (Bool × Unit)):zlx→Option (Bool × Unit):=fun (v0,v1,v5) =>
  bif decide (v5 < ((List.length v0):Int)) then inR v5 ((List.length v0):Int) (inR v5 ((List.length v1):Int) (bif !eqI zu (ix qb v0 v5) (ix qb v1 v5) then some (false,()) else k0 (v0,v1,wI (v5 + 1)))) else some (true,())
abbrev zO6 (K:Nat):zlx→Option (Bool × Unit):=iter (zly) K
theorem z21 (K:Nat):∀ n,evV (zUC) K Tryz.f105 0 zwv [1,1,0,1,0] [] z20 n = iter (zly) n:=zm fun n0 (v0,v1,v5)=>by kernel_rfl
def zJv (L0:zlx→Option (Bool × Unit)):((List zo) × ((List zo) × Unit))→Option (Bool × Unit):=fun (x0,x1,()) =>
  bif ((List.length x0):Int) != ((List.length x1):Int) then some (false,()) else L0 (x0,x1,0)
theorem z8q (K:Nat):evF (zUC) K Tryz.f105 0 zGH zwv = zJv (zO6 K):=tr1 (T:=zJv) (z21 K K) fun (x0,x1,())=>by kernel_rfl
end
def zqd:zTe:=zJv (zO6 K0)
theorem z8r:Sd Tryz.prog E0 (zCW zqd):=mkS (l:=[]) trivial Tryz.func105 (by kernel_rfl) (z8q K0)
section
variable (vq:zEV) (vt:zEW) (za8:zTc) (za9:zTd) (zba:zTe)
abbrev zj9:Env:=(En E0 false [zpg vq,zph vt,zCU za8,zCV za9,zCW zba])
abbrev zc8:Type:=Int × zg × zg
abbrev zy0:zc8→St:=fun (v6,o0,o1)=>St.mk [(2,AV.bp 0 []),(3,AV.bp 1 []),(6,AV.dat tI v6)] [Obj.bx (AV.dat zh o0) false,Obj.bx (AV.dat zh o1) false]
abbrev zc9:Type:=Int × zg × zg
abbrev zSF:zc9→St:=fun (v5,o0,o1)=>St.mk [(2,AV.bp 0 []),(3,AV.bp 1 []),(5,AV.dat tI v5)] [Obj.bx (AV.dat zh o0) false,Obj.bx (AV.dat zh o1) false]
def zda (k1:zc8→Option (Bool × Unit)):zc8→Option (Bool × Unit):=fun (v6,o0,o1) =>
  bif decide (v6 < ((List.length o0.2.2.2.2.2.2.1):Int)) then inR v6 ((List.length o0.2.2.2.2.2.2.1):Int) (inR v6 ((List.length o1.2.2.2.2.2.2.1):Int) (bif !eqI zY (ix zki o0.2.2.2.2.2.2.1 v6) (ix zki o1.2.2.2.2.2.2.1 v6) then some (false,()) else k1 (wI (v6 + 1),o0,o1))) else some (true,())
abbrev zg6 (K:Nat):zc8→Option (Bool × Unit):=iter (zda) K
theorem zSG (K:Nat):∀ n,evV (zj9 vq vt za8 za9 zba) K Tryz.f38 0 zcA [1,1,1,1,0,1,0] [] zy0 n = iter (zda) n:=zm fun n1 (v6,o0,o1)=>by kernel_rfl
def zaT (L1:zc8→Option (Bool × Unit)) (k0:zc9→Option (Bool × Unit)):zc9→Option (Bool × Unit):=fun (v5,o0,o1) =>
  bif decide (v5 < ((List.length o0.2.2.2.2.2.1):Int)) then inR v5 ((List.length o0.2.2.2.2.2.1):Int) (inR v5 ((List.length o1.2.2.2.2.2.1):Int) (bif !eqI (Ty.arr 4 tU) (List.getD o0.2.2.2.2.2.1 (Int.toNat v5) (zb (Ty.arr 4 tU))) (List.getD o1.2.2.2.2.2.1 (Int.toNat v5) (zb (Ty.arr 4 tU))) then some (false,()) else k0 (wI (v5 + 1),o0,o1))) else L1 (0,o0,o1)
abbrev zoC (K:Nat):zc9→Option (Bool × Unit):=iter (fun k0=>zaT (zg6 K) k0) K
theorem zSH (K:Nat):∀ n,evV (zj9 vq vt za8 za9 zba) K Tryz.f38 0 zcA [1,1,1,0,1,0] [] zSF n = iter (fun k0=>zaT (zg6 K) k0) n:=qX (B:=fun L1 k0=>zaT L1 k0) (V1:=fun n0=>evV (zj9 vq vt za8 za9 zba) K Tryz.f38 0 zcA [1,1,1,1,0,1,0] [] zy0 K) (W1:=fun k0=>(zg6 K)) (fun n0=>zSG vq vt za8 za9 zba K K) fun n0 (v5,o0,o1)=>by kernel_rfl
def zka (L0:zc9→Option (Bool × Unit)):(zg × (zg × Unit))→Option (Bool × Unit):=fun (x0,x1,()) =>
  Option.bind (vq (x0.1,x1.1,())) fun q0=>bif q0.1 then Option.bind (vt (x0.2.1,x1.2.1,())) fun q1=>bif q1.1 then Option.bind (za8 (x0.2.2.1,x1.2.2.1,())) fun q2=>bif q2.1 then Option.bind (za9 (x0.2.2.2.1,x1.2.2.2.1,())) fun q3=>bif q3.1 then Option.bind (zba (x0.2.2.2.2.1,x1.2.2.2.2.1,())) fun q4=>bif q4.1 then bif ((List.length x0.2.2.2.2.2.1):Int) != ((List.length x1.2.2.2.2.2.1):Int) then some (false,()) else bif ((List.length x0.2.2.2.2.2.2.1):Int) != ((List.length x1.2.2.2.2.2.2.1):Int) then some (false,()) else bif !eqI (Ty.arr 4 tU) x0.2.2.2.2.2.2.2.1 x1.2.2.2.2.2.2.2.1 then some (false,()) else bif !eqI (Ty.arr 4 tU) x0.2.2.2.2.2.2.2.2.1 x1.2.2.2.2.2.2.2.2.1 then some (false,()) else L0 (0,x0,x1) else some (false,()) else some (false,()) else some (false,()) else some (false,()) else some (false,())
theorem zVL (K:Nat):evF (zj9 vq vt za8 za9 zba) K Tryz.f38 0 zrp zcA = zka vq vt za8 za9 zba (zoC K):=tr1 (T:=zka vq vt za8 za9 zba) (zSH vq vt za8 za9 zba K K) fun (x0,x1,())=>by kernel_rfl
end
def yJ:zET:=zka zfc zfd zqb zqc zqd (zoC K0)
theorem zVM:Sd Tryz.prog E0 (zpd yJ):=mkS (l:=[zpg zfc,zph zfd,zCU zqb,zCV zqc,zCW zqd]) ⟨zVI,zVK,z8n,z8p,z8r,trivial⟩ Tryz.func38 (by kernel_rfl) (zVL zfc zfd zqb zqc zqd K0)
section
variable (zbb:zS3) (zbc:zS4) (zbd:zS5) (jT:zET)
abbrev zyj:Env:=(En E0 false [zCn zbb,zCo zbc,zCp zbd,zpd jT])
abbrev zlz:Type:=Int × ze × ze
abbrev zO7:zlz→St:=fun (v6,o0,o1)=>St.mk [(2,AV.bp 0 []),(3,AV.bp 1 []),(6,AV.dat tI v6)] [Obj.bx (AV.dat zW o0) false,Obj.bx (AV.dat zW o1) false]
abbrev zlA:Type:=Int × ze × ze
abbrev z22:zlA→St:=fun (v5,o0,o1)=>St.mk [(2,AV.bp 0 []),(3,AV.bp 1 []),(5,AV.dat tI v5)] [Obj.bx (AV.dat zW o0) false,Obj.bx (AV.dat zW o1) false]
def zlB (k1:zlz→Option (Bool × Unit)):zlz→Option (Bool × Unit):=fun (v6,o0,o1) =>
  bif decide (v6 < ((List.length o0.2.2.2.2.2.1):Int)) then inR v6 ((List.length o0.2.2.2.2.2.1):Int) (inR v6 ((List.length o1.2.2.2.2.2.1):Int) (bif ix (0:Int) o0.2.2.2.2.2.1 v6 != ix (0:Int) o1.2.2.2.2.2.1 v6 then some (false,()) else k1 (wI (v6 + 1),o0,o1))) else some (true,())
abbrev zq2 (K:Nat):zlz→Option (Bool × Unit):=iter (zlB) K
theorem z23 (K:Nat):∀ n,evV (zyj zbb zbc zbd jT) K Tryz.f10 0 zkj [1,1,1,0,1,0] [] zO7 n = iter (zlB) n:=zm fun n1 (v6,o0,o1)=>by kernel_rfl
def zf0 (L1:zlz→Option (Bool × Unit)) (k0:zlA→Option (Bool × Unit)):zlA→Option (Bool × Unit):=fun (v5,o0,o1) =>
  bif decide (v5 < ((List.length o0.2.1):Int)) then inR v5 ((List.length o0.2.1):Int) (inR v5 ((List.length o1.2.1):Int) (Option.bind (jT (ix za o0.2.1 v5,ix za o1.2.1 v5,())) fun q3=>bif q3.1 then k0 (wI (v5 + 1),o0,o1) else some (false,()))) else L1 (0,o0,o1)
abbrev zAW (K:Nat):zlA→Option (Bool × Unit):=iter (fun k0=>zf0 jT (zq2 K) k0) K
theorem z24 (K:Nat):∀ n,evV (zyj zbb zbc zbd jT) K Tryz.f10 0 zkj [1,1,0,1,0] [] z22 n = iter (fun k0=>zf0 jT (zq2 K) k0) n:=qX (B:=fun L1 k0=>zf0 jT L1 k0) (V1:=fun n0=>evV (zyj zbb zbc zbd jT) K Tryz.f10 0 zkj [1,1,1,0,1,0] [] zO7 K) (W1:=fun k0=>(zq2 K)) (fun n0=>z23 zbb zbc zbd jT K K) fun n0 (v5,o0,o1)=>by kernel_rfl
def zyk (L0:zlA→Option (Bool × Unit)):(ze × (ze × Unit))→Option (Bool × Unit):=fun (x0,x1,()) =>
  bif x0.1 != x1.1 then some (false,()) else bif ((List.length x0.2.1):Int) != ((List.length x1.2.1):Int) then some (false,()) else bif ((List.length x0.2.2.2.2.2.1):Int) != ((List.length x1.2.2.2.2.2.1):Int) then some (false,()) else Option.bind (zbb (x0.2.2.1,x1.2.2.1,())) fun q0=>bif q0.1 then Option.bind (zbc (x0.2.2.2.1,x1.2.2.2.1,())) fun q1=>bif q1.1 then Option.bind (zbd (x0.2.2.2.2.1,x1.2.2.2.2.1,())) fun q2=>bif q2.1 then L0 (0,x0,x1) else some (false,()) else some (false,()) else some (false,())
theorem z8s (K:Nat):evF (zyj zbb zbc zbd jT) K Tryz.f10 0 zF3 zkj = zyk zbb zbc zbd (zAW jT K):=tr1 (T:=zyk zbb zbc zbd) (z24 zbb zbc zbd jT K K) fun (x0,x1,())=>by kernel_rfl
end
def zcu:zS1:=zyk zp8 zp9 zqa (zAW yJ K0)
theorem z8t:Sd Tryz.prog E0 (zCa zcu):=mkS (l:=[zCn zp8,zCo zp9,zCp zqa,zpd yJ]) ⟨z8h,z8j,z8l,zVM,trivial⟩ Tryz.func10 (by kernel_rfl) (z8s zp8 zp9 zqa yJ K0)
section
abbrev zsU:Env:=(En E0 true [])
abbrev zng:Type:=Int × Int × zd × List (List Int) × Nat × List Int
abbrev zRQ:zng→St:=fun (v4,v6,o0,o1,c1,o2)=>St.mk [(1,AV.bp 0 []),(3,AV.ow 1),(4,AV.dat tI v4),(5,AV.ow 2),(6,AV.dat tI v6)] [Obj.bx (AV.dat zC o0) false,Obj.drow (Ty.sl tI) o1 c1,Obj.row tI o2 false]
abbrev zeT:Type:=Int × zd × List (List Int) × Nat
abbrev zRR:zeT→St:=fun (v4,o0,o1,c1)=>St.mk [(1,AV.bp 0 []),(3,AV.ow 1),(4,AV.dat tI v4)] [Obj.bx (AV.dat zC o0) false,Obj.drow (Ty.sl tI) o1 c1]
def znh (k0:zeT→Option ((List (List Int)) × Unit)) (k1:zng→Option ((List (List Int)) × Unit)):zng→Option ((List (List Int)) × Unit):=fun (v4,v6,o0,o1,c1,o2) =>
  bif decide (v6 < ((List.length o0.2.2.1):Int)) then inR v4 ((List.length o0.2.2.2.1):Int) (bif (ix qj o0.2.2.2.1 v4).2.1 == v6 then bif decide (List.length o2 + List.length (zk (List.replicate 1 (0:Int)) 0 2) ≤ lim) then k1 (v4,wI (v6 + 1),o0,o1,c1,o2 ++ zk (List.replicate 1 (0:Int)) 0 2) else none else bif decide (List.length o2 + List.length (zk (List.replicate 1 (0:Int)) 0 0) ≤ lim) then k1 (v4,wI (v6 + 1),o0,o1,c1,o2 ++ zk (List.replicate 1 (0:Int)) 0 0) else none) else bif decide (List.length o1 + List.length [o2] ≤ lim) then bif decide (c1 = List.length o1) then k0 (wI (v4 + 1),o0,o1 ++ [o2],c1 + (0 + 1)) else none else none
abbrev zni (K:Nat) (k0:zeT→Option ((List (List Int)) × Unit)):zng→Option ((List (List Int)) × Unit):=iter (fun k1=>znh k0 k1) K
theorem z5A (K:Nat) (n0:Nat):∀ n,evV (zsU) K Tryz.f39 4 zjl [1,1,0,1,0,0,1,0,0,1,0,1,0] [n0] zRQ n = iter (fun k1=>znh (evV (zsU) K Tryz.f39 4 zjl [1,1,0,1,0] [] zRR n0) k1) n:=zm fun n1 (v4,v6,o0,o1,c1,o2)=>by kernel_rfl
def zhS (L1:zng→Option ((List (List Int)) × Unit)) (k0:zeT→Option ((List (List Int)) × Unit)):zeT→Option ((List (List Int)) × Unit):=fun (v4,o0,o1,c1) =>
  bif decide (v4 < ((List.length o0.2.2.2.1):Int)) then L1 (v4,0,o0,o1,c1,[]) else bif decide (c1 = List.length o1) then some (o1,()) else none
abbrev zRS (K:Nat):zeT→Option ((List (List Int)) × Unit):=iter (fun k0=>zhS (zni K k0) k0) K
theorem z5B (K:Nat):∀ n,evV (zsU) K Tryz.f39 4 zjl [1,1,0,1,0] [] zRR n = iter (fun k0=>zhS (zni K k0) k0) n:=qX (B:=fun L1 k0=>zhS L1 k0) (V1:=fun n0=>evV (zsU) K Tryz.f39 4 zjl [1,1,0,1,0,0,1,0,0,1,0,1,0] [n0] zRQ K) (W1:=fun k0=>(zni K k0)) (fun n0=>z5A K n0 K) fun n0 (v4,o0,o1,c1)=>by kernel_rfl
def zNA (L0:zeT→Option ((List (List Int)) × Unit)):(zd × Unit)→Option ((List (List Int)) × Unit):=fun (x0,()) =>
  L0 (0,x0,[],0)
theorem qad (K:Nat):evF (zsU) K Tryz.f39 4 zLK zjl = zNA (zRS K):=tr1 (T:=zNA) (z5B K K) fun (x0,())=>by kernel_rfl
end
def zsV:zV3:=zNA (zRS K0)
theorem qae:Sd Tryz.prog E0 (zGi zsV):=mkS (l:=[]) trivial Tryz.func39 (by kernel_rfl) (qad K0)
end
end Go.Proofs.YtaokpakfhdeiiaaGreatDoor
end
section
namespace Go.Proofs.YtaokpakfhdeiiaaGreatDoor
open Go.Ev
noncomputable section
section
variable (zA:zV3)
abbrev zK:Env:=(Ej E0 true [10] [zGi zA])
abbrev znj:Type:=Int × Int × zd × Int × Int × (List Int) × (List Int) × List zg × Nat × List (List Int) × Nat × List zj × List zy × List Int × List zg × Nat × List (List Int) × Nat × List zj × List zy × List Int × List qP × List z5 × List z3 × List qh × List zo × List (List Int) × List qe
abbrev zRT:znj→St:=fun (v4,v12,o0,o1_0,o2_0,o3_7,o3_8,o4,c4,o5,c5,o6,o7,o8,o9,c9,o10,c10,o11,o12,o13,o14,o15,o16,o17,o18,o19,o20)=>St.mk [(1,AV.bp 0 []),(2,AV.bp 1 []),(3,AV.bp 2 []),(4,AV.dat tI v4),(6,AV.bp 3 []),(12,AV.dat tI v12)] [Obj.bx (AV.dat zC o0) false,Obj.bx (AV.fld (Ty.pair tU (Ty.pair (Ty.sl zh) (Ty.pair (Ty.sl (Ty.sl tI)) (Ty.pair (Ty.sl zi) (Ty.pair (Ty.sl zl) (Ty.pair (Ty.sl tI) Ty.unit)))))) [AV.dat tU o1_0,AV.ow 4,AV.ow 5,AV.ow 6,AV.ow 7,AV.ow 8]) false,Obj.bx (AV.fld (Ty.pair tU (Ty.pair (Ty.sl zh) (Ty.pair (Ty.sl (Ty.sl tI)) (Ty.pair (Ty.sl zi) (Ty.pair (Ty.sl zl) (Ty.pair (Ty.sl tI) Ty.unit)))))) [AV.dat tU o2_0,AV.ow 9,AV.ow 10,AV.ow 11,AV.ow 12,AV.ow 13]) false,Obj.bx (AV.fld (Ty.pair (Ty.sl zX) (Ty.pair (Ty.sl zV) (Ty.pair (Ty.sl zI) (Ty.pair (Ty.sl zZ) (Ty.pair (Ty.sl zu) (Ty.pair (Ty.sl (Ty.arr 4 tU)) (Ty.pair (Ty.sl jJ) (Ty.pair (Ty.arr 4 tU) (Ty.pair (Ty.arr 4 tU) Ty.unit))))))))) [AV.ow 14,AV.ow 15,AV.ow 16,AV.ow 17,AV.ow 18,AV.ow 19,AV.ow 20,AV.dat (Ty.arr 4 tU) o3_7,AV.dat (Ty.arr 4 tU) o3_8]) false,Obj.drow zh o4 c4,Obj.drow (Ty.sl tI) o5 c5,Obj.row zi o6 false,Obj.row zl o7 false,Obj.row tI o8 false,Obj.drow zh o9 c9,Obj.drow (Ty.sl tI) o10 c10,Obj.row zi o11 false,Obj.row zl o12 false,Obj.row tI o13 false,Obj.row zX o14 false,Obj.row zV o15 false,Obj.row zI o16 false,Obj.row zZ o17 false,Obj.row zu o18 false,Obj.row (Ty.arr 4 tU) o19 false,Obj.row jJ o20 false]
abbrev znk:Type:=Int × zd × Int × Int × List zg × Nat × List (List Int) × Nat × List zj × List zy × List Int × List zg × Nat × List (List Int) × Nat × List zj × List zy × List Int
abbrev zRU:znk→St:=fun (v14,o0,o1_0,o2_0,o3,c3,o4,c4,o5,o6,o7,o8,c8,o9,c9,o10,o11,o12)=>St.mk [(1,AV.bp 0 []),(2,AV.bp 1 []),(3,AV.bp 2 []),(14,AV.dat tI v14)] [Obj.bx (AV.dat zC o0) false,Obj.bx (AV.fld (Ty.pair tU (Ty.pair (Ty.sl zh) (Ty.pair (Ty.sl (Ty.sl tI)) (Ty.pair (Ty.sl zi) (Ty.pair (Ty.sl zl) (Ty.pair (Ty.sl tI) Ty.unit)))))) [AV.dat tU o1_0,AV.ow 3,AV.ow 4,AV.ow 5,AV.ow 6,AV.ow 7]) false,Obj.bx (AV.fld (Ty.pair tU (Ty.pair (Ty.sl zh) (Ty.pair (Ty.sl (Ty.sl tI)) (Ty.pair (Ty.sl zi) (Ty.pair (Ty.sl zl) (Ty.pair (Ty.sl tI) Ty.unit)))))) [AV.dat tU o2_0,AV.ow 8,AV.ow 9,AV.ow 10,AV.ow 11,AV.ow 12]) false,Obj.drow zh o3 c3,Obj.drow (Ty.sl tI) o4 c4,Obj.row zi o5 false,Obj.row zl o6 false,Obj.row tI o7 false,Obj.drow zh o8 c8,Obj.drow (Ty.sl tI) o9 c9,Obj.row zi o10 false,Obj.row zl o11 false,Obj.row tI o12 false]
abbrev ztw:Type:=Int × Int × zd × Int × Int × vU × (List Int) × (List Int) × List zg × Nat × List (List Int) × Nat × List zj × List zy × List Int × List zg × Nat × List (List Int) × Nat × List zj × List zy × List Int × List qP × List z5 × List z3 × List qh × List zo × List (List Int) × List qe
abbrev zRV:ztw→St:=fun (v4,v7,o0,o1_0,o2_0,o3,o4_7,o4_8,o5,c5,o6,c6,o7,o8,o9,o10,c10,o11,c11,o12,o13,o14,o15,o16,o17,o18,o19,o20,o21)=>St.mk [(1,AV.bp 0 []),(2,AV.bp 1 []),(3,AV.bp 2 []),(4,AV.dat tI v4),(5,AV.bp 3 []),(6,AV.bp 4 []),(7,AV.dat tI v7)] [Obj.bx (AV.dat zC o0) false,Obj.bx (AV.fld (Ty.pair tU (Ty.pair (Ty.sl zh) (Ty.pair (Ty.sl (Ty.sl tI)) (Ty.pair (Ty.sl zi) (Ty.pair (Ty.sl zl) (Ty.pair (Ty.sl tI) Ty.unit)))))) [AV.dat tU o1_0,AV.ow 5,AV.ow 6,AV.ow 7,AV.ow 8,AV.ow 9]) false,Obj.bx (AV.fld (Ty.pair tU (Ty.pair (Ty.sl zh) (Ty.pair (Ty.sl (Ty.sl tI)) (Ty.pair (Ty.sl zi) (Ty.pair (Ty.sl zl) (Ty.pair (Ty.sl tI) Ty.unit)))))) [AV.dat tU o2_0,AV.ow 10,AV.ow 11,AV.ow 12,AV.ow 13,AV.ow 14]) false,Obj.bx (AV.dat zaW o3) false,Obj.bx (AV.fld (Ty.pair (Ty.sl zX) (Ty.pair (Ty.sl zV) (Ty.pair (Ty.sl zI) (Ty.pair (Ty.sl zZ) (Ty.pair (Ty.sl zu) (Ty.pair (Ty.sl (Ty.arr 4 tU)) (Ty.pair (Ty.sl jJ) (Ty.pair (Ty.arr 4 tU) (Ty.pair (Ty.arr 4 tU) Ty.unit))))))))) [AV.ow 15,AV.ow 16,AV.ow 17,AV.ow 18,AV.ow 19,AV.ow 20,AV.ow 21,AV.dat (Ty.arr 4 tU) o4_7,AV.dat (Ty.arr 4 tU) o4_8]) false,Obj.drow zh o5 c5,Obj.drow (Ty.sl tI) o6 c6,Obj.row zi o7 false,Obj.row zl o8 false,Obj.row tI o9 false,Obj.drow zh o10 c10,Obj.drow (Ty.sl tI) o11 c11,Obj.row zi o12 false,Obj.row zl o13 false,Obj.row tI o14 false,Obj.row zX o15 false,Obj.row zV o16 false,Obj.row zI o17 false,Obj.row zZ o18 false,Obj.row zu o19 false,Obj.row (Ty.arr 4 tU) o20 false,Obj.row jJ o21 false]
abbrev znl:Type:=Int × Int × zd × Int × Int × vU × (List Int) × (List Int) × List zg × Nat × List (List Int) × Nat × List zj × List zy × List Int × List zg × Nat × List (List Int) × Nat × List zj × List zy × List Int × List qP × List z5 × List z3 × List qh × List zo × List (List Int) × List qe
abbrev zRW:znl→St:=fun (v4,v11,o0,o1_0,o2_0,o3,o4_7,o4_8,o5,c5,o6,c6,o7,o8,o9,o10,c10,o11,c11,o12,o13,o14,o15,o16,o17,o18,o19,o20,o21)=>St.mk [(1,AV.bp 0 []),(2,AV.bp 1 []),(3,AV.bp 2 []),(4,AV.dat tI v4),(5,AV.bp 3 []),(6,AV.bp 4 []),(11,AV.dat tI v11)] [Obj.bx (AV.dat zC o0) false,Obj.bx (AV.fld (Ty.pair tU (Ty.pair (Ty.sl zh) (Ty.pair (Ty.sl (Ty.sl tI)) (Ty.pair (Ty.sl zi) (Ty.pair (Ty.sl zl) (Ty.pair (Ty.sl tI) Ty.unit)))))) [AV.dat tU o1_0,AV.ow 5,AV.ow 6,AV.ow 7,AV.ow 8,AV.ow 9]) false,Obj.bx (AV.fld (Ty.pair tU (Ty.pair (Ty.sl zh) (Ty.pair (Ty.sl (Ty.sl tI)) (Ty.pair (Ty.sl zi) (Ty.pair (Ty.sl zl) (Ty.pair (Ty.sl tI) Ty.unit)))))) [AV.dat tU o2_0,AV.ow 10,AV.ow 11,AV.ow 12,AV.ow 13,AV.ow 14]) false,Obj.bx (AV.dat zaW o3) false,Obj.bx (AV.fld (Ty.pair (Ty.sl zX) (Ty.pair (Ty.sl zV) (Ty.pair (Ty.sl zI) (Ty.pair (Ty.sl zZ) (Ty.pair (Ty.sl zu) (Ty.pair (Ty.sl (Ty.arr 4 tU)) (Ty.pair (Ty.sl jJ) (Ty.pair (Ty.arr 4 tU) (Ty.pair (Ty.arr 4 tU) Ty.unit))))))))) [AV.ow 15,AV.ow 16,AV.ow 17,AV.ow 18,AV.ow 19,AV.ow 20,AV.ow 21,AV.dat (Ty.arr 4 tU) o4_7,AV.dat (Ty.arr 4 tU) o4_8]) false,Obj.drow zh o5 c5,Obj.drow (Ty.sl tI) o6 c6,Obj.row zi o7 false,Obj.row zl o8 false,Obj.row tI o9 false,Obj.drow zh o10 c10,Obj.drow (Ty.sl tI) o11 c11,Obj.row zi o12 false,Obj.row zl o13 false,Obj.row tI o14 false,Obj.row zX o15 false,Obj.row zV o16 false,Obj.row zI o17 false,Obj.row zZ o18 false,Obj.row zu o19 false,Obj.row (Ty.arr 4 tU) o20 false,Obj.row jJ o21 false]
abbrev znm:Type:=Int × zd × Int × Int × List zg × Nat × List (List Int) × Nat × List zj × List zy × List Int × List zg × Nat × List (List Int) × Nat × List zj × List zy × List Int
abbrev zRX:znm→St:=fun (v13,o0,o1_0,o2_0,o3,c3,o4,c4,o5,o6,o7,o8,c8,o9,c9,o10,o11,o12)=>St.mk [(1,AV.bp 0 []),(2,AV.bp 1 []),(3,AV.bp 2 []),(13,AV.dat tI v13)] [Obj.bx (AV.dat zC o0) false,Obj.bx (AV.fld (Ty.pair tU (Ty.pair (Ty.sl zh) (Ty.pair (Ty.sl (Ty.sl tI)) (Ty.pair (Ty.sl zi) (Ty.pair (Ty.sl zl) (Ty.pair (Ty.sl tI) Ty.unit)))))) [AV.dat tU o1_0,AV.ow 3,AV.ow 4,AV.ow 5,AV.ow 6,AV.ow 7]) false,Obj.bx (AV.fld (Ty.pair tU (Ty.pair (Ty.sl zh) (Ty.pair (Ty.sl (Ty.sl tI)) (Ty.pair (Ty.sl zi) (Ty.pair (Ty.sl zl) (Ty.pair (Ty.sl tI) Ty.unit)))))) [AV.dat tU o2_0,AV.ow 8,AV.ow 9,AV.ow 10,AV.ow 11,AV.ow 12]) false,Obj.drow zh o3 c3,Obj.drow (Ty.sl tI) o4 c4,Obj.row zi o5 false,Obj.row zl o6 false,Obj.row tI o7 false,Obj.drow zh o8 c8,Obj.drow (Ty.sl tI) o9 c9,Obj.row zi o10 false,Obj.row zl o11 false,Obj.row tI o12 false]
abbrev znn:Type:=Int × Int × zd × Int × Int × vU × (List Int) × (List Int) × List zg × Nat × List (List Int) × Nat × List zj × List zy × List Int × List zg × Nat × List (List Int) × Nat × List zj × List zy × List Int × List qP × List z5 × List z3 × List qh × List zo × List (List Int) × List qe
abbrev zRY:znn→St:=fun (v4,v10,o0,o1_0,o2_0,o3,o4_7,o4_8,o5,c5,o6,c6,o7,o8,o9,o10,c10,o11,c11,o12,o13,o14,o15,o16,o17,o18,o19,o20,o21)=>St.mk [(1,AV.bp 0 []),(2,AV.bp 1 []),(3,AV.bp 2 []),(4,AV.dat tI v4),(5,AV.bp 3 []),(6,AV.bp 4 []),(10,AV.dat tI v10)] [Obj.bx (AV.dat zC o0) false,Obj.bx (AV.fld (Ty.pair tU (Ty.pair (Ty.sl zh) (Ty.pair (Ty.sl (Ty.sl tI)) (Ty.pair (Ty.sl zi) (Ty.pair (Ty.sl zl) (Ty.pair (Ty.sl tI) Ty.unit)))))) [AV.dat tU o1_0,AV.ow 5,AV.ow 6,AV.ow 7,AV.ow 8,AV.ow 9]) false,Obj.bx (AV.fld (Ty.pair tU (Ty.pair (Ty.sl zh) (Ty.pair (Ty.sl (Ty.sl tI)) (Ty.pair (Ty.sl zi) (Ty.pair (Ty.sl zl) (Ty.pair (Ty.sl tI) Ty.unit)))))) [AV.dat tU o2_0,AV.ow 10,AV.ow 11,AV.ow 12,AV.ow 13,AV.ow 14]) false,Obj.bx (AV.dat zaW o3) false,Obj.bx (AV.fld (Ty.pair (Ty.sl zX) (Ty.pair (Ty.sl zV) (Ty.pair (Ty.sl zI) (Ty.pair (Ty.sl zZ) (Ty.pair (Ty.sl zu) (Ty.pair (Ty.sl (Ty.arr 4 tU)) (Ty.pair (Ty.sl jJ) (Ty.pair (Ty.arr 4 tU) (Ty.pair (Ty.arr 4 tU) Ty.unit))))))))) [AV.ow 15,AV.ow 16,AV.ow 17,AV.ow 18,AV.ow 19,AV.ow 20,AV.ow 21,AV.dat (Ty.arr 4 tU) o4_7,AV.dat (Ty.arr 4 tU) o4_8]) false,Obj.drow zh o5 c5,Obj.drow (Ty.sl tI) o6 c6,Obj.row zi o7 false,Obj.row zl o8 false,Obj.row tI o9 false,Obj.drow zh o10 c10,Obj.drow (Ty.sl tI) o11 c11,Obj.row zi o12 false,Obj.row zl o13 false,Obj.row tI o14 false,Obj.row zX o15 false,Obj.row zV o16 false,Obj.row zI o17 false,Obj.row zZ o18 false,Obj.row zu o19 false,Obj.row (Ty.arr 4 tU) o20 false,Obj.row jJ o21 false]
abbrev zno:Type:=Int × Int × zd × Int × Int × vU × (List Int) × (List Int) × List zg × Nat × List (List Int) × Nat × List zj × List zy × List Int × List zg × Nat × List (List Int) × Nat × List zj × List zy × List Int × List qP × List z5 × List z3 × List qh × List zo × List (List Int) × List qe
abbrev zRZ:zno→St:=fun (v4,v9,o0,o1_0,o2_0,o3,o4_7,o4_8,o5,c5,o6,c6,o7,o8,o9,o10,c10,o11,c11,o12,o13,o14,o15,o16,o17,o18,o19,o20,o21)=>St.mk [(1,AV.bp 0 []),(2,AV.bp 1 []),(3,AV.bp 2 []),(4,AV.dat tI v4),(5,AV.bp 3 []),(6,AV.bp 4 []),(9,AV.dat tI v9)] [Obj.bx (AV.dat zC o0) false,Obj.bx (AV.fld (Ty.pair tU (Ty.pair (Ty.sl zh) (Ty.pair (Ty.sl (Ty.sl tI)) (Ty.pair (Ty.sl zi) (Ty.pair (Ty.sl zl) (Ty.pair (Ty.sl tI) Ty.unit)))))) [AV.dat tU o1_0,AV.ow 5,AV.ow 6,AV.ow 7,AV.ow 8,AV.ow 9]) false,Obj.bx (AV.fld (Ty.pair tU (Ty.pair (Ty.sl zh) (Ty.pair (Ty.sl (Ty.sl tI)) (Ty.pair (Ty.sl zi) (Ty.pair (Ty.sl zl) (Ty.pair (Ty.sl tI) Ty.unit)))))) [AV.dat tU o2_0,AV.ow 10,AV.ow 11,AV.ow 12,AV.ow 13,AV.ow 14]) false,Obj.bx (AV.dat zaW o3) false,Obj.bx (AV.fld (Ty.pair (Ty.sl zX) (Ty.pair (Ty.sl zV) (Ty.pair (Ty.sl zI) (Ty.pair (Ty.sl zZ) (Ty.pair (Ty.sl zu) (Ty.pair (Ty.sl (Ty.arr 4 tU)) (Ty.pair (Ty.sl jJ) (Ty.pair (Ty.arr 4 tU) (Ty.pair (Ty.arr 4 tU) Ty.unit))))))))) [AV.ow 15,AV.ow 16,AV.ow 17,AV.ow 18,AV.ow 19,AV.ow 20,AV.ow 21,AV.dat (Ty.arr 4 tU) o4_7,AV.dat (Ty.arr 4 tU) o4_8]) false,Obj.drow zh o5 c5,Obj.drow (Ty.sl tI) o6 c6,Obj.row zi o7 false,Obj.row zl o8 false,Obj.row tI o9 false,Obj.drow zh o10 c10,Obj.drow (Ty.sl tI) o11 c11,Obj.row zi o12 false,Obj.row zl o13 false,Obj.row tI o14 false,Obj.row zX o15 false,Obj.row zV o16 false,Obj.row zI o17 false,Obj.row zZ o18 false,Obj.row zu o19 false,Obj.row (Ty.arr 4 tU) o20 false,Obj.row jJ o21 false]
abbrev znp:Type:=Int × Int × zd × Int × Int × vU × (List Int) × (List Int) × List zg × Nat × List (List Int) × Nat × List zj × List zy × List Int × List zg × Nat × List (List Int) × Nat × List zj × List zy × List Int × List qP × List z5 × List z3 × List qh × List zo × List (List Int) × List qe
abbrev zR0:znp→St:=fun (v4,v8,o0,o1_0,o2_0,o3,o4_7,o4_8,o5,c5,o6,c6,o7,o8,o9,o10,c10,o11,c11,o12,o13,o14,o15,o16,o17,o18,o19,o20,o21)=>St.mk [(1,AV.bp 0 []),(2,AV.bp 1 []),(3,AV.bp 2 []),(4,AV.dat tI v4),(5,AV.bp 3 []),(6,AV.bp 4 []),(8,AV.dat tI v8)] [Obj.bx (AV.dat zC o0) false,Obj.bx (AV.fld (Ty.pair tU (Ty.pair (Ty.sl zh) (Ty.pair (Ty.sl (Ty.sl tI)) (Ty.pair (Ty.sl zi) (Ty.pair (Ty.sl zl) (Ty.pair (Ty.sl tI) Ty.unit)))))) [AV.dat tU o1_0,AV.ow 5,AV.ow 6,AV.ow 7,AV.ow 8,AV.ow 9]) false,Obj.bx (AV.fld (Ty.pair tU (Ty.pair (Ty.sl zh) (Ty.pair (Ty.sl (Ty.sl tI)) (Ty.pair (Ty.sl zi) (Ty.pair (Ty.sl zl) (Ty.pair (Ty.sl tI) Ty.unit)))))) [AV.dat tU o2_0,AV.ow 10,AV.ow 11,AV.ow 12,AV.ow 13,AV.ow 14]) false,Obj.bx (AV.dat zaW o3) false,Obj.bx (AV.fld (Ty.pair (Ty.sl zX) (Ty.pair (Ty.sl zV) (Ty.pair (Ty.sl zI) (Ty.pair (Ty.sl zZ) (Ty.pair (Ty.sl zu) (Ty.pair (Ty.sl (Ty.arr 4 tU)) (Ty.pair (Ty.sl jJ) (Ty.pair (Ty.arr 4 tU) (Ty.pair (Ty.arr 4 tU) Ty.unit))))))))) [AV.ow 15,AV.ow 16,AV.ow 17,AV.ow 18,AV.ow 19,AV.ow 20,AV.ow 21,AV.dat (Ty.arr 4 tU) o4_7,AV.dat (Ty.arr 4 tU) o4_8]) false,Obj.drow zh o5 c5,Obj.drow (Ty.sl tI) o6 c6,Obj.row zi o7 false,Obj.row zl o8 false,Obj.row tI o9 false,Obj.drow zh o10 c10,Obj.drow (Ty.sl tI) o11 c11,Obj.row zi o12 false,Obj.row zl o13 false,Obj.row tI o14 false,Obj.row zX o15 false,Obj.row zV o16 false,Obj.row zI o17 false,Obj.row zZ o18 false,Obj.row zu o19 false,Obj.row (Ty.arr 4 tU) o20 false,Obj.row jJ o21 false]
abbrev zeU:Type:=Int × Int × zd × Int × Int × vU × (List Int) × (List Int) × List zg × Nat × List (List Int) × Nat × List zj × List zy × List Int × List zg × Nat × List (List Int) × Nat × List zj × List zy × List Int × List qP × List z5 × List z3 × List qh × List zo × List (List Int) × List qe
abbrev zEJ:zeU→St:=fun (v4,v7,o0,o1_0,o2_0,o3,o4_7,o4_8,o5,c5,o6,c6,o7,o8,o9,o10,c10,o11,c11,o12,o13,o14,o15,o16,o17,o18,o19,o20,o21)=>St.mk [(1,AV.bp 0 []),(2,AV.bp 1 []),(3,AV.bp 2 []),(4,AV.dat tI v4),(5,AV.bp 3 []),(6,AV.bp 4 []),(7,AV.dat tI v7)] [Obj.bx (AV.dat zC o0) false,Obj.bx (AV.fld (Ty.pair tU (Ty.pair (Ty.sl zh) (Ty.pair (Ty.sl (Ty.sl tI)) (Ty.pair (Ty.sl zi) (Ty.pair (Ty.sl zl) (Ty.pair (Ty.sl tI) Ty.unit)))))) [AV.dat tU o1_0,AV.ow 5,AV.ow 6,AV.ow 7,AV.ow 8,AV.ow 9]) false,Obj.bx (AV.fld (Ty.pair tU (Ty.pair (Ty.sl zh) (Ty.pair (Ty.sl (Ty.sl tI)) (Ty.pair (Ty.sl zi) (Ty.pair (Ty.sl zl) (Ty.pair (Ty.sl tI) Ty.unit)))))) [AV.dat tU o2_0,AV.ow 10,AV.ow 11,AV.ow 12,AV.ow 13,AV.ow 14]) false,Obj.bx (AV.dat zaW o3) false,Obj.bx (AV.fld (Ty.pair (Ty.sl zX) (Ty.pair (Ty.sl zV) (Ty.pair (Ty.sl zI) (Ty.pair (Ty.sl zZ) (Ty.pair (Ty.sl zu) (Ty.pair (Ty.sl (Ty.arr 4 tU)) (Ty.pair (Ty.sl jJ) (Ty.pair (Ty.arr 4 tU) (Ty.pair (Ty.arr 4 tU) Ty.unit))))))))) [AV.ow 15,AV.ow 16,AV.ow 17,AV.ow 18,AV.ow 19,AV.ow 20,AV.ow 21,AV.dat (Ty.arr 4 tU) o4_7,AV.dat (Ty.arr 4 tU) o4_8]) false,Obj.drow zh o5 c5,Obj.drow (Ty.sl tI) o6 c6,Obj.row zi o7 false,Obj.row zl o8 false,Obj.row tI o9 false,Obj.drow zh o10 c10,Obj.drow (Ty.sl tI) o11 c11,Obj.row zi o12 false,Obj.row zl o13 false,Obj.row tI o14 false,Obj.row zX o15 false,Obj.row zV o16 false,Obj.row zI o17 false,Obj.row zZ o18 false,Obj.row zu o19 false,Obj.row (Ty.arr 4 tU) o20 false,Obj.row jJ o21 false]
abbrev jf:Type:=Int × zd × Int × Int × List zg × Nat × List (List Int) × Nat × List zj × List zy × List Int × List zg × Nat × List (List Int) × Nat × List zj × List zy × List Int
abbrev qp:jf→St:=fun (v4,o0,o1_0,o2_0,o3,c3,o4,c4,o5,o6,o7,o8,c8,o9,c9,o10,o11,o12)=>St.mk [(1,AV.bp 0 []),(2,AV.bp 1 []),(3,AV.bp 2 []),(4,AV.dat tI v4)] [Obj.bx (AV.dat zC o0) false,Obj.bx (AV.fld (Ty.pair tU (Ty.pair (Ty.sl zh) (Ty.pair (Ty.sl (Ty.sl tI)) (Ty.pair (Ty.sl zi) (Ty.pair (Ty.sl zl) (Ty.pair (Ty.sl tI) Ty.unit)))))) [AV.dat tU o1_0,AV.ow 3,AV.ow 4,AV.ow 5,AV.ow 6,AV.ow 7]) false,Obj.bx (AV.fld (Ty.pair tU (Ty.pair (Ty.sl zh) (Ty.pair (Ty.sl (Ty.sl tI)) (Ty.pair (Ty.sl zi) (Ty.pair (Ty.sl zl) (Ty.pair (Ty.sl tI) Ty.unit)))))) [AV.dat tU o2_0,AV.ow 8,AV.ow 9,AV.ow 10,AV.ow 11,AV.ow 12]) false,Obj.drow zh o3 c3,Obj.drow (Ty.sl tI) o4 c4,Obj.row zi o5 false,Obj.row zl o6 false,Obj.row tI o7 false,Obj.drow zh o8 c8,Obj.drow (Ty.sl tI) o9 c9,Obj.row zi o10 false,Obj.row zl o11 false,Obj.row tI o12 false]
def znq (k0:jf→Option (ze × Unit)) (k6:znj→Option (ze × Unit)):znj→Option (ze × Unit):=fun (v4,v12,o0,o1_0,o2_0,o3_7,o3_8,o4,c4,o5,c5,o6,o7,o8,o9,c9,o10,c10,o11,o12,o13,o14,o15,o16,o17,o18,o19,o20) =>
  bif decide (v12 < ((List.length o0.2.2.1):Int)) then bif decide (List.length o19 + List.length (zk (List.replicate 1 (zb (Ty.arr 4 tU))) 0 (zb (Ty.arr 4 tU))) ≤ lim) then bif decide (List.length o20 + List.length (zk (List.replicate 1 (zb zY)) 0 (zb zY)) ≤ lim) then k6 (v4,wI (v12 + 1),o0,o1_0,o2_0,o3_7,o3_8,o4,c4,o5,c5,o6,o7,o8,o9,c9,o10,c10,o11,o12,o13,o14,o15,o16,o17,o18,o19 ++ zk (List.replicate 1 (zb (Ty.arr 4 tU))) 0 (zb (Ty.arr 4 tU)),o20 ++ zk (List.replicate 1 (zb zY)) 0 (zb zY)) else none else none else bif decide (List.length o9 + List.length [(o14,o15,o16,o17,o18,o19,o20,o3_7,o3_8,())] ≤ lim) then bif decide (c9 = List.length o9) then k0 (wI (v4 + 1),o0,o1_0,o2_0,o4,c4,o5,c5,o6,o7,o8,o9 ++ [(o14,o15,o16,o17,o18,o19,o20,o3_7,o3_8,())],c9 + (0 + 1),o10,c10,o11,o12,o13) else none else none
abbrev znr (K:Nat) (k0:jf→Option (ze × Unit)):znj→Option (ze × Unit):=iter (fun k6=>znq k0 k6) K
theorem z5C (K:Nat) (n0:Nat):∀ n,evV (zK zA) K Tryz.f11 3 zH [1,1,0,1,0,0,1,0,0,1,1,1,1,1,1,1,0,1,0] [n0] zRT n = iter (fun k6=>znq (evV (zK zA) K Tryz.f11 3 zH [1,1,0,1,0] [] qp n0) k6) n:=zm fun n6 (v4,v12,o0,o1_0,o2_0,o3_7,o3_8,o4,c4,o5,c5,o6,o7,o8,o9,c9,o10,c10,o11,o12,o13,o14,o15,o16,o17,o18,o19,o20)=>by kernel_rfl
def zns (k8:znk→Option (ze × Unit)):znk→Option (ze × Unit):=fun (v14,o0,o1_0,o2_0,o3,c3,o4,c4,o5,o6,o7,o8,c8,o9,c9,o10,o11,o12) =>
  bif decide (v14 < ((List.length o0.2.1):Int)) then bif decide (List.length o12 + List.length (zk (List.replicate 1 (0:Int)) 0 (-1)) ≤ lim) then k8 (wI (v14 + 1),o0,o1_0,o2_0,o3,c3,o4,c4,o5,o6,o7,o8,c8,o9,c9,o10,o11,o12 ++ zk (List.replicate 1 (0:Int)) 0 (-1)) else none else bif decide (c8 = List.length o8) then bif decide (c9 = List.length o9) then some ((o2_0,o8,o9,o10,o11,o12,()),()) else none else none
abbrev znt (K:Nat):znk→Option (ze × Unit):=iter (zns) K
theorem z5D (K:Nat):∀ n,evV (zK zA) K Tryz.f11 3 zH [1,1,1,1,1,0,1,0] [] zRU n = iter (zns) n:=zm fun n8 (v14,o0,o1_0,o2_0,o3,c3,o4,c4,o5,o6,o7,o8,c8,o9,c9,o10,o11,o12)=>by kernel_rfl
def zR1 (k0:jf→Option (ze × Unit)) (k1:zeU→Option (ze × Unit)):ztw→Option (ze × Unit):=fun (v4,v7,o0,o1_0,o2_0,o3,o4_7,o4_8,o5,c5,o6,c6,o7,o8,o9,o10,c10,o11,c11,o12,o13,o14,o15,o16,o17,o18,o19,o20,o21) =>
  k1 (v4,wI (v7 + 1),o0,o1_0,o2_0,o3,o4_7,o4_8,o5,c5,o6,c6,o7,o8,o9,o10,c10,o11,c11,o12,o13,o14,o15,o16,o17,o18,o19,o20,o21)
abbrev ztx (K:Nat) (k0:jf→Option (ze × Unit)) (k1:zeU→Option (ze × Unit)):ztw→Option (ze × Unit):=gt (zR1 k0 k1) K
theorem z5E (K:Nat) (n0 n1:Nat):∀ n,evW (zK zA) K Tryz.f11 3 zH [1,1,0,1,0,0,1,0,0,1,1,0,1,0,0,1,0,0] [n0,n1] zRV n = gt (zR1 (evV (zK zA) K Tryz.f11 3 zH [1,1,0,1,0] [] qp n0) (evV (zK zA) K Tryz.f11 3 zH [1,1,0,1,0,0,1,0,0,1,1,0,1,0] [n0] zEJ n1)) n:=qfI fun n9 (v4,v7,o0,o1_0,o2_0,o3,o4_7,o4_8,o5,c5,o6,c6,o7,o8,o9,o10,c10,o11,c11,o12,o13,o14,o15,o16,o17,o18,o19,o20,o21)=>by kernel_rfl
def zhT (L6:znj→Option (ze × Unit)) (k0:jf→Option (ze × Unit)) (k5:znl→Option (ze × Unit)):znl→Option (ze × Unit):=fun (v4,v11,o0,o1_0,o2_0,o3,o4_7,o4_8,o5,c5,o6,c6,o7,o8,o9,o10,c10,o11,c11,o12,o13,o14,o15,o16,o17,o18,o19,o20,o21) =>
  bif decide (v11 < o3.2.2.2.2.1) then bif decide (List.length o19 + List.length (zk (List.replicate 1 (zb zu)) 0 (zb zu)) ≤ lim) then k5 (v4,wI (v11 + 1),o0,o1_0,o2_0,o3,o4_7,o4_8,o5,c5,o6,c6,o7,o8,o9,o10,c10,o11,c11,o12,o13,o14,o15,o16,o17,o18,o19 ++ zk (List.replicate 1 (zb zu)) 0 (zb zu),o20,o21) else none else L6 (v4,0,o0,o1_0,o2_0,o4_7,o4_8,o5,c5,o6,c6,o7,o8,o9,o10,c10,o11,c11,o12,o13,o14,o15,o16,o17,o18,o19,o20,o21)
abbrev znu (K:Nat) (k0:jf→Option (ze × Unit)):znl→Option (ze × Unit):=iter (fun k5=>zhT (znr K k0) k0 k5) K
theorem z5F (K:Nat) (n0:Nat):∀ n,evV (zK zA) K Tryz.f11 3 zH [1,1,0,1,0,0,1,0,0,1,1,1,1,1,1,0,1,0] [n0] zRW n = iter (fun k5=>zhT (znr K (evV (zK zA) K Tryz.f11 3 zH [1,1,0,1,0] [] qp n0)) (evV (zK zA) K Tryz.f11 3 zH [1,1,0,1,0] [] qp n0) k5) n:=qX (B:=fun L6 k5=>zhT L6 (evV (zK zA) K Tryz.f11 3 zH [1,1,0,1,0] [] qp n0) k5) (V1:=fun n5=>evV (zK zA) K Tryz.f11 3 zH [1,1,0,1,0,0,1,0,0,1,1,1,1,1,1,1,0,1,0] [n0] zRT K) (W1:=fun k5=>(znr K (evV (zK zA) K Tryz.f11 3 zH [1,1,0,1,0] [] qp n0))) (fun n5=>z5C zA K n0 K) fun n5 (v4,v11,o0,o1_0,o2_0,o3,o4_7,o4_8,o5,c5,o6,c6,o7,o8,o9,o10,c10,o11,c11,o12,o13,o14,o15,o16,o17,o18,o19,o20,o21)=>by kernel_rfl
def zhU (L8:znk→Option (ze × Unit)) (k7:znm→Option (ze × Unit)):znm→Option (ze × Unit):=fun (v13,o0,o1_0,o2_0,o3,c3,o4,c4,o5,o6,o7,o8,c8,o9,c9,o10,o11,o12) =>
  bif decide (v13 < o0.2.2.2.2.2.1) then bif decide (List.length o10 + List.length (zk (List.replicate 1 (zb zi)) 0 (zb zi)) ≤ lim) then k7 (wI (v13 + 1),o0,o1_0,o2_0,o3,c3,o4,c4,o5,o6,o7,o8,c8,o9,c9,o10 ++ zk (List.replicate 1 (zb zi)) 0 (zb zi),o11,o12) else none else L8 (0,o0,o1_0,o2_0,o3,c3,o4,c4,o5,o6,o7,o8,c8,o9,c9,o10,o11,o12)
abbrev znv (K:Nat):znm→Option (ze × Unit):=iter (fun k7=>zhU (znt K) k7) K
theorem z5G (K:Nat):∀ n,evV (zK zA) K Tryz.f11 3 zH [1,1,1,1,0,1,0] [] zRX n = iter (fun k7=>zhU (znt K) k7) n:=qX (B:=fun L8 k7=>zhU L8 k7) (V1:=fun n7=>evV (zK zA) K Tryz.f11 3 zH [1,1,1,1,1,0,1,0] [] zRU K) (W1:=fun k7=>(znt K)) (fun n7=>z5D zA K K) fun n7 (v13,o0,o1_0,o2_0,o3,c3,o4,c4,o5,o6,o7,o8,c8,o9,c9,o10,o11,o12)=>by kernel_rfl
def zhV (L5:znl→Option (ze × Unit)) (k0:jf→Option (ze × Unit)) (k4:znn→Option (ze × Unit)):znn→Option (ze × Unit):=fun (v4,v10,o0,o1_0,o2_0,o3,o4_7,o4_8,o5,c5,o6,c6,o7,o8,o9,o10,c10,o11,c11,o12,o13,o14,o15,o16,o17,o18,o19,o20,o21) =>
  bif decide (v10 < o3.2.2.2.1) then bif decide (List.length o18 + List.length (zk (List.replicate 1 (zb zZ)) 0 (zb zZ)) ≤ lim) then k4 (v4,wI (v10 + 1),o0,o1_0,o2_0,o3,o4_7,o4_8,o5,c5,o6,c6,o7,o8,o9,o10,c10,o11,c11,o12,o13,o14,o15,o16,o17,o18 ++ zk (List.replicate 1 (zb zZ)) 0 (zb zZ),o19,o20,o21) else none else L5 (v4,0,o0,o1_0,o2_0,o3,o4_7,o4_8,o5,c5,o6,c6,o7,o8,o9,o10,c10,o11,c11,o12,o13,o14,o15,o16,o17,o18,o19,o20,o21)
abbrev znw (K:Nat) (k0:jf→Option (ze × Unit)):znn→Option (ze × Unit):=iter (fun k4=>zhV (znu K k0) k0 k4) K
theorem z5H (K:Nat) (n0:Nat):∀ n,evV (zK zA) K Tryz.f11 3 zH [1,1,0,1,0,0,1,0,0,1,1,1,1,1,0,1,0] [n0] zRY n = iter (fun k4=>zhV (znu K (evV (zK zA) K Tryz.f11 3 zH [1,1,0,1,0] [] qp n0)) (evV (zK zA) K Tryz.f11 3 zH [1,1,0,1,0] [] qp n0) k4) n:=qX (B:=fun L5 k4=>zhV L5 (evV (zK zA) K Tryz.f11 3 zH [1,1,0,1,0] [] qp n0) k4) (V1:=fun n4=>evV (zK zA) K Tryz.f11 3 zH [1,1,0,1,0,0,1,0,0,1,1,1,1,1,1,0,1,0] [n0] zRW K) (W1:=fun k4=>(znu K (evV (zK zA) K Tryz.f11 3 zH [1,1,0,1,0] [] qp n0))) (fun n4=>z5F zA K n0 K) fun n4 (v4,v10,o0,o1_0,o2_0,o3,o4_7,o4_8,o5,c5,o6,c6,o7,o8,o9,o10,c10,o11,c11,o12,o13,o14,o15,o16,o17,o18,o19,o20,o21)=>by kernel_rfl
def zhW (L4:znn→Option (ze × Unit)) (k0:jf→Option (ze × Unit)) (k3:zno→Option (ze × Unit)):zno→Option (ze × Unit):=fun (v4,v9,o0,o1_0,o2_0,o3,o4_7,o4_8,o5,c5,o6,c6,o7,o8,o9,o10,c10,o11,c11,o12,o13,o14,o15,o16,o17,o18,o19,o20,o21) =>
  bif decide (v9 < o3.2.2.1) then bif decide (List.length o17 + List.length (zk (List.replicate 1 (zb zI)) 0 (zb zI)) ≤ lim) then k3 (v4,wI (v9 + 1),o0,o1_0,o2_0,o3,o4_7,o4_8,o5,c5,o6,c6,o7,o8,o9,o10,c10,o11,c11,o12,o13,o14,o15,o16,o17 ++ zk (List.replicate 1 (zb zI)) 0 (zb zI),o18,o19,o20,o21) else none else L4 (v4,0,o0,o1_0,o2_0,o3,o4_7,o4_8,o5,c5,o6,c6,o7,o8,o9,o10,c10,o11,c11,o12,o13,o14,o15,o16,o17,o18,o19,o20,o21)
abbrev znx (K:Nat) (k0:jf→Option (ze × Unit)):zno→Option (ze × Unit):=iter (fun k3=>zhW (znw K k0) k0 k3) K
theorem z5I (K:Nat) (n0:Nat):∀ n,evV (zK zA) K Tryz.f11 3 zH [1,1,0,1,0,0,1,0,0,1,1,1,1,0,1,0] [n0] zRZ n = iter (fun k3=>zhW (znw K (evV (zK zA) K Tryz.f11 3 zH [1,1,0,1,0] [] qp n0)) (evV (zK zA) K Tryz.f11 3 zH [1,1,0,1,0] [] qp n0) k3) n:=qX (B:=fun L4 k3=>zhW L4 (evV (zK zA) K Tryz.f11 3 zH [1,1,0,1,0] [] qp n0) k3) (V1:=fun n3=>evV (zK zA) K Tryz.f11 3 zH [1,1,0,1,0,0,1,0,0,1,1,1,1,1,0,1,0] [n0] zRY K) (W1:=fun k3=>(znw K (evV (zK zA) K Tryz.f11 3 zH [1,1,0,1,0] [] qp n0))) (fun n3=>z5H zA K n0 K) fun n3 (v4,v9,o0,o1_0,o2_0,o3,o4_7,o4_8,o5,c5,o6,c6,o7,o8,o9,o10,c10,o11,c11,o12,o13,o14,o15,o16,o17,o18,o19,o20,o21)=>by kernel_rfl
def zhX (L3:zno→Option (ze × Unit)) (k0:jf→Option (ze × Unit)) (k2:znp→Option (ze × Unit)):znp→Option (ze × Unit):=fun (v4,v8,o0,o1_0,o2_0,o3,o4_7,o4_8,o5,c5,o6,c6,o7,o8,o9,o10,c10,o11,c11,o12,o13,o14,o15,o16,o17,o18,o19,o20,o21) =>
  bif decide (v8 < o3.2.1) then bif decide (List.length o16 + List.length (zk (List.replicate 1 (zb zV)) 0 (zb zV)) ≤ lim) then k2 (v4,wI (v8 + 1),o0,o1_0,o2_0,o3,o4_7,o4_8,o5,c5,o6,c6,o7,o8,o9,o10,c10,o11,c11,o12,o13,o14,o15,o16 ++ zk (List.replicate 1 (zb zV)) 0 (zb zV),o17,o18,o19,o20,o21) else none else L3 (v4,0,o0,o1_0,o2_0,o3,o4_7,o4_8,o5,c5,o6,c6,o7,o8,o9,o10,c10,o11,c11,o12,o13,o14,o15,o16,o17,o18,o19,o20,o21)
abbrev zny (K:Nat) (k0:jf→Option (ze × Unit)):znp→Option (ze × Unit):=iter (fun k2=>zhX (znx K k0) k0 k2) K
theorem z5J (K:Nat) (n0:Nat):∀ n,evV (zK zA) K Tryz.f11 3 zH [1,1,0,1,0,0,1,0,0,1,1,1,0,1,0] [n0] zR0 n = iter (fun k2=>zhX (znx K (evV (zK zA) K Tryz.f11 3 zH [1,1,0,1,0] [] qp n0)) (evV (zK zA) K Tryz.f11 3 zH [1,1,0,1,0] [] qp n0) k2) n:=qX (B:=fun L3 k2=>zhX L3 (evV (zK zA) K Tryz.f11 3 zH [1,1,0,1,0] [] qp n0) k2) (V1:=fun n2=>evV (zK zA) K Tryz.f11 3 zH [1,1,0,1,0,0,1,0,0,1,1,1,1,0,1,0] [n0] zRZ K) (W1:=fun k2=>(znx K (evV (zK zA) K Tryz.f11 3 zH [1,1,0,1,0] [] qp n0))) (fun n2=>z5I zA K n0 K) fun n2 (v4,v8,o0,o1_0,o2_0,o3,o4_7,o4_8,o5,c5,o6,c6,o7,o8,o9,o10,c10,o11,c11,o12,o13,o14,o15,o16,o17,o18,o19,o20,o21)=>by kernel_rfl
def zhY (L2:znp→Option (ze × Unit)) (L9:ztw→Option (ze × Unit)) (k0:jf→Option (ze × Unit)) (k1:zeU→Option (ze × Unit)):zeU→Option (ze × Unit):=fun (v4,v7,o0,o1_0,o2_0,o3,o4_7,o4_8,o5,c5,o6,c6,o7,o8,o9,o10,c10,o11,c11,o12,o13,o14,o15,o16,o17,o18,o19,o20,o21) =>
  bif decide (v7 < o3.1) then bif v4 == 0 then bif v7 == 0 then bif decide (List.length o15 + List.length (zk (List.replicate 1 (zb zX)) 0 (true,(zb zX).2)) ≤ lim) then L9 (v4,v7,o0,o1_0,o2_0,o3,o4_7,o4_8,o5,c5,o6,c6,o7,o8,o9,o10,c10,o11,c11,o12,o13,o14,o15 ++ zk (List.replicate 1 (zb zX)) 0 (true,(zb zX).2),o16,o17,o18,o19,o20,o21) else none else bif decide (List.length o15 + List.length (zk (List.replicate 1 (zb zX)) 0 (false,(zb zX).2)) ≤ lim) then L9 (v4,v7,o0,o1_0,o2_0,o3,o4_7,o4_8,o5,c5,o6,c6,o7,o8,o9,o10,c10,o11,c11,o12,o13,o14,o15 ++ zk (List.replicate 1 (zb zX)) 0 (false,(zb zX).2),o16,o17,o18,o19,o20,o21) else none else bif decide (List.length o15 + List.length (zk (List.replicate 1 (zb zX)) 0 (false,(zb zX).2)) ≤ lim) then L9 (v4,v7,o0,o1_0,o2_0,o3,o4_7,o4_8,o5,c5,o6,c6,o7,o8,o9,o10,c10,o11,c11,o12,o13,o14,o15 ++ zk (List.replicate 1 (zb zX)) 0 (false,(zb zX).2),o16,o17,o18,o19,o20,o21) else none else L2 (v4,0,o0,o1_0,o2_0,o3,o4_7,o4_8,o5,c5,o6,c6,o7,o8,o9,o10,c10,o11,c11,o12,o13,o14,o15,o16,o17,o18,o19,o20,o21)
abbrev znz (K:Nat) (k0:jf→Option (ze × Unit)):zeU→Option (ze × Unit):=iter (fun k1=>zhY (zny K k0) (ztx K k0 k1) k0 k1) K
theorem z5K (K:Nat) (n0:Nat):∀ n,evV (zK zA) K Tryz.f11 3 zH [1,1,0,1,0,0,1,0,0,1,1,0,1,0] [n0] zEJ n = iter (fun k1=>zhY (zny K (evV (zK zA) K Tryz.f11 3 zH [1,1,0,1,0] [] qp n0)) (ztx K (evV (zK zA) K Tryz.f11 3 zH [1,1,0,1,0] [] qp n0) k1) (evV (zK zA) K Tryz.f11 3 zH [1,1,0,1,0] [] qp n0) k1) n:=zSZ (B:=fun L2 L9 k1=>zhY L2 L9 (evV (zK zA) K Tryz.f11 3 zH [1,1,0,1,0] [] qp n0) k1) (V1:=fun n1=>evV (zK zA) K Tryz.f11 3 zH [1,1,0,1,0,0,1,0,0,1,1,1,0,1,0] [n0] zR0 K) (V2:=fun n1=>evW (zK zA) K Tryz.f11 3 zH [1,1,0,1,0,0,1,0,0,1,1,0,1,0,0,1,0,0] [n0,n1] zRV K) (W1:=fun k1=>(zny K (evV (zK zA) K Tryz.f11 3 zH [1,1,0,1,0] [] qp n0))) (W2:=fun k1=>(ztx K (evV (zK zA) K Tryz.f11 3 zH [1,1,0,1,0] [] qp n0) k1)) (fun n1=>z5J zA K n0 K) (fun n1=>z5E zA K n0 n1 K) fun n1 (v4,v7,o0,o1_0,o2_0,o3,o4_7,o4_8,o5,c5,o6,c6,o7,o8,o9,o10,c10,o11,c11,o12,o13,o14,o15,o16,o17,o18,o19,o20,o21)=>by kernel_rfl
def zhZ (L1:zeU→Option (ze × Unit)) (L7:znm→Option (ze × Unit)) (k0:jf→Option (ze × Unit)):jf→Option (ze × Unit):=fun (v4,o0,o1_0,o2_0,o3,c3,o4,c4,o5,o6,o7,o8,c8,o9,c9,o10,o11,o12) =>
  bif decide (v4 < ((List.length o0.1):Int)) then inR v4 ((List.length o0.2.2.2.2.1):Int) (L1 (v4,0,o0,o1_0,o2_0,ix zD o0.2.2.2.2.1 v4,[0,0,0,0],[0,0,0,0],o3,c3,o4,c4,o5,o6,o7,o8,c8,o9,c9,o10,o11,o12,[],[],[],[],[],[],[])) else bif decide (0 < ((List.length o8):Int)) then bif decide (c8 ≤ Int.toNat 0) then bif decide (0 < ((List.length (ix za o8 0).1):Int)) then none else none else bif decide (0 < ((List.length (ix za o8 0).1):Int)) then L7 (0,o0,o1_0,o2_0,o3,c3,o4,c4,o5,o6,o7,List.set o8 (Int.toNat 0) (List.set (ix za o8 0).1 (Int.toNat 0) ((List.getD (ix za o8 0).1 (Int.toNat 0) (zb zX)).1,ByteArray.mk #[112,108,97,122,97],(List.getD (ix za o8 0).1 (Int.toNat 0) (zb zX)).2.2),(ix za o8 0).2),c8,o9,c9,o10,o11,o12) else none else none
abbrev zR2 (K:Nat):jf→Option (ze × Unit):=iter (fun k0=>zhZ (znz K k0) (znv K) k0) K
theorem z5L (K:Nat):∀ n,evV (zK zA) K Tryz.f11 3 zH [1,1,0,1,0] [] qp n = iter (fun k0=>zhZ (znz K k0) (znv K) k0) n:=zSZ (B:=fun L1 L7 k0=>zhZ L1 L7 k0) (V1:=fun n0=>evV (zK zA) K Tryz.f11 3 zH [1,1,0,1,0,0,1,0,0,1,1,0,1,0] [n0] zEJ K) (V2:=fun n0=>evV (zK zA) K Tryz.f11 3 zH [1,1,1,1,0,1,0] [] zRX K) (W1:=fun k0=>(znz K k0)) (W2:=fun k0=>(znv K)) (fun n0=>z5K zA K n0 K) (fun n0=>z5G zA K K) fun n0 (v4,o0,o1_0,o2_0,o3,c3,o4,c4,o5,o6,o7,o8,c8,o9,c9,o10,o11,o12)=>by kernel_rfl
def zBq (L0:jf→Option (ze × Unit)):(zd × Unit)→Option (ze × Unit):=fun (x0,()) =>
  Option.bind (zA (x0,())) fun q0=>L0 (0,x0,0,0,[],0,[],0,[],[],[],[],0,q0.1,List.length q0.1,[],[],[])
theorem qaf (K:Nat):evF (zK zA) K Tryz.f11 3 zLH zH = zBq zA (zR2 K):=tr1 (T:=zBq zA) (z5L zA K K) fun (x0,())=>by kernel_rfl
end
def znT:zV2:=zBq zsV (zR2 K0)
theorem qag:Sd Tryz.prog E0 (zF4 znT):=qga (l:=[zGi zsV]) ⟨qae,trivial⟩ Tryz.func11 (by kernel_rfl) (qaf zsV K0)
section
variable (zT:zBg)
abbrev zLp:Env:=(En E0 false [zf8 zT])
abbrev zfe:Type:=(List (List Int)) × Int × Int × Int × zd
abbrev zVN:zfe→St:=fun (v1,v2,v3,v9,o0)=>St.mk [(1,AV.dat (Ty.sl (Ty.sl tI)) v1),(2,AV.dat tI v2),(3,AV.dat tI v3),(4,AV.bp 0 []),(9,AV.dat tI v9)] [Obj.bx (AV.dat zC o0) false]
def zff (k0:zfe→Option (Bool × Unit)):zfe→Option (Bool × Unit):=fun (v1,v2,v3,v9,o0) =>
  bif decide (v9 < ((List.length o0.2.2.2.1):Int)) then inR v3 ((List.length o0.1):Int) (inR v9 ((List.length o0.2.2.2.1):Int) (Option.bind (zT (ix qm o0.1 v3,(ix qj o0.2.2.2.1 v9).1,())) fun q0=>bif q0.1 then inR v9 ((List.length v1):Int) (inR v2 ((List.length (List.getD v1 (Int.toNat v9) ([]:List Int))):Int) (bif List.getD (List.getD v1 (Int.toNat v9) ([]:List Int)) (Int.toNat v2) (0:Int) == 0 then some (false,()) else k0 (v1,v2,v3,wI (v9 + 1),o0))) else k0 (v1,v2,v3,wI (v9 + 1),o0))) else inR v3 ((List.length o0.1):Int) (inR v2 ((List.length o0.2.2.1):Int) (bif decide ((ix qm o0.1 v3).1 ≤ (ix jG o0.2.2.1 v2).2.2.1) then some (true,()) else some (false,())))
abbrev zFt (K:Nat):zfe→Option (Bool × Unit):=iter (zff zT) K
theorem zVO (K:Nat):∀ n,evV (zLp zT) K Tryz.f65 0 zoF [1,1,0,1,0] [] zVN n = iter (zff zT) n:=zm fun n0 (v1,v2,v3,v9,o0)=>by kernel_rfl
def zo4 (L0:zfe→Option (Bool × Unit)):(zd × ((List (List Int)) × (Int × (Int × Unit))))→Option (Bool × Unit):=fun (x0,x1,x2,x3,()) =>
  bif decide (x2 < 0) then some (false,()) else bif decide (x2 ≥ ((List.length x0.2.2.1):Int)) then some (false,()) else bif decide (x3 < 0) then some (false,()) else bif decide (x3 ≥ ((List.length x0.1):Int)) then some (false,()) else L0 (x1,x2,x3,0,x0)
theorem z0T (K:Nat):evF (zLp zT) K Tryz.f65 0 zv9 zoF = zo4 (zFt zT K):=tr1 (T:=zo4) (zVO zT K K) fun (x0,x1,x2,x3,())=>by kernel_rfl
end
def zew:zKf:=zo4 (zFt j4 K0)
theorem z0U:Sd Tryz.prog E0 (ztH zew):=mkS (l:=[zf8 j4]) ⟨zNk,trivial⟩ Tryz.func65 (by kernel_rfl) (z0T j4 K0)
section
variable (zyl:zKf)
def zQs:(zd × (ze × (Int × Unit)))→Option (pMe × (Int × Unit)):=fun (x0,x1,x2,()) =>
  inR x2 ((List.length x1.2.2.2.2.2.1):Int) (bif decide (ix (0:Int) x1.2.2.2.2.2.1 x2 < 0) then some ((0,0,0,()),10,()) else inR x2 ((List.length x1.2.2.2.2.2.1):Int) (inR x2 ((List.length x0.2.1):Int) (Option.bind (zyl (x0,x1.2.2.1,ix (0:Int) x1.2.2.2.2.2.1 x2,ix (0:Int) x0.2.1 x2,())) fun q0=>bif q0.1 then inR x2 ((List.length x0.2.1):Int) (inR x2 ((List.length x1.2.2.2.2.2.1):Int) (some ((x2,ix (0:Int) x0.2.1 x2,ix (0:Int) x1.2.2.2.2.2.1 x2,()),0,()))) else some ((0,0,0,()),5,()))))
theorem qcd (K:Nat):evF (En E0 false [ztH zyl]) K Tryz.f22 0 zPF zPG = zQs zyl:=funext fun (x0,x1,x2,())=>by kernel_rfl
end
def zq3:zY4:=zQs zew
theorem qce:Sd Tryz.prog E0 (zLI zq3):=mkS (l:=[ztH zew]) ⟨z0U,trivial⟩ Tryz.func22 (by kernel_rfl) (qcd zew K0)
end
end Go.Proofs.YtaokpakfhdeiiaaGreatDoor
end
section
namespace Go.Proofs.YtaokpakfhdeiiaaGreatDoor
open Go.Ev
theorem z0V {l:List Int} {g:Int × Unit→Option (Bool × Unit)} {p:Int→Bool} (hl:l.length ≤ Go.maxLen) (hp:∀ x ∈ l,g (x,()) = some (p x,())):zbC (l,some g,()) = some (zaz p l 0,()):=vB (τ:=tI) (B:=zmh) (fun _ _ _ _ _=>rfl) hl hp
theorem zed {l:List Int} {g:Int × Unit→Option (Bool × Unit)} {p:Int→Bool} (hl:l.length ≤ Go.maxLen) (hp:∀ x ∈ l,g (x,()) = some (p x,())):zQ (l,some g,()) = some (l.any p,()):=jO (τ:=tI) (f:=zbC) (z0V hl hp)
theorem zVP {l:List zz} {g:zz × Unit→Option (Bool × Unit)} {p:zz→Bool} (hl:l.length ≤ Go.maxLen) (hp:∀ x ∈ l,g (x,()) = some (p x,())):zam (l,some g,()) = some (zaz p l 0,()):=vB (τ:=zw) (B:=zjB) (fun _ _ _ _ _=>rfl) hl hp
theorem zym {l:List zz} {g:zz × Unit→Option (Bool × Unit)} {p:zz→Bool} (hl:l.length ≤ Go.maxLen) (hp:∀ x ∈ l,g (x,()) = some (p x,())):jH (l,some g,()) = some (l.any p,()):=jO (τ:=zw) (f:=zam) (zVP hl hp)
theorem zSI {l:List jw} {g:jw × Unit→Option (Bool × Unit)} {p:jw→Bool} (hl:l.length ≤ Go.maxLen) (hp:∀ x ∈ l,g (x,()) = some (p x,())):yG (l,some g,()) = some (zaz p l 0,()):=vB (τ:=vb) (B:=zgi) (fun _ _ _ _ _=>rfl) hl hp
theorem zNB {l:List jw} {g:jw × Unit→Option (Bool × Unit)} {p:jw→Bool} (hl:l.length ≤ Go.maxLen) (hp:∀ x ∈ l,g (x,()) = some (p x,())):yO (l,some g,()) = some (l.any p,()):=jO (τ:=vb) (f:=yG) (zSI hl hp)
theorem zVQ {l:List zg} {g:zg × Unit→Option (Bool × Unit)} {p:zg→Bool} (hl:l.length ≤ Go.maxLen) (hp:∀ x ∈ l,g (x,()) = some (p x,())):zaq (l,some g,()) = some (zaz p l 0,()):=vB (τ:=zh) (B:=zjG) (fun _ _ _ _ _=>rfl) hl hp
theorem zQt {l:List zg} {g:zg × Unit→Option (Bool × Unit)} {p:zg→Bool} (hl:l.length ≤ Go.maxLen) (hp:∀ x ∈ l,g (x,()) = some (p x,())):vw (l,some g,()) = some (l.any p,()):=jO (τ:=zh) (f:=zaq) (zVQ hl hp)
theorem zYb {l:List qP} {g:qP × Unit→Option (Bool × Unit)} {p:qP→Bool} (hl:l.length ≤ Go.maxLen) (hp:∀ x ∈ l,g (x,()) = some (p x,())):zaN (l,some g,()) = some (zaz p l 0,()):=vB (τ:=zX) (B:=zkF) (fun _ _ _ _ _=>rfl) hl hp
theorem zSJ {l:List qP} {g:qP × Unit→Option (Bool × Unit)} {p:qP→Bool} (hl:l.length ≤ Go.maxLen) (hp:∀ x ∈ l,g (x,()) = some (p x,())):za1 (l,some g,()) = some (l.any p,()):=jO (τ:=zX) (f:=zaN) (zYb hl hp)
theorem zYc {l:List z3} {g:z3 × Unit→Option (Bool × Unit)} {p:z3→Bool} (hl:l.length ≤ Go.maxLen) (hp:∀ x ∈ l,g (x,()) = some (p x,())):zaO (l,some g,()) = some (zaz p l 0,()):=vB (τ:=zI) (B:=zkM) (fun _ _ _ _ _=>rfl) hl hp
theorem zy1 {l:List z3} {g:z3 × Unit→Option (Bool × Unit)} {p:z3→Bool} (hl:l.length ≤ Go.maxLen) (hp:∀ x ∈ l,g (x,()) = some (p x,())):jp (l,some g,()) = some (l.any p,()):=jO (τ:=zI) (f:=zaO) (zYc hl hp)
theorem zYd {l:List qh} {g:qh × Unit→Option (Bool × Unit)} {p:qh→Bool} (hl:l.length ≤ Go.maxLen) (hp:∀ x ∈ l,g (x,()) = some (p x,())):zaP (l,some g,()) = some (zaz p l 0,()):=vB (τ:=zZ) (B:=zkN) (fun _ _ _ _ _=>rfl) hl hp
theorem zy2 {l:List qh} {g:qh × Unit→Option (Bool × Unit)} {p:qh→Bool} (hl:l.length ≤ Go.maxLen) (hp:∀ x ∈ l,g (x,()) = some (p x,())):jq (l,some g,()) = some (l.any p,()):=jO (τ:=zZ) (f:=zaP) (zYd hl hp)
theorem zVR {l:List zo} {g:zo × Unit→Option (Bool × Unit)} {p:zo→Bool} (hl:l.length ≤ Go.maxLen) (hp:∀ x ∈ l,g (x,()) = some (p x,())):zar (l,some g,()) = some (zaz p l 0,()):=vB (τ:=zu) (B:=zjK) (fun _ _ _ _ _=>rfl) hl hp
theorem zyn {l:List zo} {g:zo × Unit→Option (Bool × Unit)} {p:zo→Bool} (hl:l.length ≤ Go.maxLen) (hp:∀ x ∈ l,g (x,()) = some (p x,())):ji (l,some g,()) = some (l.any p,()):=jO (τ:=zu) (f:=zar) (zVR hl hp)
theorem zVS {l:List zj} {g:zj × Unit→Option (Bool × Unit)} {p:zj→Bool} (hl:l.length ≤ Go.maxLen) (hp:∀ x ∈ l,g (x,()) = some (p x,())):zas (l,some g,()) = some (zaz p l 0,()):=vB (τ:=zi) (B:=zjN) (fun _ _ _ _ _=>rfl) hl hp
theorem zQu {l:List zj} {g:zj × Unit→Option (Bool × Unit)} {p:zj→Bool} (hl:l.length ≤ Go.maxLen) (hp:∀ x ∈ l,g (x,()) = some (p x,())):vy (l,some g,()) = some (l.any p,()):=jO (τ:=zi) (f:=zas) (zVS hl hp)
theorem zVT {l:List zy} {g:zy × Unit→Option (Bool × Unit)} {p:zy→Bool} (hl:l.length ≤ Go.maxLen) (hp:∀ x ∈ l,g (x,()) = some (p x,())):zat (l,some g,()) = some (zaz p l 0,()):=vB (τ:=zl) (B:=zjO) (fun _ _ _ _ _=>rfl) hl hp
theorem zQv {l:List zy} {g:zy × Unit→Option (Bool × Unit)} {p:zy→Bool} (hl:l.length ≤ Go.maxLen) (hp:∀ x ∈ l,g (x,()) = some (p x,())):vz (l,some g,()) = some (l.any p,()):=jO (τ:=zl) (f:=zat) (zVT hl hp)
theorem zJw {l:List z5} {g:z5 × Unit→Option (Bool × Unit)} {p:z5→Bool} (hl:l.length ≤ Go.maxLen) (hp:∀ x ∈ l,g (x,()) = some (p x,())):vm (l,some g,()) = some (zaz p l 0,()):=vB (τ:=zV) (B:=zkJ) (fun _ _ _ _ _=>rfl) hl hp
theorem zSK {l:List z5} {g:z5 × Unit→Option (Bool × Unit)} {p:z5→Bool} (hl:l.length ≤ Go.maxLen) (hp:∀ x ∈ l,g (x,()) = some (p x,())):vO (l,some g,()) = some (l.any p,()):=jO (τ:=zV) (f:=vm) (zJw hl hp)
theorem z0W {l:List jI} {g:jI × Unit→Option (Bool × Unit)} {p:jI→Bool} (hl:l.length ≤ Go.maxLen) (hp:∀ x ∈ l,g (x,()) = some (p x,())):zbR (l,some g,()) = some (zaz p l 0,()):=vB (τ:=zY) (B:=zmu) (fun _ _ _ _ _=>rfl) hl hp
theorem zUD {l:List jI} {g:jI × Unit→Option (Bool × Unit)} {p:jI→Bool} (hl:l.length ≤ Go.maxLen) (hp:∀ x ∈ l,g (x,()) = some (p x,())):yi (l,some g,()) = some (l.any p,()):=jO (τ:=zY) (f:=zbR) (z0W hl hp)
theorem zYe {l:List Int} {g:Int × Unit→Option (Bool × Unit)} {p:Int→Bool} (hl:l.length ≤ Go.maxLen) (hp:∀ x ∈ l,g (x,()) = some (p x,())):zaL (l,some g,()) = some (zaz p l 0,()):=vB (τ:=(Ty.int .u8)) (B:=zkB) (fun _ _ _ _ _=>rfl) hl hp
theorem zSL {l:List Int} {g:Int × Unit→Option (Bool × Unit)} {p:Int→Bool} (hl:l.length ≤ Go.maxLen) (hp:∀ x ∈ l,g (x,()) = some (p x,())):vL (l,some g,()) = some (l.any p,()):=jO (τ:=(Ty.int .u8)) (f:=zaL) (zYe hl hp)
theorem qah {l:List zg} {g:zg × Unit→Option (Bool × Unit)} {p:zg→Bool} (hl:l.length ≤ Go.maxLen) (hp:∀ x ∈ l,g (x,()) = some (p x,())):ze4 (l,some g,()) = some (l.all p,()):=by
  have h:vw (l,some fun z=>zaM (z.1,some (some g),()),()) = some (l.any fun x=>!p x,()):=zQt hl fun x hx=>by
    show Option.bind (g (x,())) (fun q=>bif q.1 then some (false,()) else some (true,())) = _
    rw [hp x hx]; cases p x <;> rfl
  show Option.bind (vw (l,some fun z=>zaM (z.1,some (some g),()),())) (fun q=>bif q.1 then some (false,()) else some (true,())) = _
  rw [h,← zaK]; cases l.any fun x=>!p x <;> rfl
theorem qai {l:List zj} {g:zj × Unit→Option (Bool × Unit)} {p:zj→Bool} (hl:l.length ≤ Go.maxLen) (hp:∀ x ∈ l,g (x,()) = some (p x,())):ze5 (l,some g,()) = some (l.all p,()):=by
  have h:vy (l,some fun z=>zaQ (z.1,some (some g),()),()) = some (l.any fun x=>!p x,()):=zQu hl fun x hx=>by
    show Option.bind (g (x,())) (fun q=>bif q.1 then some (false,()) else some (true,())) = _
    rw [hp x hx]; cases p x <;> rfl
  show Option.bind (vy (l,some fun z=>zaQ (z.1,some (some g),()),())) (fun q=>bif q.1 then some (false,()) else some (true,())) = _
  rw [h,← zaK]; cases l.any fun x=>!p x <;> rfl
theorem qaj {l:List zy} {g:zy × Unit→Option (Bool × Unit)} {p:zy→Bool} (hl:l.length ≤ Go.maxLen) (hp:∀ x ∈ l,g (x,()) = some (p x,())):ze6 (l,some g,()) = some (l.all p,()):=by
  have h:vz (l,some fun z=>zaR (z.1,some (some g),()),()) = some (l.any fun x=>!p x,()):=zQv hl fun x hx=>by
    show Option.bind (g (x,())) (fun q=>bif q.1 then some (false,()) else some (true,())) = _
    rw [hp x hx]; cases p x <;> rfl
  show Option.bind (vz (l,some fun z=>zaR (z.1,some (some g),()),())) (fun q=>bif q.1 then some (false,()) else some (true,())) = _
  rw [h,← zaK]; cases l.any fun x=>!p x <;> rfl
theorem qdx {l:List Int} {g:Int × Unit→Option (Bool × Unit)} {p:Int→Bool} (hl:l.length ≤ Go.maxLen) (hp:∀ x ∈ l,g (x,()) = some (p x,())):zim (l,some g,()) = some (l.all p,()):=by
  have h:zQ (l,some fun z=>zcD (z.1,some (some g),()),()) = some (l.any fun x=>!p x,()):=zed hl fun x hx=>by
    show Option.bind (g (x,())) (fun q=>bif q.1 then some (false,()) else some (true,())) = _
    rw [hp x hx]; cases p x <;> rfl
  show Option.bind (zQ (l,some fun z=>zcD (z.1,some (some g),()),())) (fun q=>bif q.1 then some (false,()) else some (true,())) = _
  rw [h,← zaK]; cases l.any fun x=>!p x <;> rfl
theorem qcf {l:List z5} {g:z5 × Unit→Option (Bool × Unit)} {p:z5→Bool} (hl:l.length ≤ Go.maxLen) (hp:∀ x ∈ l,g (x,()) = some (p x,())):zdo (l,some g,()) = some (l.all p,()):=by
  have h:vO (l,some fun z=>zbP (z.1,some (some g),()),()) = some (l.any fun x=>!p x,()):=zSK hl fun x hx=>by
    show Option.bind (g (x,())) (fun q=>bif q.1 then some (false,()) else some (true,())) = _
    rw [hp x hx]; cases p x <;> rfl
  show Option.bind (vO (l,some fun z=>zbP (z.1,some (some g),()),())) (fun q=>bif q.1 then some (false,()) else some (true,())) = _
  rw [h,← zaK]; cases l.any fun x=>!p x <;> rfl
theorem z0X {l:List z3} {g:z3 × Unit→Option (Bool × Unit)} {p:z3→Bool} (hl:l.length ≤ Go.maxLen) (hp:∀ x ∈ l,g (x,()) = some (p x,())):jy (l,some g,()) = some (l.all p,()):=by
  have h:jp (l,some fun z=>zbQ (z.1,some (some g),()),()) = some (l.any fun x=>!p x,()):=zy1 hl fun x hx=>by
    show Option.bind (g (x,())) (fun q=>bif q.1 then some (false,()) else some (true,())) = _
    rw [hp x hx]; cases p x <;> rfl
  show Option.bind (jp (l,some fun z=>zbQ (z.1,some (some g),()),())) (fun q=>bif q.1 then some (false,()) else some (true,())) = _
  rw [h,← zaK]; cases l.any fun x=>!p x <;> rfl
theorem qdy {l:List jI} {g:jI × Unit→Option (Bool × Unit)} {p:jI→Bool} (hl:l.length ≤ Go.maxLen) (hp:∀ x ∈ l,g (x,()) = some (p x,())):zel (l,some g,()) = some (l.all p,()):=by
  have h:yi (l,some fun z=>zcE (z.1,some (some g),()),()) = some (l.any fun x=>!p x,()):=zUD hl fun x hx=>by
    show Option.bind (g (x,())) (fun q=>bif q.1 then some (false,()) else some (true,())) = _
    rw [hp x hx]; cases p x <;> rfl
  show Option.bind (yi (l,some fun z=>zcE (z.1,some (some g),()),())) (fun q=>bif q.1 then some (false,()) else some (true,())) = _
  rw [h,← zaK]; cases l.any fun x=>!p x <;> rfl
theorem qcg {l:List qh} {g:qh × Unit→Option (Bool × Unit)} {p:qh→Bool} (hl:l.length ≤ Go.maxLen) (hp:∀ x ∈ l,g (x,()) = some (p x,())):vP (l,some g,()) = some (l.all p,()):=by
  have h:jq (l,some fun z=>zbS (z.1,some (some g),()),()) = some (l.any fun x=>!p x,()):=zy2 hl fun x hx=>by
    show Option.bind (g (x,())) (fun q=>bif q.1 then some (false,()) else some (true,())) = _
    rw [hp x hx]; cases p x <;> rfl
  show Option.bind (jq (l,some fun z=>zbS (z.1,some (some g),()),())) (fun q=>bif q.1 then some (false,()) else some (true,())) = _
  rw [h,← zaK]; cases l.any fun x=>!p x <;> rfl
theorem qak {l:List zo} {g:zo × Unit→Option (Bool × Unit)} {p:zo→Bool} (hl:l.length ≤ Go.maxLen) (hp:∀ x ∈ l,g (x,()) = some (p x,())):vo (l,some g,()) = some (l.all p,()):=by
  have h:ji (l,some fun z=>zaS (z.1,some (some g),()),()) = some (l.any fun x=>!p x,()):=zyn hl fun x hx=>by
    show Option.bind (g (x,())) (fun q=>bif q.1 then some (false,()) else some (true,())) = _
    rw [hp x hx]; cases p x <;> rfl
  show Option.bind (ji (l,some fun z=>zaS (z.1,some (some g),()),())) (fun q=>bif q.1 then some (false,()) else some (true,())) = _
  rw [h,← zaK]; cases l.any fun x=>!p x <;> rfl
theorem z5M {l:List zj} (hl:l.length ≤ lim):vS (l,()) = some (l,()):=z3L (τ:=zi) hl rfl
theorem zR3 {l:List zo} (hl:l.length ≤ lim):vR (l,()) = some (l,()):=z3L (τ:=zu) hl rfl
end Go.Proofs.YtaokpakfhdeiiaaGreatDoor
end
section
namespace Go.Proofs.YtaokpakfhdeiiaaGreatDoor
open Go.Ev
theorem zU6:∃ m,K0 = m + 8:=⟨Go.maxLen - 6,by unfold K0 Go.maxLen; omega⟩
def within (x a b:Int):Bool:=decide (a ≤ x ∧ x ≤ b)
theorem zmG (x a b:Int):zU (x,a,b,()) = some (within x a b,()):=by
  simp only [zU,zAq,within]; grind
def zbZ (a:zz):Bool:=within a.1 0 3
theorem z5N (a:zz):zhB (a,()) = some (zbZ a,()):=by
  simp only [zhB,zDX,zbZ,within]; grind
theorem qch (a:zz):zdg (a,()) = some (!zbZ a,()):=by
  simp only [zdg,zuW,z5N,Option.bind_some]; grind
theorem z5O (a:zz):zeQ (a,()) = some (zbZ a,()):=by
  rw [zR]
  simp only [zeQ,zEp,zbZ,within]
  grind
def zyo (x y:Int):Int:=bif decide (x < y) then -1 else bif decide (y < x) then 1 else 0
theorem qal (x:Int):zef (x,()) = some (false,()):=by
  simp only [zef,zxq]; grind
theorem z25 (x:Int):zbB (x,()) = some (false,()):=by
  simp only [zbB,zpJ]; grind
theorem zR4 (x y:Int):vX (x,y,()) = some (zyo x y,()):=by
  simp only [vX,zsb,qal,Option.bind_some,zyo]; grind
theorem zJx (x y:Int):vc (x,y,()) = some (zyo x y,()):=by
  simp only [vc,zmf,z25,Option.bind_some,zyo]; grind
def orV (a b:Int):Int:=bif a != 0 then a else b
theorem qfL (a b:Int):zaY ([a,b],()) = some (orV a b,()):=by
  show iter yh K0 (0,[a,b],2,0) = _
  obtain ⟨m,hm⟩:=zU6
  rw [hm]
  show yh (yh (yh (iter yh (m + 5)))) (0,[a,b],2,0) = _
  have h:yh (yh (yh (iter yh (m + 5)))) (0,[a,b],2,0) = bif a != 0 then some (a,()) else bif b != 0 then some (b,()) else some (0,()):=by kernel_rfl
  rw [h]; unfold orV; grind
def zqe (a b:zz):Int:=orV (zyo a.1 b.1) (zyo a.2.1 b.2.1)
theorem qam (a b:zz):zjC (a,b,()) = some (zqe a b,()):=by
  simp only [zjC,zMJ,zR4,zJx,Option.bind_some]
  show Option.bind (zaY ([zyo a.1 b.1,zyo a.2.1 b.2.1],())) _ = _
  rw [qfL]; rfl
theorem zLq (a b:zz):eqI zw a b = ((a.1:Int) == b.1 && (a.2.1:Int) == b.2.1):=by
  show cond ((a.1:Int) == b.1) (cond ((a.2.1:Int) == b.2.1) true false) false = _
  cases ((a.1:Int) == b.1) <;> cases ((a.2.1:Int) == b.2.1) <;> rfl
theorem qan (a b:zz):zjT (a,b,()) = some (zqe a b,()):=by
  simp only [zjT,zNi,zLq,zqe,orV,zyo]; grind
def zex (l:List zz):Bool:=within (l.length:Int) 1 8 && (eqI zw (l.getD 0 (zb zw)) (zb zw) && (l.all zbZ && ql (fun i=>decide (zqe (l.getD (i - 1) (zb zw)) (l.getD i (zb zw)) < 0)) 1 (l.length - 1)))
theorem z26 {α:Type} {d:α} {l:List α}:ix d l 0 = l.getD 0 d:=rfl
theorem qet (r:zd):zan (r,()) = some (zex r.1,()):=by
  simp only [zan,zqJ,zmG,Option.bind_some]
  by_cases hw:within (List.length r.1:Int) 1 8 = true
  · have hb:1 ≤ List.length r.1 ∧ List.length r.1 ≤ 8:=by unfold within at hw; grind
    have hl:List.length r.1 ≤ Go.maxLen:=by unfold Go.maxLen; omega
    have hloop:zuX zjC K0 (1,r) = bif ql (fun i=>decide (zqe (List.getD r.1 (i - 1) (zb zw)) (List.getD r.1 i (zb zw)) < 0)) 1 (List.length r.1 - 1) then some (true,()) else some (false,()) :=
      qG (i0:=1) hl hb.1 (fun i=>(i,r)) (fun k i h1 h2=>by
        simp only [zmg]
        rw [ltT h2,zvw h1 (by omega),zn (by omega),zn h2,zS,Int.toNat_natCast,qam]
        simp only [cond_true,Option.bind_some]; grind) (fun k=>by simp only [zmg]; rw [ltF]; rfl)
    rw [zym (p:=fun a=>!zbZ a) hl fun x _=>qch x,hloop,z26]
    have:=zaK (l:=r.1) (p:=zbZ)
    unfold zex
    simp only [Option.bind_some]
    grind
  · unfold zex; grind
theorem z27 (l:List zz):zfR (l,()) = some (zex l,()):=by
  simp only [zfR,zqX]
  by_cases hw:within (List.length l:Int) 1 8 = true
  · have hb:1 ≤ List.length l ∧ List.length l ≤ 8:=by unfold within at hw; grind
    have hl:List.length l ≤ Go.maxLen:=by unfold Go.maxLen; omega
    have hloop:zvk zeQ zjT K0 (l,1) = bif ql (fun i=>zbZ (List.getD l i (zb zw)) && decide (zqe (List.getD l (i - 1) (zb zw)) (List.getD l i (zb zw)) < 0)) 1 (List.length l - 1) then some (true,()) else some (false,()) :=
      qG (i0:=1) hl hb.1 (fun i=>(l,i)) (fun k i h1 h2=>by
        simp only [zmC]
        rw [ltT h2,zvw h1 (by omega),zn h2,zn (by omega),zn h2,zS,Int.toNat_natCast,qan,z5O]
        simp only [cond_true,Option.bind_some]; grind) (fun k=>by simp only [zmC]; rw [ltF]; rfl)
    rw [hloop,z26]
    have h0:eqI zw (l.getD 0 (zb zw)) (zb zw) = true→zbZ (l.getD 0 (zb zw)) = true:=fun h=>by
      rw [zLq] at h
      have:(l.getD 0 (zb zw)).1 = (0:Int):=by have:(zb zw).1 = (0:Int):=rfl; grind
      unfold zbZ within; grind
    have hsplit:zbZ (l.getD 0 (zb zw)) = true→ql (fun i=>zbZ (List.getD l i (zb zw)) && decide (zqe (List.getD l (i - 1) (zb zw)) (List.getD l i (zb zw)) < 0)) 1 (List.length l - 1) = (l.all zbZ && ql (fun i=>decide (zqe (l.getD (i - 1) (zb zw)) (l.getD i (zb zw)) < 0)) 1 (l.length - 1)):=fun h0=>by
      rw [Bool.eq_iff_iff,Bool.and_eq_true,ju,ju,List.all_eq_true]
      constructor
      · intro h
        refine ⟨fun x hx=>?_,fun j h1 h2=>?_⟩
        · obtain ⟨i,hi,rfl⟩:=List.mem_iff_getElem.1 hx
          have e:l.getD i (zb zw) = l[i]:=by simp [List.getD,hi]
          rw [← e]
          by_cases hz:i = 0
          · subst hz; exact h0
          · have:=h i (by omega) (by omega); grind
        · have:=h j h1 h2; grind
      · rintro ⟨h1,h2⟩ j h3 h4
        have:=h2 j h3 h4
        have:=h1 _ (qg (d:=zb zw) (show j < l.length by omega))
        grind
    unfold zex
    grind
  · unfold zex within at *; grind
end Go.Proofs.YtaokpakfhdeiiaaGreatDoor
end
section
namespace Go.Proofs.YtaokpakfhdeiiaaGreatDoor
open Go.Ev
def small (c:Int):Bool:=decide (97 ≤ c ∧ c ≤ 122)
def digit (c:Int):Bool:=decide (48 ≤ c ∧ c ≤ 57)
theorem qa7 (c:Int):zcf (c,()) = some (small c,()):=by
  simp only [zcf,zH7,small]; grind
theorem qfc (c:Int):zkC (c,()) = some (digit c,()):=by
  simp only [zkC,zH9,digit]; grind
def z6n (c:Int):Bool:=small c || digit c
theorem qfM (c:Int):zfJ (c,()) = some (z6n c,()):=by
  simp only [zfJ,zAr,qa7,qfc,Option.bind_some,z6n]; grind
def zqf (s:ByteArray):List Int:=List.map (fun b:UInt8=>(b.toNat:Int)) s.data.toList
def chr (s:ByteArray) (i:Nat):Int:=(((s.data.toList).getD i 0).toNat:Int)
theorem zEK (s:ByteArray):(zqf s).length = s.size:=by unfold zqf; rw [List.length_map]; rfl
theorem size_eq (s:ByteArray):s.data.toList.length = s.size:=rfl
theorem z0Y (s:ByteArray) (p:Int→Bool):(zqf s).all p = ql (fun i=>p (chr s i)) 0 s.size:=by
  rw [Bool.eq_iff_iff,ju,List.all_eq_true]
  have key:∀ i,i < s.size→(zqf s)[i]? = some (chr s i):=fun i hi=>by
    unfold zqf chr
    rw [List.getElem?_map,List.getElem?_eq_getElem (by rw [size_eq]; exact hi)]
    simp [List.getD,size_eq,hi]
  constructor
  · intro h j _ hj
    exact h _ (List.mem_of_getElem? (key j (by omega)))
  · intro h x hx
    obtain ⟨i,hi,rfl⟩:=List.mem_iff_getElem.1 hx
    rw [zEK] at hi
    have:=key i hi
    rw [List.getElem?_eq_getElem (by rw [zEK]; exact hi)] at this
    rw [Option.some.inj this]
    exact h i (by omega) (by omega)
theorem z0Z {s:ByteArray} {g:Int × Unit→Option (Bool × Unit)} {p:Int→Bool} (hl:s.size ≤ Go.maxLen) (hp:∀ c,g (c,()) = some (p c,())):zif (s,some g,()) = some ((zqf s).all p,()):=by
  have h:vL (zqf s,some fun z=>zkA (z.1,some (some g),()),()) = some ((zqf s).any fun x=>!p x,()):=zSL (by rw [zEK]; exact hl) fun x hx=>by
    show Option.bind (g (x,())) (fun q=>bif q.1 then some (false,()) else some (true,())) = _
    rw [hp x]; cases p x <;> rfl
  show Option.bind (vL (zqf s,some fun z=>zkA (z.1,some (some g),()),())) (fun q=>bif q.1 then some (false,()) else some (true,())) = _
  rw [h,← zaK]; cases (zqf s).any fun x=>!p x <;> rfl
def zyp (s:ByteArray):Bool:=decide (1 ≤ s.size) && (decide (s.size ≤ 12) && ql (fun i=>small (chr s i) || (decide (i ≠ 0) && digit (chr s i))) 0 s.size)
theorem qeu (s:ByteArray):zyp s = (decide (1 ≤ s.size) && (decide (s.size ≤ 12) && (small (chr s 0) && (zqf s).all z6n))):=by
  rw [z0Y,zyp,Bool.eq_iff_iff]
  simp only [Bool.and_eq_true,decide_eq_true_eq,ju,z6n]
  constructor
  · rintro ⟨h1,h2,h3⟩
    have:=h3 0 (by omega) (by omega)
    refine ⟨h1,h2,by grind,fun j h4 h5=>?_⟩
    have:=h3 j h4 h5
    grind
  · rintro ⟨h1,h2,h3,h4⟩
    refine ⟨h1,h2,fun j h5 h6=>?_⟩
    have:=h4 j h5 h6
    by_cases e:j = 0
    · subst e; grind
    · grind
theorem zJy (s:ByteArray):yx (s,()) = some (zyp s,()):=by
  rw [zR]
  simp only [yx,zIb]
  rw [qeu]
  by_cases h1:s.size < 1
  · grind
  by_cases h2:s.size > 12
  · grind
  rw [z0Z (by unfold Go.maxLen; omega) qfM]
  have hc:((UInt8.toNat (List.getD s.data.toList (Int.toNat 0) 0):Nat):Int) = chr s 0:=rfl
  rw [hc,qa7]
  simp only [Option.bind_some]
  grind
theorem zEL (s:ByteArray):j7 (s,()) = some (zyp s,()):=by
  rw [zR]
  simp only [j7,ztq]
  unfold zyp
  by_cases h1:s.size < 1
  · have:s.size = 0:=by omega
    grind
  by_cases h2:s.size > 12
  · grind
  have hloop:zx5 K0 (s,0) = bif ql (fun i=>small (chr s i) || (decide (i ≠ 0) && digit (chr s i))) 0 (s.size - 0) then some (true,()) else some (false,()) :=
    qG (i0:=0) (n:=s.size) (by unfold Go.maxLen; omega) (Nat.zero_le _) (fun i=>(s,i)) (fun k i h3 h4=>by
      simp only [zoW]
      have hc:((UInt8.toNat (List.getD s.data.toList (Int.toNat (i:Int)) 0):Nat):Int) = chr s i:=by rw [Int.toNat_natCast]; rfl
      rw [hc]
      simp only [ltT h4,zn h4,cond_true,small,digit]
      grind) (fun k=>by simp only [zoW]; rw [ltF]; rfl)
  rw [hloop]
  grind
def zji (a:jw):Bool:=zyp a.1 && (zyp a.2.1 && within a.2.2.1 0 3)
theorem z8u (a:jw):zbF (a,()) = some (!zji a,()):=by
  simp only [zbF,zpM,zJy,zmG,Option.bind_some,zji]; grind
theorem set1 {α:Type} (d x:α):zk (List.replicate 1 d) 0 x = [x]:=rfl
theorem zcv {n:Nat} (h:n ≤ 1000000):decide (n ≤ lim) = true:=decide_eq_true (by unfold lim; omega)
theorem qao (r:zd) (h:r.2.2.1.length ≤ 1000):ze3 (r,()) = some (r.2.2.1.map (·.1),()):=by
  have hl:r.2.2.1.length ≤ Go.maxLen:=by unfold Go.maxLen; omega
  have:=zhx (B:=zcZ) (α:=List ByteArray) (len:=r.2.2.1.length) hl (fun i o=>(r.2.2.1,(r.2.2.1.length:Int),i,o)) (fun i o=>some (o ++ (r.2.2.1.drop i).map (·.1),())) (fun i o=>o.length ≤ i) (fun k i s hi hI hk=>by
    simp only [zcZ]
    rw [ltT hi,zn hi,zS,set1,zcv (by simp; omega)]
    simp only [cond_true]
    rw [hk _ (by simp; omega),zia jG hi]
    simp) (fun k s _=>by
    simp only [zcZ]
    rw [ltF,List.drop_of_length_le (Nat.le_refl _)]
    simp) [] (Nat.le_refl _)
  exact this
def zqg:List ByteArray→Bool
  | []=>true
  | x :: l=>!(l.any fun y=>eqI .str x y) && zqg l
theorem zO8 (x y:ByteArray):eqI .str x y = (x.toList == y.toList):=rfl
theorem qdz (o:List (ByteArray × Int)) (x z:ByteArray) (v:Int):yT .str (yW .str o x v) z = (yT .str o z || eqI .str z x):=by
  induction o with
  | nil=>simp only [yW,yT]; cases eqI .str z x <;> rfl
  | cons e o ih =>
    simp only [yW,yT]
    cases h:eqI .str x e.1 with
    | true =>
      simp only [cond_true,yT]
      have:eqI .str z e.1 = eqI .str z x:=by rw [zO8] at *; rw [zO8]; have:=eq_of_beq h; rw [this]
      cases h2:eqI .str z e.1 with
      | true=>rfl
      | false=>rw [← this,h2]; simp
    | false =>
      simp only [cond_false,yT,ih]
      cases eqI .str z e.1 <;> rfl
theorem z8v (o:List (ByteArray × Int)) (x:ByteArray) (v:Int):(yW .str o x v).length = o.length + (bif yT .str o x then 0 else 1):=by
  induction o with
  | nil=>rfl
  | cons e o ih =>
    simp only [yW,yT]
    cases h:eqI .str x e.1 with
    | true=>simp only [cond_true,List.length_cons,Nat.add_zero]
    | false =>
      simp only [cond_false,List.length_cons,ih]
      generalize (bif yT .str o x then 0 else 1) = n
      omega
def zQw:List ByteArray→List (ByteArray × Int)→Nat
  | [],o=>o.length
  | x :: l,o=>zQw l (yW .str o x (wI (zfj .str (0:Int) o x + 1)))
theorem qa8:∀ (l:List ByteArray) (o:List (ByteArray × Int)),zQw l o ≤ o.length + l.length
  | [],o=>Nat.le_refl _
  | x :: l,o=>by
    have h:=qa8 l (yW .str o x (wI (zfj .str (0:Int) o x + 1)))
    rw [z8v] at h
    simp only [zQw,List.length_cons]
    cases hm:yT .str o x <;> (rw [hm] at h; simp only [cond_true,cond_false] at h; omega)
theorem qa9:∀ (l:List ByteArray) (o:List (ByteArray × Int)),(zQw l o == o.length + l.length) = (zqg l && l.all fun x=>!yT .str o x)
  | [],o=>by simp [zQw,zqg]
  | x :: l,o=>by
    have h:=qa8 l (yW .str o x (wI (zfj .str (0:Int) o x + 1)))
    have ih:=qa9 l (yW .str o x (wI (zfj .str (0:Int) o x + 1)))
    rw [z8v] at h ih
    simp only [zQw,List.length_cons,zqg,List.all_cons]
    cases hm:yT .str o x with
    | true =>
      rw [hm] at h
      simp only [cond_true] at h
      have:(zQw l (yW .str o x (wI (zfj .str (0:Int) o x + 1))) == o.length + (l.length + 1)) = false:=by
        simp only [beq_eq_false_iff_ne]; omega
      rw [this]
      simp
    | false =>
      rw [hm] at ih
      simp only [cond_false] at ih
      rw [show o.length + (l.length + 1) = o.length + 1 + l.length by omega,ih]
      simp only [qdz,Bool.not_or,Bool.not_false,Bool.true_and]
      have:(l.all fun z=>!yT .str o z && !eqI .str z x) = ((l.all fun z=>!yT .str o z) && !(l.any fun y=>eqI .str x y)):=by
        rw [Bool.eq_iff_iff]
        simp only [List.all_eq_true,Bool.and_eq_true,Bool.not_eq_true',List.any_eq_false,Bool.not_eq_true]
        have hs:∀ z,eqI .str z x = eqI .str x z:=fun z=>by rw [zO8,zO8]; exact Bool.beq_comm
        grind
      rw [this]
      cases zqg l <;> cases (l.all fun z=>!yT .str o z) <;> cases (l.any fun y=>eqI .str x y) <;> rfl
theorem qdA (m n:Nat):(((m:Nat):Int) == ((n:Nat):Int)) = (m == n):=by
  rw [Bool.eq_iff_iff]; simp only [beq_iff_eq]; omega
theorem qfd (l:List ByteArray) (h:l.length ≤ 1000):zpO (l,()) = some (zqg l,()):=by
  have:=zKe (B:=zkE) (l:=l) (α:=List (ByteArray × Int)) (zb .str) (fun i o=>(l,l,(l.length:Int),i,o)) (fun rest o=>some (zQw rest o == l.length,())) (by unfold Go.maxLen; omega) (fun k i x rest s hi hx _ hr hk=>by
    simp only [zkE]
    rw [ltT hi,zn hi,Int.toNat_natCast,hx]
    simp only [cond_true]
    exact hk _) (fun k s=>by
    simp only [zkE]
    rw [ltF]
    simp only [cond_false,zQw]
    rw [qdA]
    cases s.length == l.length <;> rfl) []
  refine this.trans ?_
  have h2:=qa9 l []
  simp only [List.length_nil,Nat.zero_add] at h2
  rw [h2]
  simp [yT]
def zlK (l:List jw):Bool:=within (l.length:Int) 1 8 && (l.all zji && zqg (l.map (·.1)))
theorem qci (r:zd):yt (r,()) = some (zlK r.2.2.1,()):=by
  rw [zR]
  simp only [yt,zuY,zmG,Option.bind_some]
  unfold zlK
  by_cases hw:within (List.length r.2.2.1:Int) 1 8 = true
  · have hb:1 ≤ List.length r.2.2.1 ∧ List.length r.2.2.1 ≤ 8:=by unfold within at hw; grind
    rw [zNB (p:=fun a=>!zji a) (by unfold Go.maxLen; omega) fun x _=>z8u x,qao r (by omega)]
    simp only [Option.bind_some]
    rw [qfd _ (by simp; omega)]
    simp only [Option.bind_some]
    have:=zaK (l:=r.2.2.1) (p:=zji)
    grind
  · grind
theorem z00:∀ {l:List ByteArray},zqg l = true ↔ ∀ i j:Nat,i < j→j < l.length→eqI .str (l.getD i (zb .str)) (l.getD j (zb .str)) = false
  | []=>by simp [zqg]
  | x :: l=>by
    simp only [zqg,Bool.and_eq_true,Bool.not_eq_true',List.any_eq_false,z00 (l:=l)]
    constructor
    · rintro ⟨h1,h2⟩ i j hij hj
      cases j with
      | zero=>omega
      | succ j =>
        simp only [List.length_cons] at hj
        cases i with
        | zero =>
          have:=h1 (l.getD j (zb .str)) (qg (by omega))
          simpa using this
        | succ i=>exact h2 i j (by omega) (by omega)
    · intro h
      refine ⟨fun y hy=>?_,fun i j h1 h2=>h (i + 1) (j + 1) (by omega) (by simp only [List.length_cons]; omega)⟩
      obtain ⟨j,hj,rfl⟩:=List.mem_iff_getElem.1 hy
      have:=h 0 (j + 1) (by omega) (by simp only [List.length_cons]; omega)
      simpa [List.getD,hj] using this
theorem zYf (l:List jw):zdt (l,()) = some (zlK l,()):=by
  rw [zR]
  simp only [zdt,zmD]
  unfold zlK
  by_cases h1:l.length < 1
  · unfold within; grind
  by_cases h2:l.length > 8
  · unfold within; grind
  have hl:l.length ≤ Go.maxLen:=by unfold Go.maxLen; omega
  have inner:∀ k0 (j:Nat),j < l.length→ziF K0 k0 (l,(j:Int),0) = bif ql (fun i=>!eqI .str (l.getD i jG).1 (l.getD j jG).1) 0 j then k0 (l,wI ((j:Int) + 1)) else some (false,()):=fun k0 j hj =>
    qG (i0:=0) (n:=j) (by omega) (Nat.zero_le _) (fun i=>(l,(j:Int),i)) (fun k i h3 h4=>by
      simp only [ziE]
      rw [ltT h4,zn (by omega),zn hj,zS,zS,← zO8]
      simp only [cond_true]
      cases eqI .str (l.getD i jG).1 (l.getD j jG).1 <;> rfl) (fun k=>by simp only [ziE]; rw [ltF]; rfl)
  have hloop:zp5 j7 K0 (l,0) = bif ql (fun j=>zji (l.getD j jG) && ql (fun i=>!eqI .str (l.getD i jG).1 (l.getD j jG).1) 0 j) 0 (l.length - 0) then some (true,()) else some (false,()) :=
    qG (i0:=0) hl (Nat.zero_le _) (fun i=>(l,i)) (fun k i h3 h4=>by
      simp only [zea]
      rw [ltT h4]
      simp only [zn h4,zS,zEL,Option.bind_some,cond_true]
      rw [inner k i h4]
      unfold zji within
      grind) (fun k=>by simp only [zea]; rw [ltF]; rfl)
  rw [hloop]
  have hw:within (l.length:Int) 1 8 = true:=by unfold within; grind
  have key:ql (fun j=>zji (l.getD j jG) && ql (fun i=>!eqI .str (l.getD i jG).1 (l.getD j jG).1) 0 j) 0 (l.length - 0) = (l.all zji && zqg (l.map (·.1))):=by
    have hm:∀ i,i < l.length→(l.map (·.1)).getD i (zb .str) = (l.getD i jG).1:=fun i hi=>by simp [List.getD,hi]
    rw [Bool.eq_iff_iff,Bool.and_eq_true,ju,z00,List.all_eq_true]
    constructor
    · intro h
      refine ⟨fun x hx=>?_,fun i j h3 h4=>?_⟩
      · obtain ⟨i,hi,rfl⟩:=List.mem_iff_getElem.1 hx
        have e:l.getD i jG = l[i]:=by simp [List.getD,hi]
        rw [← e]
        have:=h i (by omega) (by omega)
        grind
      · rw [List.length_map] at h4
        rw [hm i (by omega),hm j h4]
        have:=h j (by omega) (by omega)
        simp only [Bool.and_eq_true,ju] at this
        have:=this.2 i (by omega) (by omega)
        simpa using this
    · rintro ⟨h3,h4⟩ j h5 h6
      simp only [Bool.and_eq_true,ju]
      refine ⟨h3 _ (qg (by omega)),fun i h7 h8=>?_⟩
      have:=h4 i j (by omega) (by rw [List.length_map]; omega)
      rw [hm i (by omega),hm j (by omega)] at this
      rw [this]; rfl
  rw [key,hw]
  grind
def zBZ (r:zd):Bool:=within (r.2.1.length:Int) 1 8 && r.2.1.all fun i=>decide (0 ≤ i) && decide (i < (r.1.length:Int))
theorem qfe (r:zd) (h:r.1.length ≤ 1000):zbl (r,()) = some (zBZ r,()):=by
  rw [zR]
  simp only [zbl,zDZ,zmG,Option.bind_some]
  unfold zBZ
  by_cases hw:within (List.length r.2.1:Int) 1 8 = true
  · have hb:1 ≤ List.length r.2.1 ∧ List.length r.2.1 ≤ 8:=by unfold within at hw; grind
    have hq:∀ x:Int,(fun z:Int × Unit=>zcd (z.1,some r,())) (x,()) = some (!(decide (0 ≤ x) && decide (x < (r.1.length:Int))),()):=fun x=>by
      show zcd _ = _
      simp only [zcd,zxs,zmG,Option.bind_some]
      have:wI (((List.length r.1:Nat):Int) - 1) = (r.1.length:Int) - 1:=by
        unfold wI
        exact IntWalk.i64_in _ (by omega)
      rw [this]
      unfold within
      grind
    rw [zed (by unfold Go.maxLen; omega) fun x _=>hq x]
    simp only [Option.bind_some]
    have:=zaK (l:=r.2.1) (p:=fun i=>decide (0 ≤ i) && decide (i < (r.1.length:Int)))
    grind
  · grind
def zFE (r:zd):Bool:=within r.2.2.2.2.2.1 0 24 && (within r.2.2.2.2.2.2.1 0 48 && (within r.2.2.2.2.2.2.2.1 1 4 && within r.2.2.2.2.2.2.2.2.1 1 16))
theorem qfN (r:zd):zcg (r,()) = some (zFE r,()):=by
  simp only [zcg,zIl,zmG,Option.bind_some,zFE]; grind
def znU (q:vU):Bool:=within q.1 0 12 && (within q.2.1 0 12 && (within q.2.2.1 0 12 && (within q.2.2.2.1 0 12 && within q.2.2.2.2.1 0 12)))
def zyq:Int→List vU→Bool
  | _,[]=>true
  | left,q :: l=>znU q && (decide (q.2.2.2.2.2.1 ≤ left) && zyq (wU (left - q.2.2.2.2.2.1)) l)
theorem qcj (x:Int):zbr (x,()) = some (!within x 0 12,()):=by
  simp only [zbr,zu1,zmG,Option.bind_some]; grind
def zlC (n:Nat) (l:List vU):Bool:=decide (l.length = n) && (decide (0 < l.length) && (decide (1 ≤ (l.getD 0 zD).1) && zyq 4611686018427387904 l))
theorem qev (r:zd) (h:1 ≤ r.1.length ∧ r.1.length ≤ 1000):zap (r,()) = some (zlC r.1.length r.2.2.2.2.1,()):=by
  rw [zR]
  simp only [zap,zqK]
  unfold zlC
  by_cases hn:r.2.2.2.2.1.length = r.1.length
  · have hl:r.2.2.2.2.1.length ≤ Go.maxLen:=by unfold Go.maxLen; omega
    have hloop:zu2 zbr zeg zQ K0 (4611686018427387904,r.2.2.2.2.1,(r.2.2.2.2.1.length:Int),0) = some (zyq 4611686018427387904 r.2.2.2.2.1,()) :=
      zKe (l:=r.2.2.2.2.1) (α:=Int) zD (fun i s=>(s,r.2.2.2.2.1,(r.2.2.2.2.1.length:Int),i)) (fun rest s=>some (zyq s rest,())) hl (fun k i x rest s hi hx _ hr hk=>by
        simp only [zmj]
        rw [ltT hi,zn hi]
        simp only [zS,hx,cond_true]
        have hnum:zeg (x,()) = some ([x.1,x.2.1,x.2.2.1,x.2.2.2.1,x.2.2.2.2.1],()):=rfl
        rw [hnum]
        simp only [Option.bind_some]
        rw [zed (p:=fun n=>!within n 0 12) (l:=[x.1,x.2.1,x.2.2.1,x.2.2.2.1,x.2.2.2.2.1]) (by unfold Go.maxLen; simp) fun n _=>qcj n]
        simp only [Option.bind_some,hk,zyq,znU,List.any_cons,List.any_nil]
        grind) (fun k s=>by simp only [zmj]; rw [ltF]; rfl) _
    rw [hloop,z26]
    have h1:(((List.length r.2.2.2.2.1:Nat):Int) != ((List.length r.1:Nat):Int)) = false:=by rw [zs0]; simp [hn]
    rw [h1]
    grind
  · have h1:(((List.length r.2.2.2.2.1:Nat):Int) != ((List.length r.1:Nat):Int)) = true:=by rw [zs0]; simp [hn]
    rw [h1]
    grind
theorem z5P (x:Int):zcQ (x,()) = some (within x 0 12,()):=by
  simp only [zcQ,zEs,within]; grind
theorem z28 (l:List vU) (hl:l.length ≤ Go.maxLen):zfT (l,()) = some (zlC l.length l,()):=by
  rw [zR]
  show iter (zdw zcQ) K0 (l,4611686018427387904,0) = _
  have hloop:iter (zdw zcQ) K0 (l,4611686018427387904,0) = some (zyq 4611686018427387904 l && (decide (0 < l.length) && decide (1 ≤ (l.getD 0 zD).1)),()) :=
    zKe (l:=l) (α:=Int) zD (fun i s=>(l,s,i)) (fun rest s=>some (zyq s rest && (decide (0 < l.length) && decide (1 ≤ (l.getD 0 zD).1)),())) hl (fun k i x rest s hi hx _ hr hk=>by
      simp only [zdw]
      rw [ltT hi,zn hi]
      simp only [zS,hx,cond_true,z5P,Option.bind_some,hk,zyq,znU]
      grind) (fun k s=>by
      simp only [zdw]
      rw [ltF,z26]
      simp only [zyq]
      grind) _
  rw [hloop]
  unfold zlC
  grind
end Go.Proofs.YtaokpakfhdeiiaaGreatDoor
end
section
namespace Go.Proofs.YtaokpakfhdeiiaaGreatDoor
open Go.Ev
def zYg (b:Int):Int:=((2 ^ b.toNat:Nat):Int)
def zcw (b:Int):Bool:=decide (0 ≤ b) && decide (b < 64)
theorem qdB {b:Int} (h:zcw b = true):Go.IntKind.wrap .u64 (1 * 2 ^ (min (Int.toNat b) (Go.IntKind.bits .u64))) = zYg b:=by
  unfold zcw at h
  simp only [Bool.and_eq_true,decide_eq_true_eq] at h
  obtain ⟨n,rfl⟩:=Int.eq_ofNat_of_zero_le h.1
  have hn:n < 64:=by omega
  unfold zYg
  rw [Int.toNat_natCast]
  have hm:min n (Go.IntKind.bits .u64) = n:=Nat.min_eq_left (by show n ≤ 64; omega)
  rw [hm]
  have:∀ n:Fin 64,Go.IntKind.wrap .u64 (1 * 2 ^ n.val) = ((2 ^ n.val:Nat):Int):=by decide +kernel
  exact this ⟨n,hn⟩
theorem zyr {n:Int} (h:0 ≤ n ∧ n < 18446744073709551616):Go.IntKind.wrap .u64 n = n:=by
  show n % ((2 ^ 64:Nat):Int) = n
  exact Int.emod_eq_of_lt h.1 (by have:((2 ^ 64:Nat):Int) = 18446744073709551616:=by decide
                                  omega)
def hasB (c:Int) (b:Nat):Bool:=c.toNat.testBit b
theorem has_eq (c b:Int) (hc:0 ≤ c) (hb:0 ≤ b ∧ b < 64):(Int.tmod (Int.fdiv c (2 ^ min (Int.toNat (Go.IntKind.wrap .u64 b)) (Go.IntKind.bits .u64))) 2 == 1) = hasB c b.toNat:=by
  obtain ⟨n,rfl⟩:=Int.eq_ofNat_of_zero_le hc
  obtain ⟨m,rfl⟩:=Int.eq_ofNat_of_zero_le hb.1
  rw [zyr (by omega)]
  have hm:min (Int.toNat (m:Int)) (Go.IntKind.bits .u64) = m:=Nat.min_eq_left (by show (m:Int).toNat ≤ 64; omega)
  rw [hm]
  unfold hasB
  have h2:Int.fdiv (n:Int) (2 ^ m) = ((n / 2 ^ m:Nat):Int):=by
    rw [show ((2:Int) ^ m) = ((2 ^ m:Nat):Int) by simp]
    rw [Int.fdiv_eq_ediv_of_nonneg _ (Int.natCast_nonneg _)]
    rfl
  have h3:Int.tmod ((n / 2 ^ m:Nat):Int) 2 = ((n / 2 ^ m % 2:Nat):Int):=by
    rw [Int.tmod_eq_emod_of_nonneg (Int.natCast_nonneg _)]
    rfl
  rw [h2,h3,Int.toNat_natCast,Int.toNat_natCast,Nat.testBit_eq_decide_div_mod_eq]
  have:(((n / 2 ^ m % 2:Nat):Int) == 1) = decide (n / 2 ^ m % 2 = 1):=by
    by_cases h:n / 2 ^ m % 2 = 1
    · rw [h]; rfl
    · rw [decide_eq_false h]
      cases hx:(((n / 2 ^ m % 2:Nat):Int) == 1) with
      | false=>rfl
      | true=>exact absurd (Int.ofNat.inj (by simpa using hx)) h
  exact this
def zq4 (a b:Int):Int:=Go.IntKind.wrap .u64 (BitVec.toNat (BitVec.ofInt (Go.IntKind.bits .u64) a &&& ~~~BitVec.ofInt (Go.IntKind.bits .u64) b):Int)
def orI (a b:Int):Int:=Go.IntKind.wrap .u64 (BitVec.toNat (BitVec.ofInt (Go.IntKind.bits .u64) a ||| BitVec.ofInt (Go.IntKind.bits .u64) b):Int)
def zFF:Int→List qe→Int
  | a,[]=>a
  | a,g :: gs=>zFF (orI a (zYg g.1)) gs
theorem zB0 (n:Nat):BitVec.ofInt (Go.IntKind.bits .u64) (n:Int) = BitVec.ofNat 64 n:=by
  show BitVec.ofInt 64 (n:Int) = BitVec.ofNat 64 n
  apply BitVec.eq_of_toNat_eq
  rw [BitVec.toNat_ofInt,BitVec.toNat_ofNat]
  omega
theorem qeW (x:BitVec 64):Go.IntKind.wrap .u64 (x.toNat:Int) = (x.toNat:Int):=by
  have:=x.isLt
  exact zyr (by omega)
theorem qff (a b:Nat) (ha:a < 2 ^ 64) (hb:b < 2 ^ 64):orI (a:Int) (b:Int) = ((a ||| b:Nat):Int):=by
  unfold orI
  rw [zB0,zB0]
  show Go.IntKind.wrap .u64 ((BitVec.ofNat 64 a ||| BitVec.ofNat 64 b).toNat:Int) = _
  rw [qeW,BitVec.toNat_or,BitVec.toNat_ofNat,BitVec.toNat_ofNat,Nat.mod_eq_of_lt ha,Nat.mod_eq_of_lt hb]
theorem zWy (c m:Nat) (hc:c < 2 ^ 64) (hm:m < 2 ^ 64):(zq4 (c:Int) (m:Int) != 0) = !((List.range' 0 64).all fun i=>!c.testBit i || m.testBit i):=by
  unfold zq4
  rw [zB0,zB0]
  show (Go.IntKind.wrap .u64 ((BitVec.ofNat 64 c &&& ~~~BitVec.ofNat 64 m).toNat:Int) != 0) = _
  rw [qeW]
  have hbit:∀ i,i < 64→(BitVec.ofNat 64 c &&& ~~~BitVec.ofNat 64 m).getLsbD i = (c.testBit i && !m.testBit i):=by
    intro i hi
    rw [BitVec.getLsbD_and,BitVec.getLsbD_not,BitVec.getLsbD_ofNat,BitVec.getLsbD_ofNat]
    simp [hi]
  by_cases h:((List.range' 0 64).all fun i=>!c.testBit i || m.testBit i) = true
  · rw [h]
    have h0:(BitVec.ofNat 64 c &&& ~~~BitVec.ofNat 64 m) = 0#64:=by
      apply BitVec.eq_of_getLsbD_eq
      intro i hi
      rw [hbit i hi]
      have:=List.all_eq_true.1 h i (by simp [List.mem_range'_1]; omega)
      revert this
      cases c.testBit i <;> cases m.testBit i <;> simp
    rw [h0]
    rfl
  · have h':=h
    simp only [Bool.not_eq_true] at h'
    rw [h']
    have:(BitVec.ofNat 64 c &&& ~~~BitVec.ofNat 64 m).toNat ≠ 0:=by
      intro h0
      apply h
      rw [List.all_eq_true]
      intro i hi
      simp only [List.mem_range'_1] at hi
      have hb:=hbit i (by omega)
      have e0:(BitVec.ofNat 64 c &&& ~~~BitVec.ofNat 64 m) = 0#64:=BitVec.eq_of_toNat_eq (by rw [h0]; rfl)
      rw [e0] at hb
      revert hb
      cases c.testBit i <;> cases m.testBit i <;> simp
    rw [Bool.not_false,bne_iff_ne]
    omega
theorem qew {b:Int} (h:zcw b = true):∃ n:Nat,b = n ∧ n < 64 ∧ zYg b = ((2 ^ n:Nat):Int):=by
  unfold zcw at h
  simp only [Bool.and_eq_true,decide_eq_true_eq] at h
  obtain ⟨n,rfl⟩:=Int.eq_ofNat_of_zero_le h.1
  exact ⟨n,rfl,by omega,rfl⟩
theorem z01:∀ (l:List qe) (m:Nat),m < 2 ^ 64→(∀ g ∈ l,zcw g.1 = true)→∃ k:Nat,zFF (m:Int) l = (k:Int) ∧ k < 2 ^ 64 ∧ ∀ i:Nat,k.testBit i = (m.testBit i || l.any fun g=>g.1 == (i:Int))
  | [],m,hm,_=>⟨m,rfl,hm,fun i=>by simp⟩
  | g :: l,m,hm,h=>by
    obtain ⟨n,hn,hn64,hv⟩:=qew (h g (by simp))
    have hp:2 ^ n < 2 ^ 64:=Nat.pow_lt_pow_right (by omega) hn64
    obtain ⟨k,hk,hk64,hb⟩:=z01 l (m ||| 2 ^ n) (Nat.or_lt_two_pow hm hp) fun g hg=>h g (by simp [hg])
    refine ⟨k,?_,hk64,fun i=>?_⟩
    · simp only [zFF]
      rw [hv,qff m (2 ^ n) hm hp]
      exact hk
    · rw [hb i,Nat.testBit_or,Nat.testBit_two_pow,List.any_cons,hn,Bool.or_assoc]
      congr 2
      by_cases e:n = i
      · subst e; simp
      · rw [decide_eq_false e]
        symm
        simp only [beq_eq_false_iff_ne,ne_eq]
        omega
def zU7 (l:List qe) (c:Int) (i k:Nat):Bool:=(List.range' i k).all fun b=>!hasB c b || l.any fun g=>g.1 == (b:Int)
def zUE (labels:List zz) (l:List qe):Bool:=labels.all fun a=>zU7 l a.2.1 0 64
def zJz (l:List zz):Prop:=∀ a ∈ l,0 ≤ a.2.1 ∧ a.2.1 < 18446744073709551616
theorem qfO (labels:List zz) (l:List qe) (hl:zJz labels) (h:∀ g ∈ l,zcw g.1 = true):(labels.any fun a=>zq4 a.2.1 (zFF 0 l) != 0) = !zUE labels l:=by
  obtain ⟨k,hk,hk64,hb⟩:=z01 l 0 (by decide) h
  have hk':zFF 0 l = (k:Int):=hk
  rw [hk']
  unfold zUE
  have key:∀ ls:List zz,zJz ls→(ls.any fun a=>zq4 a.2.1 (k:Int) != 0) = !(ls.all fun a=>zU7 l a.2.1 0 64):=by
    intro ls
    induction ls with
    | nil=>intro _; rfl
    | cons a ls ih =>
      intro ha
      have h1:=ha a (by simp)
      rw [List.any_cons,List.all_cons,ih fun b hb=>ha b (by simp [hb]),Bool.not_and]
      congr 1
      obtain ⟨c,hc⟩:=Int.eq_ofNat_of_zero_le h1.1
      rw [hc,zWy c k (by omega) hk64]
      congr 1
      unfold zU7
      congr 1
      funext i
      rw [hb i]
      unfold hasB
      simp
  exact key labels hl
def zQx (b:Int):zz:=(0,zYg b,())
theorem z8w (b:Int):zgj (b,()) = some (bif zcw b then (zQx b,0,()) else ((0,0,()),1,())):=by
  simp only [zgj,zIh]
  cases h:zcw b with
  | true =>
    have hs:wU (1 * 2 ^ min (Int.toNat b) (Go.IntKind.bits .u64)) = zYg b:=qdB h
    rw [hs]
    simp only [zcw,Bool.and_eq_true,decide_eq_true_eq] at h
    simp only [zQx]
    grind
  | false =>
    simp only [zcw,Bool.and_eq_false_iff,decide_eq_false_iff_not] at h
    grind
theorem qck (a:zz) (c:Int):zdh (a,some c,()) = some (zq4 a.2.1 c != 0,()):=by
  rw [zR]; rfl
theorem qcl (a b:zz):eqI zw a b = eqI zw b a:=by
  rw [zLq,zLq]
  grind
theorem zYh {σ α:Type} {B:(σ→Option (Int × Unit))→σ→Option (Int × Unit)} {l:List α} (d:α) {p:α→Bool} (st:Int→σ) (hl:l.length ≤ Go.maxLen)
    (hin:∀ k (i:Nat) x,i < l.length→l.getD i d = x→x ∈ l→B k (st i) = bif p x then some ((i:Int),()) else k (st (wI (i + 1)))) (hout:∀ k,B k (st l.length) = some (-1,())):iter B K0 (st 0) = some (zaz p l 0,()):=by
  have:=zhx (α:=Unit) (B:=B) hl (fun i _=>st i) (fun i _=>some (zaz p (l.drop i) i,())) (fun _ _=>True) (fun k i s hi _ h=>?_) (fun k s _=>?_) () trivial
  · simpa using this
  · rw [hin k i _ hi rfl (qg hi),h () trivial,zia d hi]
    simp only [zaz]
    cases p (l.getD i d) <;> rfl
  · rw [hout,List.drop_of_length_le (Nat.le_refl _)]; rfl
theorem qex {σ α ρ:Type} {B:(σ→Option ρ)→σ→Option ρ} {l:List α} (d:α) {p:α→Bool} {fin hit:Option ρ} (st:Int→σ) (hl:l.length ≤ Go.maxLen)
    (hin:∀ k (i:Nat) x,i < l.length→l.getD i d = x→x ∈ l→B k (st i) = bif p x then hit else k (st (wI (i + 1)))) (hout:∀ k,B k (st l.length) = fin):iter B K0 (st 0) = bif l.any p then hit else fin:=by
  have:=yK (B:=B) (p:=fun x=>!p x) (fin:=fin) (bad:=hit) d st hl (fun k i x h1 h2 h3=>by
    rw [hin k i x h1 h2 h3]; cases p x <;> rfl) hout
  rw [this,← List.not_any_eq_all_not]
  cases l.any p <;> rfl
theorem zYi {l:List zz} {a:zz} (hl:l.length ≤ Go.maxLen):yL (l,a,()) = some (l.any fun y=>eqI zw a y,()):=by
  have h:zgk (l,a,()) = some (zaz (fun y=>eqI zw a y) l 0,()) :=
    zYh (B:=zd0) (l:=l) qm (fun i=>(l,(l.length:Int),i,a)) hl (fun k i x hi hx _=>by
      simp only [zd0]
      rw [ltT hi,zn hi,zS,hx]; rfl) (fun k=>by simp only [zd0]; rw [ltF]; rfl)
  rw [zR]
  simp only [yL,zoo,h,Option.bind_some]
  rw [zPB (p:=fun y=>eqI zw a y) l 0 (Int.le_refl 0)]
theorem z3Q {α:Type} {p:α→Bool}:∀ (xs:List α) (i:Int),0 ≤ i→decide (zaz p xs i < 0) = !xs.any p
  | [],_,_=>rfl
  | x :: xs,i,h=>by
    have ih:=z3Q (p:=p) xs (i + 1) (by omega)
    simp only [zaz,List.any_cons]
    by_cases hp:p x = true
    · simp [hp]; omega
    · simp only [Bool.not_eq_true] at hp
      simpa [hp] using ih
theorem z8x (b:Int) (h:zcw b = true):zgF (b,()) = some (zQx b,()):=by
  simp only [zgF,zJg]
  have hs:=qdB h
  simp only [zcw,Bool.and_eq_true,decide_eq_true_eq] at h
  have hw:wU b = b:=zyr (by omega)
  rw [hw,decide_eq_false (by omega),cond_false]
  exact congrArg (fun z:Int=>some (((0,z,()),()):zz × Unit)) hs
theorem z5Q {l:List zz} {a:zz} (hl:l.length ≤ Go.maxLen):zhN (l,a,()) = some (zaz (fun y=>eqI zw y a) l 0,()) :=
  zYh (B:=ziH) (l:=l) qm (fun i=>(l,i,a)) hl (fun k i x hi hx _=>by
      simp only [ziH]
      rw [ltT hi,zn hi,zS,hx]; rfl) (fun k=>by simp only [ziH]; rw [ltF]; rfl)
theorem qap {l:List qe} {b:Int} (hl:l.length ≤ Go.maxLen):zdN (l,b,()) = some (l.any fun g=>(g.1:Int) == b,()):=by
  rw [zR]
  exact qex (B:=zm2) (l:=l) qj (fun i=>(l,b,i)) hl (fun k i x hi hx _=>by
      simp only [zm2]
      rw [ltT hi,zn hi,zS,hx]; rfl) (fun k=>by simp only [zm2]; rw [ltF]; rfl)
theorem zBr (a:zz) (b:Int) (ha:0 ≤ a.2.1) (hb:0 ≤ b ∧ b < 64):j4 (a,b,()) = some (hasB a.2.1 b.toNat,()):=by
  rw [zR]
  simp only [j4,zNj]
  have hh:=has_eq a.2.1 b ha hb
  have hw:wU b = b:=zyr (by omega)
  rw [hw,decide_eq_false (by omega),cond_false,← hh]
  have hw':Go.IntKind.wrap .u64 b = b:=hw
  rw [hw']
def zYj (labels:List zz) (n:Nat) (last:Int) (g:qe):Bool:=zcw g.1 && (decide (last < g.1) && (within g.2.1 0 ((n:Int) - 1) && labels.any fun y=>eqI zw (zQx g.1) y))
def zqh (labels:List zz) (n:Nat):Int→List qe→Bool
  | _,[]=>true
  | last,g :: gs=>zYj labels n last g && zqh labels n g.1 gs
def zAX (labels:List zz) (n:Nat) (l:List qe):Bool:=decide (l.length ≤ 8) && (zqh labels n (-1) l && zUE labels l)
theorem zUF {labels:List zz} {m:Nat}:∀ (l:List qe) (last:Int),zqh labels m last l = true→∀ g ∈ l,zcw g.1 = true
  | [],_,_,g,hg=>by cases hg
  | a :: l,last,h,g,hg=>by
    simp only [zqh,zYj,Bool.and_eq_true] at h
    rcases List.mem_cons.1 hg with rfl | hg
    · exact h.1.1
    · exact zUF l a.1 h.2 g hg
theorem qey (r:zd) (h1:r.1.length ≤ Go.maxLen) (h2:r.2.2.1.length ≤ 1000000) (h3:r.2.2.2.1.length ≤ Go.maxLen) (hL:zJz r.1):zao (r,()) = some (zAX r.1 r.2.2.1.length r.2.2.2.1,()):=by
  have hloop:zao (r,()) = some (zqh r.1 r.2.2.1.length (-1) r.2.2.2.1 && (decide (r.2.2.2.1.length ≤ 8) && !(r.1.any fun a=>zq4 a.2.1 (zFF 0 r.2.2.2.1) != 0)),()) :=
    zKe (B := zgm zgj zU yL zdh jH) (l:=r.2.2.2.1) (α:=Int × Int) qj (fun i s=>(s.1,r.2.2.2.1,(r.2.2.2.1.length:Int),i,r,s.2))
      (fun rest s=>some (zqh r.1 r.2.2.1.length s.1 rest && (decide (r.2.2.2.1.length ≤ 8) && !(r.1.any fun a=>zq4 a.2.1 (zFF s.2 rest) != 0)),())) h3 (fun k i x rest s hi hx _ hr hk=>by
        simp only [zgm]
        have hw:wI (((List.length r.2.2.1:Nat):Int) - 1) = (r.2.2.1.length:Int) - 1:=by
          unfold wI
          exact IntWalk.i64_in _ (by omega)
        rw [ltT hi,zn hi,hw]
        simp only [zS,hx,cond_true,z8w,Option.bind_some,zqh,zYj,zFF]
        cases hb:zcw x.1 with
        | false=>rfl
        | true =>
          simp only [cond_true,zmG,Option.bind_some,Bool.true_and,zYi h1]
          have hk':=hk (x.1,orI s.2 (zYg x.1))
          have e:decide (s.1 < x.1) = !decide ((x.1:Int) ≤ s.1):=by grind
          rw [e]
          cases decide ((x.1:Int) ≤ s.1) with
          | true=>rfl
          | false =>
            cases within x.2.1 0 ((r.2.2.1.length:Int) - 1) with
            | false=>rfl
            | true =>
              cases (r.1.any fun y=>eqI zw (zQx x.1) y) with
              | false=>rfl
              | true=>exact hk') (fun k s=>by
        simp only [zgm]
        rw [ltF]
        simp only [cond_false,zqh,zFF,Bool.true_and]
        rw [zym (p:=fun a=>zq4 a.2.1 s.2 != 0) h1 fun x _=>qck x s.2,Option.bind_some]
        grind) (-1,0)
  rw [hloop]
  unfold zAX
  cases hr:zqh r.1 r.2.2.1.length (-1) r.2.2.2.1 with
  | false=>simp
  | true =>
    rw [qfO r.1 r.2.2.2.1 hL (zUF _ _ hr)]
    simp
theorem z02 {labels:List zz} {n:Nat}:∀ {l:List qe} {last:Int},zqh labels n last l = ql (fun i=>zYj labels n (if i = 0 then last else (l.getD (i - 1) qj).1) (l.getD i qj)) 0 l.length:=by
  intro l
  induction l with
  | nil=>intro last; rfl
  | cons a l ih =>
    intro last
    simp only [zqh,List.length_cons,ql,ih]
    rw [Bool.eq_iff_iff]
    simp only [Bool.and_eq_true,ju]
    constructor
    · rintro ⟨h1,h2⟩
      refine ⟨h1,fun j h3 h4=>?_⟩
      obtain ⟨i,rfl⟩:∃ i,j = i + 1:=⟨j - 1,by omega⟩
      have:=h2 i (by omega) (by omega)
      rw [if_neg (by omega)]
      by_cases e:i = 0
      · subst e; simpa using this
      · rw [if_neg e] at this
        obtain ⟨m,rfl⟩:∃ m,i = m + 1:=⟨i - 1,by omega⟩
        exact this
    · rintro ⟨h1,h2⟩
      refine ⟨h1,fun j h3 h4=>?_⟩
      have:=h2 (j + 1) (by omega) (by omega)
      rw [if_neg (by omega)] at this
      by_cases e:j = 0
      · subst e; simpa using this
      · rw [if_neg e]
        obtain ⟨m,rfl⟩:∃ m,j = m + 1:=⟨j - 1,by omega⟩
        exact this
theorem z29 (l:List qe) (labels:List zz) (n:Nat) (h1:labels.length ≤ Go.maxLen) (hL:zJz labels):zfS (l,labels,(n:Int),()) = some (zAX labels n l,()):=by
  rw [zR]
  simp only [zfS,zqY]
  unfold zAX
  by_cases h8:l.length ≤ 8
  · have hl:l.length ≤ Go.maxLen:=by unfold Go.maxLen; omega
    have bits:∀ k1 (j:Nat),j < labels.length→iter (zdv j4 zdN k1) K0 (l,labels,(j:Int),0) = bif zU7 l (labels.getD j qm).2.1 0 64 then k1 (l,labels,wI ((j:Int) + 1)) else some (false,()):=fun k1 j hj=>by
      have hc:=(hL _ (qg (d:=qm) hj)).1
      have:=z3K (B:=zdv j4 zdN k1) (n:=64) (by unfold Go.maxLen; omega) (p:=fun b=>!hasB (labels.getD j qm).2.1 b || l.any fun g=>(g.1:Int) == (b:Int)) (fin:=k1 (l,labels,wI ((j:Int) + 1))) (bad:=some (false,())) (fun i=>(l,labels,(j:Int),i)) (fun k i hi=>by
        simp only [zdv]
        rw [decide_eq_true (by omega),zn hj,zS,zBr _ _ hc (by omega),qap hl,Int.toNat_natCast]
        simp only [cond_true,Option.bind_some]
        grind) (fun k=>by
        simp only [zdv]
        rfl)
      rw [this]
      unfold zU7
      rw [List.range_eq_range']
    have cover:zmE j4 zdN K0 (l,labels,0) = some (zUE labels l,()):=by
      rw [zR]
      exact yK (l:=labels) qm (p:=fun a=>zU7 l a.2.1 0 64) (fun i=>(l,labels,i)) h1 (fun k i x hi hx _=>by
        simp only [zgI]
        rw [ltT hi,cond_true]
        refine (bits k i hi).trans ?_
        rw [hx]) (fun k=>by simp only [zgI]; rw [ltF]; rfl)
    have hloop:zvn zgF zhN j4 zdN K0 (l,labels,(n:Int),0) = bif ql (fun i=>zYj labels n (if i = 0 then -1 else (l.getD (i - 1) qj).1) (l.getD i qj)) 0 (l.length - 0) then some (zUE labels l,()) else some (false,()) :=
      qG (i0:=0) hl (Nat.zero_le _) (fun i=>(l,labels,(n:Int),i)) (fun k i h3 h4=>by
        simp only [zgJ]
        rw [ltT h4]
        simp only [zn h4,cond_true,zS,zYj]
        by_cases hb:zcw (l.getD i qj).1 = true
        · rw [z8x _ hb,Option.bind_some,z5Q h1,Option.bind_some,hb]
          have ha:(labels.any fun y=>eqI zw y (zQx (l.getD i qj).1)) = labels.any fun y=>eqI zw (zQx (l.getD i qj).1) y:=by congr 1; funext y; exact qcl _ _
          rw [z3Q labels 0 (Int.le_refl 0),ha]
          simp only [zcw,Bool.and_eq_true,decide_eq_true_eq] at hb
          by_cases hi0:i = 0
          · subst hi0
            unfold within
            grind
          · rw [zvw (by omega) (by unfold Go.maxLen; omega),zn (by omega),Int.toNat_natCast,if_neg hi0]
            unfold within
            grind
        · simp only [Bool.not_eq_true] at hb
          rw [hb]
          simp only [zcw,Bool.and_eq_false_iff,decide_eq_false_iff_not] at hb
          grind) (fun k=>by
        simp only [zgJ]
        rw [ltF,cond_false]
        exact cover)
    rw [hloop,z02]
    grind
  · grind
def qn (r:zd):Bool:=zex r.1 && (zBZ r && (zlK r.2.2.1 && (zAX r.1 r.2.2.1.length r.2.2.2.1 && (zlC r.1.length r.2.2.2.2.1 && zFE r))))
structure jC (r:zd):Prop where
  labels:zJz r.1
  guilds:r.2.2.2.1.length ≤ Go.maxLen
  quotas:r.2.2.2.2.1.length ≤ Go.maxLen
theorem znA (r:zd) (h:jC r):jD (r,()) = some (qn r,()):=by
  rw [zR]
  show iter zoM K0 (6,0,r,[some zan,some zbl,some yt,some zao,some zap,some zcg]) = _
  obtain ⟨m,hm⟩:=zU6
  have hu:iter zoM (m + 8) (6,0,r,[some zan,some zbl,some yt,some zao,some zap,some zcg]) =
    Option.bind (zan (r,())) fun q=>bif q.1 then Option.bind (zbl (r,())) fun q=>bif q.1 then Option.bind (yt (r,())) fun q=>bif q.1 then Option.bind (zao (r,())) fun q=>bif q.1 then Option.bind (zap (r,())) fun q=>bif q.1 then Option.bind (zcg (r,())) fun q=>bif q.1 then some (true,()) else some (false,()) else some (false,()) else some (false,()) else some (false,()) else some (false,()) else some (false,()):=by kernel_rfl
  rw [hm,hu,qet]
  unfold qn
  simp only [Option.bind_some]
  cases h1:zex r.1 with
  | false=>rfl
  | true =>
    have hb:1 ≤ r.1.length ∧ r.1.length ≤ 8:=by unfold zex within at h1; grind
    rw [qfe r (by omega),qci]
    simp only [Option.bind_some,cond_true]
    cases zBZ r with
    | false=>rfl
    | true =>
      cases h2:zlK r.2.2.1 with
      | false=>rfl
      | true =>
        have hc:r.2.2.1.length ≤ 8:=by unfold zlK within at h2; grind
        rw [qey r (by unfold Go.maxLen; omega) (by omega) h.guilds h.labels,qev r (by omega),qfN]
        simp only [Option.bind_some]
        grind
theorem zEM (r:zd) (h:jC r):yd (r,()) = some (qn r,()):=by
  rw [zR]
  simp only [yd,ztr,z27,zYf,Option.bind_some]
  unfold qn
  cases h1:zex r.1 with
  | false=>rfl
  | true =>
    have hb:1 ≤ r.1.length ∧ r.1.length ≤ 8:=by unfold zex within at h1; grind
    rw [z29 _ _ _ (by unfold Go.maxLen; omega) h.labels]
    simp only [Option.bind_some]
    by_cases hw:within (List.length r.2.1:Int) 1 8 = true
    · have hloop:zx6 zfT K0 (0,r) = bif (r.2.1.all fun i=>decide (0 ≤ i) && decide (i < (r.1.length:Int))) then some (zlC r.1.length r.2.2.2.2.1 && zFE r,()) else some (false,()) :=
        yK (l:=r.2.1) (0:Int) (fun i=>(i,r)) (by unfold within at hw; unfold Go.maxLen; grind) (fun k i x hi hx _=>by
          simp only [zoX]
          rw [ltT hi,zn hi,zn hi,zS,hx]
          grind) (fun k=>by
          simp only [zoX]
          rw [ltF,z28 _ h.quotas,zs0]
          simp only [Option.bind_some,zlC,zFE,within]
          by_cases hn:r.2.2.2.2.1.length = r.1.length
          · rw [hn]; grind
          · grind)
      rw [hloop]
      unfold zBZ
      unfold within at hw ⊢
      grind
    · unfold zBZ
      unfold within at hw ⊢
      grind
end Go.Proofs.YtaokpakfhdeiiaaGreatDoor
end
section
namespace Go.Proofs.YtaokpakfhdeiiaaGreatDoor
open Go.Ev
def vI (x:Int):Bool:=decide (0 ≤ x ∧ x ≤ 127)
theorem qcm (x:Int):zqM (x,()) = some (vI x,()):=by simp only [zqM,zP9,vI]; grind
theorem qaq (x:Int):zjW (x,()) = some (vI x,()):=by simp only [zjW,zNs,vI]; grind
theorem qdC (x:Int):zvE (x,()) = some (vI x,()):=by simp only [zvE,zT2,vI]; grind
theorem qar (x:Int):zjX (x,()) = some (vI x,()):=by simp only [zjX,zNt,vI]; grind
def zLr (x:jI):Bool:=vI x.1 && vI x.2.1
theorem qfg (x:jI):zkH (x,()) = some (zLr x,()):=by simp only [zkH,zIn,zLr,vI]; grind
theorem zR5 (x:jI):yB (x,()) = some (zLr x,()):=by simp only [yB,zEB,zLr,vI]; grind
def z6o (x:Int):Bool:=decide (0 ≤ x ∧ x ≤ 5)
theorem qfh (x:Int):zkI (x,()) = some (z6o x,()):=by simp only [zkI,zIo,z6o]; grind
def zJA (s:ByteArray):Bool:=ByteArray.toList s == ByteArray.toList (ByteArray.mk #[])
def znB (x:qP):Bool:=bif x.1 then zyp x.2.1 else zJA x.2.1
theorem qas {s:ByteArray} (h:zJA s = true):zyp s = false:=by
  unfold zJA at h
  have:=eq_of_beq h
  rw [Go.ByteArray.toList_eq,Go.ByteArray.toList_eq] at this
  have h2:s.size = 0:=by
    rw [← size_eq,this]; rfl
  unfold zyp; rw [h2]; rfl
theorem qdD (x:qP):zfK (x,()) = some (!znB x,()):=by
  rw [zR]
  simp only [zfK,zAu,zJy,Option.bind_some,znB,zJA]
  grind
theorem z8y {l:List qP} (hl:l.length ≤ Go.maxLen):zkG (l,()) = some (l.all znB,()):=by
  rw [zR]
  simp only [zkG,zIm]
  rw [zSJ (p:=fun x=>!znB x) hl fun x _=>qdD x,Option.bind_some,← zaK]
  cases l.any fun x=>!znB x <;> rfl
theorem z5R {l:List qP} (hl:l.length ≤ Go.maxLen):zm8 (l,()) = some (l.all znB,()):=by
  rw [zR]
  exact yK (B:=ziR j7) (l:=l) zbh (fun i=>(l,i)) hl (fun k i x hi hx _=>by
    simp only [ziR]
    rw [ltT hi]
    simp only [zn hi,zS,hx,zEL,Option.bind_some,cond_true,znB]
    have:=@qas x.2.1
    unfold zJA at this ⊢
    grind) (fun k=>by simp only [ziR]; rw [ltF]; rfl)
theorem qfi (a b:jI):eqI zY a b = ((a.1:Int) == b.1 && (a.2.1:Int) == b.2.1):=by
  show cond ((a.1:Int) == b.1) (cond ((a.2.1:Int) == b.2.1) true false) false = _
  cases ((a.1:Int) == b.1) <;> cases ((a.2.1:Int) == b.2.1) <;> rfl
def zUG (x:z5):Bool:=bif x.1 then zLr x.2.1 && (zLr x.2.2.1 && z6o x.2.2.2.1) else eqI zV x (zb zV)
theorem z8z (x:z5):zgo (x,()) = some (!zUG x,()):=by
  rw [zR]
  simp only [zgo,zIq,qfg,qfh,Option.bind_some,zUG]
  grind
def zq5 (a b:z5):Bool:=a.1 && (eqI zY a.2.1 b.2.1 && (a.2.2.2.1:Int) == b.2.2.2.1)
theorem z3a (x:z5) (r:jI) (d:Int):zfL (x,some r,some d,()) = some (x.1 && (eqI zY x.2.1 r && (x.2.2.2.1:Int) == d),()):=by
  rw [zR]
  simp only [zfL,zAw,Option.bind_some]
  grind
theorem qfj {α:Type} {d:α} {p:α→Bool}:∀ (l:List α) (i:Nat) (a:Int),i < l.length→p (l.getD i d) = true→((zaz p l a) == a + (i:Int)) = ql (fun j=>!p (l.getD j d)) 0 i:=by
  intro l
  induction l with
  | nil=>intro i a h; simp at h
  | cons x l ih =>
    intro i a h hp
    cases i with
    | zero =>
      have hx:p x = true:=hp
      simp only [zaz,hx,cond_true,ql]
      simp
    | succ i =>
      have h':i < l.length:=by simpa using h
      have hp':p (l.getD i d) = true:=hp
      have:=ih i (a + 1) h' hp'
      have e:a + 1 + (i:Int) = a + ((i + 1:Nat):Int):=by omega
      rw [e] at this
      simp only [zaz]
      rw [Bool.eq_iff_iff,ju]
      rw [Bool.eq_iff_iff,ju] at this
      cases hx:p x with
      | true =>
        simp only [cond_true]
        constructor
        · intro h1
          have:=eq_of_beq h1
          omega
        · intro h1
          have h2:(!p x) = true:=h1 0 (by omega) (by omega)
          rw [hx] at h2; cases h2
      | false =>
        simp only [cond_false]
        rw [this]
        constructor
        · intro h1 j _ h2
          cases j with
          | zero=>show (!p x) = true; rw [hx]; rfl
          | succ j=>exact h1 j (by omega) (by omega)
        · intro h1 j _ h2
          exact h1 (j + 1) (by omega) (by omega)
def zO9 (l:List z5):Bool:=ql (fun i=>zUG (l.getD i qQ) && bif (l.getD i qQ).1 then ql (fun j=>!zq5 (l.getD j qQ) (l.getD i qQ)) 0 i else true) 0 (l.length - 0)
theorem z8A {l:List z5} (hl:l.length ≤ Go.maxLen):zpS (l,()) = some (zO9 l,()):=by
  rw [zR]
  exact qG (B:=zkL zgo zgp) (i0:=0) hl (Nat.zero_le _) (fun i=>(l,l,(l.length:Int),i)) (fun k i h1 h2=>by
    simp only [zkL]
    rw [ltT h2,zn h2]
    simp only [zS,z8z,Option.bind_some,cond_true]
    cases he:zUG (l.getD i qQ) with
    | false=>rfl
    | true =>
      cases hs:(l.getD i qQ).1 with
      | false=>rfl
      | true =>
        have hi:zgp (l,(l.getD i qQ).2.1,(l.getD i qQ).2.2.2.1,()) = some (zaz (fun x=>zq5 x (l.getD i qQ)) l 0,()):=by
          simp only [zgp,zIr]
          rw [zJw (p:=fun x=>zq5 x (l.getD i qQ)) hl fun x _=>z3a x _ _]
          rfl
        have hp:zq5 (l.getD i qQ) (l.getD i qQ) = true:=by
          unfold zq5; rw [qfi,hs]; simp
        have:=qfj (d:=qQ) (p:=fun x=>zq5 x (l.getD i qQ)) l i 0 h2 hp
        rw [Int.zero_add] at this
        rw [hi,← this]
        simp only [Option.bind_some,Bool.not_true,cond_false,cond_true,Bool.true_and,bne]
        cases (zaz (fun x=>zq5 x (l.getD i qQ)) l 0 == (i:Int)) <;> rfl) (fun k=>by simp only [zkL]; rw [ltF]; rfl)
theorem z5S {l:List z5} (hl:l.length ≤ Go.maxLen):zna (l,()) = some (zO9 l,()):=by
  rw [zR]
  have inner:∀ k0 (i:Nat),i < l.length→ziU K0 k0 (l,(i:Int),0,l.getD i qQ) = bif ql (fun j=>!((l.getD i qQ).1 && zq5 (l.getD j qQ) (l.getD i qQ))) 0 (i - 0) then k0 (l,wI ((i:Int) + 1)) else some (false,()):=fun k0 i hi =>
    qG (B:=ziT k0) (i0:=0) (n:=i) (by omega) (Nat.zero_le _) (fun j=>(l,(i:Int),j,l.getD i qQ)) (fun k j h1 h2=>by
      simp only [ziT]
      rw [ltT h2]
      simp only [zn (show j < l.length by omega),zS,cond_true,zq5]
      grind) (fun k=>by simp only [ziT]; rw [ltF]; rfl)
  exact qG (B:=fun k=>zev yB (ziU K0 k) k) (i0:=0) hl (Nat.zero_le _) (fun i=>(l,i)) (fun k i h1 h2=>by
    simp only [zev]
    rw [ltT h2]
    simp only [zn h2,zS,zR5,Option.bind_some,cond_true,zUG,z6o]
    have:=inner k i h2
    rw [this]
    cases hs:(l.getD i qQ).1 with
    | false =>
      simp only [Bool.false_and,Bool.not_false,cond_false,Bool.and_true]
      have:ql (fun _=>true) 0 (i - 0) = true:=ju.2 fun _ _ _=>rfl
      rw [this]
      grind
    | true =>
      simp only [Bool.true_and,cond_true,Nat.sub_zero]
      grind) (fun k=>by simp only [zev]; rw [ltF]; rfl)
def zAY (k n:Int) (r:jI):Bool:=((k == 1 || k == 3) && (vI n && eqI zY r (zb zY))) || (k == 2 && (n == 0 && zLr r))
def zcx (x:z3):Bool:=bif x.1 then zyp x.2.1 && zAY x.2.2.1 x.2.2.2.1 x.2.2.2.2.1 else eqI zI x (zb zI)
theorem z8B (x:zNP):zbM (x,()) = some (zAY x.1 x.2.1 x.2.2.1,()):=by
  rw [zR]
  simp only [zbM,zpT,qcm,Option.bind_some,zAY,zLr]
  grind
theorem z5T (x:z3):zhD (x,()) = some (!zcx x,()):=by
  rw [zR]
  have h:zxy (x,()) = some ((x.2.2.1,x.2.2.2.1,x.2.2.2.2.1,()),()):=rfl
  simp only [zhD,zD2,zJy,Option.bind_some,zcx,h,z8B]
  grind
theorem z5U {l:List z3} (hl:l.length ≤ Go.maxLen):zhE (l,()) = some (l.all zcx,()):=by
  rw [zR]
  simp only [zhE,zD4]
  rw [zy1 (p:=fun x=>!zcx x) hl fun x _=>z5T x,Option.bind_some,← zaK]
  cases l.any fun x=>!zcx x <;> rfl
theorem z5V {l:List z3} (hl:l.length ≤ Go.maxLen):znb (l,()) = some (l.all zcx,()):=by
  rw [zR]
  exact yK (B:=ziW zjW yB j7) (l:=l) zL (fun i=>(l,i)) hl (fun k i x hi hx _=>by
    simp only [ziW]
    rw [ltT hi]
    simp only [zn hi,zS,hx,zEL,qaq,zR5,Option.bind_some,cond_true,zcx,zAY]
    grind) (fun k=>by simp only [ziW]; rw [ltF]; rfl)
def zPa (c:Int):Bool:=decide (32 ≤ c ∧ c ≤ 126)
theorem qfk (c:Int):zkP (c,()) = some (zPa c,()):=by simp only [zkP,zIt,zPa]; grind
theorem qf3 (c:Int):zjY (c,()) = some (zPa c,()):=by simp only [zjY,zNu,zPa]; grind
def z03 (s:ByteArray):Bool:=decide (1 ≤ s.size ∧ s.size ≤ 40) && ((chr s 0 != 32 && chr s (s.size - 1) != 32) && ql (fun i=>zPa (chr s i)) 0 s.size)
theorem z04 (a b:ByteArray) (h:a.size < b.size):(ByteArray.toList a == ByteArray.toList b) = false:=by
  rw [beq_eq_false_iff_ne]
  intro e
  rw [Go.ByteArray.toList_eq,Go.ByteArray.toList_eq] at e
  have:=congrArg List.length e
  rw [size_eq,size_eq] at this
  omega
theorem qf4 (s:ByteArray):∀ (n:Nat) (t:ByteArray),t.size ≤ n→∀ fuel,n < fuel→∃ r,iter qq fuel (t,32) = some (r,()) ∧ r.size ≤ t.size ∧ (chr t 0 ≠ 32→r = t) ∧ (1 ≤ t.size→chr t 0 = 32→r.size < t.size):=by
  intro n
  induction n with
  | zero =>
    intro t ht fuel hf
    obtain ⟨f,rfl⟩:∃ f,fuel = f + 1:=⟨fuel - 1,by omega⟩
    refine ⟨t,?_,Nat.le_refl _,fun _=>rfl,fun h=>by omega⟩
    show qq _ (t,32) = _
    simp only [qq]
    rw [decide_eq_false (by omega)]; rfl
  | succ n ih =>
    intro t ht fuel hf
    obtain ⟨f,rfl⟩:∃ f,fuel = f + 1:=⟨fuel - 1,by omega⟩
    by_cases h0:t.size = 0
    · refine ⟨t,?_,Nat.le_refl _,fun _=>rfl,fun h=>by omega⟩
      show qq _ (t,32) = _
      simp only [qq]
      rw [decide_eq_false (by omega)]; rfl
    have hc:((UInt8.toNat (List.getD t.data.toList (Int.toNat 0) 0):Nat):Int) = chr t 0:=rfl
    by_cases h32:chr t 0 = 32
    · have hsz:(ByteArray.extract t (Int.toNat 1) t.size).size = t.size - 1:=by
        rw [ByteArray.size_extract]
        show min t.size t.size - 1 = _
        omega
      obtain ⟨r,h1,h2,-⟩:=ih (ByteArray.extract t (Int.toNat 1) t.size) (by rw [hsz]; omega) f (by omega)
      refine ⟨r,?_,by omega,fun h=>absurd h32 h,fun _ _=>by omega⟩
      show qq (iter qq f) (t,32) = _
      simp only [qq]
      rw [hc,h32,h1]
      grind
    · refine ⟨t,?_,Nat.le_refl _,fun _=>rfl,fun _ h=>absurd h h32⟩
      show qq (iter qq f) (t,32) = _
      simp only [qq]
      rw [hc,decide_eq_true (by omega),decide_eq_true (by omega)]
      grind
theorem qf5:∀ (n:Nat) (t:ByteArray),t.size ≤ n→n ≤ 100→∀ fuel,n < fuel→∃ r,iter qk fuel (t,32) = some (r,()) ∧ r.size ≤ t.size ∧ (chr t (t.size - 1) ≠ 32→r = t) ∧ (1 ≤ t.size→chr t (t.size - 1) = 32→r.size < t.size):=by
  intro n
  induction n with
  | zero =>
    intro t ht _ fuel hf
    obtain ⟨f,rfl⟩:∃ f,fuel = f + 1:=⟨fuel - 1,by omega⟩
    refine ⟨t,?_,Nat.le_refl _,fun _=>rfl,fun h=>by omega⟩
    show qk _ (t,32) = _
    simp only [qk]
    rw [decide_eq_false (by omega)]; rfl
  | succ n ih =>
    intro t ht hn fuel hf
    obtain ⟨f,rfl⟩:∃ f,fuel = f + 1:=⟨fuel - 1,by omega⟩
    by_cases h0:t.size = 0
    · refine ⟨t,?_,Nat.le_refl _,fun _=>rfl,fun h=>by omega⟩
      show qk _ (t,32) = _
      simp only [qk]
      rw [decide_eq_false (by omega)]; rfl
    have hw:wI ((t.size:Int) - 1) = ((t.size - 1:Nat):Int):=zvw (by omega) (by unfold Go.maxLen; omega)
    have hc:((UInt8.toNat (List.getD t.data.toList (Int.toNat ((t.size - 1:Nat):Int)) 0):Nat):Int) = chr t (t.size - 1):=by rw [Int.toNat_natCast]; rfl
    by_cases h32:chr t (t.size - 1) = 32
    · have hsz:(ByteArray.extract t 0 (Int.toNat ((t.size - 1:Nat):Int))).size = t.size - 1:=by
        rw [ByteArray.size_extract,Int.toNat_natCast]
        omega
      obtain ⟨r,h1,h2,-⟩:=ih (ByteArray.extract t 0 (Int.toNat ((t.size - 1:Nat):Int))) (by rw [hsz]; omega) (by omega) f (by omega)
      refine ⟨r,?_,by omega,fun h=>absurd h32 h,fun _ _=>by omega⟩
      show qk (iter qk f) (t,32) = _
      simp only [qk]
      rw [hw,hc,h32,h1,zn (by omega)]
      grind
    · refine ⟨t,?_,Nat.le_refl _,fun _=>rfl,fun _ h=>absurd h h32⟩
      show qk (iter qk f) (t,32) = _
      simp only [qk]
      rw [hw,hc,zn (by omega),decide_eq_true (by omega)]
      grind
theorem qfP (s:ByteArray) (h:1 ≤ s.size ∧ s.size ≤ 40):∃ r,zfM (s,ByteArray.mk #[32],()) = some (r,()) ∧ (ByteArray.toList r == ByteArray.toList s) = (chr s 0 != 32 && chr s (s.size - 1) != 32):=by
  obtain ⟨r,h1,h2,h3,h4⟩:=qf5 s.size s (Nat.le_refl _) (by omega) K0 (z6m (by unfold Go.maxLen; omega))
  obtain ⟨r',h5,h6,h7,h8⟩:=qf4 s r.size r (Nat.le_refl _) K0 (z6m (by unfold Go.maxLen; omega))
  refine ⟨r',?_,?_⟩
  · simp only [zfM,zAz]
    have e0:(ByteArray.toList s == ByteArray.toList (ByteArray.mk #[])) = false:=by
      cases he:zJA s with
      | false=>exact he
      | true =>
        unfold zJA at he
        have:=eq_of_beq he
        rw [Go.ByteArray.toList_eq,Go.ByteArray.toList_eq] at this
        have h2:s.size = 0:=by
          rw [← size_eq,this]; rfl
        omega
    have e1:(ByteArray.toList (ByteArray.mk #[32]) == ByteArray.toList (ByteArray.mk #[])) = false:=by
      rw [Go.ByteArray.toList_eq,Go.ByteArray.toList_eq]; rfl
    have p1:zay (s,32,()) = some (r,()):=h1
    have p2:za2 (r,32,()) = some (r',()):=h5
    have z1:((ByteArray.size (ByteArray.mk #[32]):Nat):Int) = 1:=rfl
    have z2:((UInt8.toNat (List.getD (Array.toList (ByteArray.data (ByteArray.mk #[32]))) (Int.toNat 0) 0):Nat):Int) = 32:=rfl
    rw [e0,e1,z1,z2,p1,Option.bind_some,p2]
    rfl
  · by_cases hl:chr s (s.size - 1) = 32
    · have:=h4 h.1 hl
      rw [z04 r' s (by omega),hl]; simp
    · obtain rfl:=h3 hl
      by_cases hf:chr r 0 = 32
      · have:=h8 h.1 hf
        rw [z04 r' r (by omega),hf]; simp
      · rw [h7 hf]
        simp [hf,hl]
theorem qat (s:ByteArray):znH (s,()) = some (z03 s,()):=by
  rw [zR]
  simp only [znH,zMW]
  unfold z03
  by_cases hb:1 ≤ s.size ∧ s.size ≤ 40
  · obtain ⟨r,h1,h2⟩:=qfP s hb
    rw [z0Z (by unfold Go.maxLen; omega) qfk,h1,z0Y,← h2]
    simp only [Option.bind_some]
    grind
  · grind
theorem z8C (s:ByteArray):zgT (s,()) = some (z03 s,()):=by
  rw [zR]
  simp only [zgT,zx9]
  unfold z03
  by_cases hb:1 ≤ s.size ∧ s.size ≤ 40
  · have hw:wI ((s.size:Int) - 1) = ((s.size - 1:Nat):Int):=zvw hb.1 (by unfold Go.maxLen; omega)
    have hc:((UInt8.toNat (List.getD s.data.toList (Int.toNat ((s.size - 1:Nat):Int)) 0):Nat):Int) = chr s (s.size - 1):=by rw [Int.toNat_natCast]; rfl
    have hc0:((UInt8.toNat (List.getD s.data.toList (Int.toNat 0) 0):Nat):Int) = chr s 0:=rfl
    have hloop:zAV zjY K0 (s,0) = bif ql (fun i=>zPa (chr s i)) 0 (s.size - 0) then some (true,()) else some (false,()) :=
      qG (i0:=0) (n:=s.size) (by unfold Go.maxLen; omega) (Nat.zero_le _) (fun i=>(s,i)) (fun k i h1 h2=>by
        simp only [zq0]
        have hc:((UInt8.toNat (List.getD s.data.toList (Int.toNat (i:Int)) 0):Nat):Int) = chr s i:=by rw [Int.toNat_natCast]; rfl
        rw [hc,ltT h2,zn h2,qf3]; rfl) (fun k=>by simp only [zq0]; rw [ltF]; rfl)
    rw [hw,zn (by omega),hc,hc0,hloop]
    grind
  · grind
def zys (x:qh):Bool:=bif x.1 then (vI x.2.1 && (vI x.2.2.1 && vI x.2.2.2.1)) && z03 x.2.2.2.2.1 else eqI zZ x (zb zZ)
theorem z8D (x:qh):zkQ (x,()) = some (!zys x,()):=by
  rw [zR]
  simp only [zkQ,zIx,zkO,zAy,qdC,qat,Option.bind_some,zys]
  grind
theorem z8E {l:List qh} (hl:l.length ≤ Go.maxLen):zkR (l,()) = some (l.all zys,()):=by
  rw [zR]
  simp only [zkR,zIz]
  rw [zy2 (p:=fun x=>!zys x) hl fun x _=>z8D x,Option.bind_some,← zaK]
  cases l.any fun x=>!zys x <;> rfl
theorem z5W {l:List qh} (hl:l.length ≤ Go.maxLen):znc (l,()) = some (l.all zys,()):=by
  rw [zR]
  exact yK (B:=ziY zjX zgT) (l:=l) zaE (fun i=>(l,i)) hl (fun k i x hi hx _=>by
    simp only [ziY]
    rw [ltT hi]
    simp only [zn hi,zS,hx,z8C,qar,Option.bind_some,cond_true,zys]
    grind) (fun k=>by simp only [ziY]; rw [ltF]; rfl)
end Go.Proofs.YtaokpakfhdeiiaaGreatDoor
end
section
namespace Go.Proofs.YtaokpakfhdeiiaaGreatDoor
open Go.Ev
abbrev M62:Int:=4611686018427387904
abbrev U64:Int:=18446744073709551616
def jR (x:Int):Bool:=decide (0 ≤ x ∧ x ≤ 3)
theorem zgW (x:Int):qI (x,()) = some (jR x,()):=by simp only [qI,zIA,jR]; grind
def zQy (a b:Int):Int × Int × Unit:=bif decide (a + b > M62) then (0,7,()) else (a + b,0,())
theorem qau {a b:Int} (ha:0 ≤ a) (hb:0 ≤ b ∧ b < U64):zjR (a,b,()) = some (zQy a b):=by
  simp only [zjR,zNe,zLw,zPj,zQy,cond_true]
  have h0:0 ≤ (a + b) / 18446744073709551616:=by omega
  have h1:((a + b) / 18446744073709551616 != 0) = decide (18446744073709551616 ≤ a + b):=by
    rw [Bool.eq_iff_iff]; simp only [bne_iff_ne,ne_eq,decide_eq_true_eq]; omega
  have h2:a + b < 18446744073709551616→(a + b) % 18446744073709551616 = a + b:=fun h=>by omega
  unfold M62 at *
  unfold U64 at *
  grind
theorem zlD {a b:Int} (ha:0 ≤ a ∧ a < U64) (hb:0 ≤ b ∧ b < U64):qz (a,b,()) = some (zQy a b):=by
  simp only [qz,zJp,zQy]
  unfold M62
  unfold U64 at *
  by_cases h1:a > 4611686018427387904
  · grind
  · have hw:wU (4611686018427387904 - a) = 4611686018427387904 - a:=zyr (by omega)
    rw [hw]
    by_cases h2:b > 4611686018427387904 - a
    · grind
    · have hw:wU (a + b) = a + b:=zyr (by omega)
      rw [hw]
      grind
def zPb (a b:Int):Int × Int × Unit:=bif decide (a * b > M62) then (0,7,()) else (a * b,0,())
theorem qf6 (a b:Nat) (ha:a < 18446744073709551616) (hb:b < 18446744073709551616):zcC ((a:Int),(b:Int),()) = some ((((a * b) / 18446744073709551616:Nat):Int),(((a * b) % 18446744073709551616:Nat):Int),()):=by
  have e32:((2:Int) ^ min (Int.toNat 32) (Go.IntKind.bits .u64)) = 4294967296:=rfl
  have hand:∀ x:Nat,x < 18446744073709551616→wU (BitVec.toNat (BitVec.ofInt (Go.IntKind.bits .u64) (x:Int) &&& BitVec.ofInt (Go.IntKind.bits .u64) 4294967295):Int) = ((x % 4294967296:Nat):Int):=fun x hx=>by
    have h1:BitVec.ofInt (Go.IntKind.bits .u64) 4294967295 = BitVec.ofNat 64 4294967295:=rfl
    rw [zB0,h1]
    have h2:(BitVec.ofNat 64 x &&& BitVec.ofNat 64 4294967295).toNat = x % 4294967296:=by
      rw [BitVec.toNat_and,BitVec.toNat_ofNat,BitVec.toNat_ofNat,Nat.mod_eq_of_lt (show x < 2 ^ 64 by omega)]
      exact Nat.and_two_pow_sub_one_eq_mod x 32
    have h3:((BitVec.ofNat 64 x &&& BitVec.ofNat 64 4294967295:BitVec (Go.IntKind.bits .u64)).toNat:Int) = ((x % 4294967296:Nat):Int):=congrArg _ h2
    exact (congrArg wU h3).trans (zyr (by omega))
  have hdiv:∀ x:Nat,Int.fdiv (x:Int) 4294967296 = ((x / 4294967296:Nat):Int):=fun x=>by
    rw [Int.fdiv_eq_ediv_of_nonneg _ (by omega)]; rfl
  have hw:∀ x:Nat,x < 18446744073709551616→wU (x:Int) = (x:Int):=fun x hx=>zyr (by omega)
  have hmod:wU ((a:Int) * (b:Int)) = (((a * b) % 18446744073709551616:Nat):Int):=by
    rw [show ((a:Int) * (b:Int)) = ((a * b:Nat):Int) by simp]
    show ((a * b:Nat):Int) % ((2 ^ 64:Nat):Int) = _
    rfl
  simp only [zcC,zsf,e32]
  have ha1:a / 4294967296 ≤ 4294967295:=by omega
  have ha0:a % 4294967296 ≤ 4294967295:=by omega
  have hb1:b / 4294967296 ≤ 4294967295:=by omega
  have hb0:b % 4294967296 ≤ 4294967295:=by omega
  have hp:=Nat.mul_le_mul ha1 hb1
  have hq:=Nat.mul_le_mul ha1 hb0
  have hr:=Nat.mul_le_mul ha0 hb1
  have hs:=Nat.mul_le_mul ha0 hb0
  have hab:a * b = (a / 4294967296 * (b / 4294967296)) * 18446744073709551616 + (a / 4294967296 * (b % 4294967296) + a % 4294967296 * (b / 4294967296)) * 4294967296 + a % 4294967296 * (b % 4294967296):=by
    conv=>lhs; rw [← Nat.div_add_mod a 4294967296,← Nat.div_add_mod b 4294967296]
    grind
  rw [hmod,hab,hand a ha,hand b hb,hdiv a,hdiv b]
  generalize a / 4294967296 = a1 at *
  generalize a % 4294967296 = a0 at *
  generalize b / 4294967296 = b1 at *
  generalize b % 4294967296 = b0 at *
  simp only [← Int.natCast_mul]
  generalize a1 * b1 = p at *
  generalize a1 * b0 = q at *
  generalize a0 * b1 = r at *
  generalize a0 * b0 = s at *
  rw [hw p (by omega),hw q (by omega),hw r (by omega),hw s (by omega),hdiv s]
  simp only [← Int.natCast_add]
  rw [hw (q + s / 4294967296) (by omega),hdiv (q + s / 4294967296),hand _ (by omega)]
  simp only [← Int.natCast_add]
  rw [hw (p + (q + s / 4294967296) / 4294967296) (by omega),hw ((q + s / 4294967296) % 4294967296 + r) (by omega),hdiv]
  simp only [← Int.natCast_add]
  rw [hw _ (by omega)]
  have:p + (q + s / 4294967296) / 4294967296 + ((q + s / 4294967296) % 4294967296 + r) / 4294967296 = (p * 18446744073709551616 + (q + r) * 4294967296 + s) / 18446744073709551616:=by omega
  rw [this]
theorem z8F {a b:Int} (ha:0 ≤ a ∧ a < U64) (hb:0 ≤ b ∧ b < U64):zkU (a,b,()) = some (zPb a b):=by
  obtain ⟨m,rfl⟩:=Int.eq_ofNat_of_zero_le ha.1
  obtain ⟨n,rfl⟩:=Int.eq_ofNat_of_zero_le hb.1
  unfold U64 at *
  simp only [zkU,zIF]
  rw [qf6 m n (by omega) (by omega),Option.bind_some]
  unfold zPb M62
  have e:((m:Int) * (n:Int)) = ((m * n:Nat):Int):=by simp
  rw [e]
  generalize m * n = p
  by_cases h:p < 18446744073709551616
  · have h1:p / 18446744073709551616 = 0:=by omega
    have h2:p % 18446744073709551616 = p:=by omega
    simp only [h1,h2]
    grind
  · have h1:(((p / 18446744073709551616:Nat):Int) != 0) = true:=by simp only [bne_iff_ne,ne_eq]; omega
    simp only [h1]
    grind
theorem z5X {a b:Int} (ha:0 ≤ a ∧ a < U64) (hb:0 ≤ b ∧ b < U64):zhQ (a,b,()) = some (zPb a b):=by
  obtain ⟨m,rfl⟩:=Int.eq_ofNat_of_zero_le ha.1
  obtain ⟨n,rfl⟩:=Int.eq_ofNat_of_zero_le hb.1
  unfold U64 at *
  simp only [zhQ,zEu,zPb]
  unfold M62
  by_cases h0:m = 0
  · subst h0
    simp only [Int.natCast_zero,Int.zero_mul]
    rfl
  · have e:((m:Int) * (n:Int)) = ((m * n:Nat):Int):=by simp
    have hd:Int.tdiv 4611686018427387904 (m:Int) = ((4611686018427387904 / m:Nat):Int):=rfl
    have hle:4611686018427387904 / m ≤ 4611686018427387904:=Nat.div_le_self _ _
    have h1:4611686018427387904 / m < n ↔ 4611686018427387904 < m * n:=by
      have:=Nat.div_lt_iff_lt_mul (x:=4611686018427387904) (y:=n) (k:=m) (by omega)
      rw [Nat.mul_comm] at this
      exact this
    rw [hd]
    generalize 4611686018427387904 / m = q at *
    have hw:wU ((q:Nat):Int) = (q:Int):=zyr (by omega)
    have b1:(((m:Nat):Int) != 0) = true:=by simp only [bne_iff_ne,ne_eq]; omega
    have b2:(((m:Nat):Int) == 0) = false:=by simp only [beq_eq_false_iff_ne,ne_eq]; omega
    rw [hw,b1,b2,e]
    by_cases h2:m * n > 4611686018427387904
    · have:=h1.2 h2
      rw [decide_eq_true (by omega),decide_eq_true (by omega)]
      rfl
    · have h3:¬ q < n:=fun h=>h2 (h1.1 h)
      have hw2:wU ((m * n:Nat):Int) = ((m * n:Nat):Int):=zyr (by omega)
      rw [decide_eq_false (by omega),decide_eq_false (by omega),hw2]
      rfl
def zAZ:Int→List Int→Int × Int × Unit
  | a,[]=>(a,0,())
  | a,x :: l=>bif decide (a + x > M62) then (0,7,()) else zAZ (a + x) l
theorem yu {σ α β ρ:Type} {B:(σ→Option ρ)→σ→Option ρ} {l:List β} (d:β) (I:Nat→α→Prop) (st:Int→α→σ) (G:List β→α→Option ρ) (hl:l.length ≤ Go.maxLen)
    (hin:∀ k (i:Nat) x rest s,i < l.length→I i s→l.getD i d = x→x ∈ l→l.drop (i + 1) = rest→(∀ s',I (i + 1) s'→k (st (wI (i + 1)) s') = G rest s')→B k (st i s) = G (x :: rest) s) (hout:∀ k s,I l.length s→B k (st l.length s) = G [] s) (s:α) (h0:I 0 s):iter B K0 (st 0 s) = G l s:=by
  have:=zhx (B:=B) hl st (fun i s=>G (l.drop i) s) I (fun k i s hi hI h=>?_) (fun k s hI=>?_) s h0
  · simpa using this
  · rw [zia d hi]
    exact hin k i _ _ s hi hI rfl (qg hi) rfl fun s' hI'=>h s' hI'
  · rw [hout _ _ hI,List.drop_of_length_le (Nat.le_refl _)]
theorem zFG {l:List Int} (hl:l.length ≤ Go.maxLen) (h:∀ x ∈ l,0 ≤ x ∧ x < U64):vn (l,()) = some (zAZ 0 l) :=
  yu (B:=zp3 zjR) (l:=l) (α:=Int) (0:Int) (fun _ s=>0 ≤ s) (fun i s=>(s,l,(l.length:Int),i)) (fun rest s=>some (zAZ s rest)) hl (fun k i x rest s hi hI hx hm hr hk=>by
    simp only [zp3]
    have hxx:=h x hm
    rw [ltT hi,zn hi,zS,hx,qau hI hxx]
    simp only [cond_true,Option.bind_some,zQy,zAZ]
    by_cases hb:s + x > M62
    · rw [decide_eq_true hb]; rfl
    · rw [decide_eq_false hb]
      exact hk (s + x) (by omega)) (fun k s _=>by simp only [zp3]; rw [ltF]; rfl) 0 (Int.le_refl 0)
def zUH (a b:zz):Bool:=decide (a.1 ≤ b.1) && (List.range' 0 64).all fun i=>!hasB a.2.1 i || hasB b.2.1 i
def zJB (a:zz):Prop:=0 ≤ a.2.1 ∧ a.2.1 < U64
theorem qav {a b:zz} (ha:zJB a) (hb:zJB b):znK (a,b,()) = some (zUH a b,()):=by
  rw [zR]
  simp only [znK,zM9]
  unfold zUH
  unfold zJB U64 at *
  obtain ⟨m,hm⟩:=Int.eq_ofNat_of_zero_le ha.1
  obtain ⟨n,hn⟩:=Int.eq_ofNat_of_zero_le hb.1
  have h1:=zWy m n (by omega) (by omega)
  unfold zq4 at h1
  have h2:(wU (BitVec.toNat (BitVec.ofInt (Go.IntKind.bits .u64) (a.2.1:Int) &&& ~~~BitVec.ofInt (Go.IntKind.bits .u64) (b.2.1:Int)):Int) == 0) = (List.range' 0 64).all fun i=>!hasB a.2.1 i || hasB b.2.1 i:=by
    rw [hm,hn]
    have h3:∀ z:Int,(z != 0) = !(z == 0):=fun z=>rfl
    rw [h3] at h1
    have h4:=congrArg (!·) h1
    simp only [Bool.not_not] at h4
    exact h4
  rw [h2]
  grind
theorem qaw {a b:zz} (ha:zJB a) (hb:zJB b):zsT (a,b,()) = some (zUH a b,()):=by
  rw [zR]
  unfold zUH
  unfold zJB U64 at *
  have hr:List.range 64 = List.range' 0 64:=List.range_eq_range'
  rw [← hr]
  have hloop:=z3K (B:=znf j4) (n:=64) (by unfold Go.maxLen; omega) (p:=fun i=>!hasB a.2.1 i || hasB b.2.1 i) (fin:=bif decide (a.1 ≤ b.1) then some (true,()) else some (false,())) (bad:=some (false,())) (fun i=>(i,a,b)) (fun k i hi=>by
    simp only [znf]
    rw [decide_eq_true (by omega),zBr _ _ ha.1 (by omega),zBr _ _ hb.1 (by omega),Int.toNat_natCast]
    simp only [cond_true,Option.bind_some]
    grind) (fun k=>by simp only [znf]; rfl)
  refine hloop.trans ?_
  grind
theorem z05 (x:Int):zfv (x,()) = some (vI x,()):=by simp only [zfv,zQd,vI]; grind
theorem qax (x:Int):znR (x,()) = some (vI x,()):=by simp only [znR,zNv,vI]; grind
def zsW (x:zoE):Bool:=jR x.1 && (decide (x.2.1 ≤ M62) && decide (-1 ≤ x.2.2.1 ∧ x.2.2.1 ≤ 127))
theorem qay (x:zoE):znI (x,()) = some (zsW x,()):=by
  rw [zR]
  simp only [znI,zM0,zgW,z05,Option.bind_some,zsW,vI]
  unfold M62
  grind
theorem qaz (x:zoE):znS (x,()) = some (zsW x,()):=by
  rw [zR]
  simp only [znS,zNw,zsW,jR]
  unfold M62
  grind
def zLs (x:zoE):Bool:=(x.2.1:Int) == 0 && (x.2.2.1:Int) == -1
theorem z8G (x:zoE):zkS (x,()) = some (zLs x,()):=by
  rw [zR]
  simp only [zkS,zIB,zLs]
  have h:eqI zj1 x (x.1,(zb zj1).2.1,-1,(zb zj1).2.2.2) = ((x.2.1:Int) == 0 && (x.2.2.1:Int) == -1):=by
    show cond ((x.1:Int) == x.1) (cond ((x.2.1:Int) == 0) (cond ((x.2.2.1:Int) == -1) true false) false) false = _
    rw [beq_self_eq_true]
    cases ((x.2.1:Int) == 0) <;> cases ((x.2.2.1:Int) == -1) <;> rfl
  rw [h]
def zJC (x:zo):Bool:=(vI x.2.1 && (vI x.2.2.1 && (x.2.1:Int) != x.2.2.1)) && ((zsW x.2.2.2.1 && zsW x.2.2.2.2.1) && !(zLs x.2.2.2.1 && zLs x.2.2.2.2.1))
def zq6 (x:zo):Prop:=(0 ≤ x.2.2.2.1.2.1 ∧ x.2.2.2.1.2.1 < U64) ∧ (0 ≤ x.2.2.2.2.1.2.1 ∧ x.2.2.2.2.1.2.1 < U64)
theorem qaA (x:zo):znJ (x,()) = some (zJC x,()):=by
  rw [zR]
  simp only [znJ,zM1,z05,qay,z8G,Option.bind_some,zJC]
  grind
theorem z8H {x:zo} (h:zq6 x):zgU (x,()) = some (zJC x,()):=by
  rw [zR]
  simp only [zgU,zJm,qax,qaz,Option.bind_some,zJC]
  have h1:zsW x.2.2.2.1 = true→zLs x.2.2.2.1 = !(decide (x.2.2.2.1.2.1 > 0) || decide (x.2.2.2.1.2.2.1 ≥ 0)):=fun hp=>by
    unfold zsW at hp; unfold zLs; unfold zq6 at h; grind
  have h2:zsW x.2.2.2.2.1 = true→zLs x.2.2.2.2.1 = !(decide (x.2.2.2.2.1.2.1 > 0) || decide (x.2.2.2.2.1.2.2.1 ≥ 0)):=fun hp=>by
    unfold zsW at hp; unfold zLs; unfold zq6 at h; grind
  generalize decide (x.2.2.2.1.2.1 > 0) = c1 at *
  generalize decide (x.2.2.2.1.2.2.1 ≥ 0) = c2 at *
  generalize decide (x.2.2.2.2.1.2.1 > 0) = c3 at *
  generalize decide (x.2.2.2.2.1.2.2.1 ≥ 0) = c4 at *
  cases c1 <;> cases c2 <;> cases c3 <;> cases c4 <;> grind
def zq7 (x:zo):Bool:=bif x.1 then zJC x else eqI zu x (zb zu)
theorem z06 (x:zo):zeh (x,()) = some (!zq7 x,()):=by
  rw [zR]
  simp only [zeh,zxB,qaA,Option.bind_some,zq7]
  grind
theorem z5Y {l:List zo} (hl:l.length ≤ Go.maxLen):zhF (l,()) = some (l.all zq7,()):=by
  rw [zR]
  simp only [zhF,zD5]
  rw [zyn (p:=fun x=>!zq7 x) hl fun x _=>z06 x,Option.bind_some,← zaK]
  cases l.any fun x=>!zq7 x <;> rfl
theorem z5Z {l:List zo} (hl:l.length ≤ Go.maxLen) (h:∀ x ∈ l,zq6 x):znd (l,()) = some (l.all zq7,()):=by
  rw [zR]
  exact yK (B:=zi0 zgU) (l:=l) qb (fun i=>(l,i)) hl (fun k i x hi hx hm=>by
    simp only [zi0]
    rw [ltT hi]
    simp only [zn hi,zS,hx,z8H (h x hm),Option.bind_some,cond_true,zq7]
    grind) (fun k=>by simp only [zi0]; rw [ltF]; rfl)
end Go.Proofs.YtaokpakfhdeiiaaGreatDoor
end
section
namespace Go.Proofs.YtaokpakfhdeiiaaGreatDoor
open Go.Ev
theorem zA0 {α:Type} {p:α→Bool} {x:α} {l:List α}:(x :: l).filter p = bif p x then x :: l.filter p else l.filter p:=by
  rw [List.filter_cons]; cases p x <;> rfl
def vu {α:Type} (p:α→Bool):Nat→List α→List Int
  | _,[]=>[]
  | i,x :: l=>bif p x then (i:Int) :: vu p (i + 1) l else vu p (i + 1) l
theorem zFH {α:Type} {p:α→Bool}:∀ (l:List α) (i:Nat),(vu p i l).length ≤ l.length
  | [],_=>Nat.le_refl _
  | x :: l,i=>by
    have:=zFH (p:=p) l (i + 1)
    simp only [vu,List.length_cons]
    cases p x <;> simp <;> omega
theorem zFI {α:Type} {p:α→Bool}:∀ (l:List α) (i:Nat),∀ z ∈ vu p i l,∃ j:Nat,z = (j:Int) ∧ i ≤ j ∧ j < i + l.length
  | [],i,z,h=>by cases h
  | x :: l,i,z,h=>by
    simp only [vu] at h
    have ih:=zFI (p:=p) l (i + 1)
    cases hp:p x with
    | true =>
      rw [hp,cond_true] at h
      rcases List.mem_cons.1 h with rfl | h
      · exact ⟨i,rfl,Nat.le_refl _,by simp⟩
      · obtain ⟨j,h1,h2,h3⟩:=ih z h
        exact ⟨j,h1,by omega,by simp; omega⟩
    | false =>
      rw [hp,cond_false] at h
      obtain ⟨j,h1,h2,h3⟩:=ih z h
      exact ⟨j,h1,by omega,by simp; omega⟩
theorem zEN {α β:Type} {p q:α→Bool} {g:α→β} (d:α) (L:List α):∀ (l:List α) (i:Nat),(∀ j,j < l.length→L.getD (i + j) d = l.getD j d)→((vu p i l).filter fun z=>q (L.getD z.toNat d)).map (fun z=>g (L.getD z.toNat d)) = (l.filter fun x=>p x && q x).map g
  | [],_,_=>rfl
  | x :: l,i,h=>by
    have ih:=zEN (p:=p) (q:=q) (g:=g) d L l (i + 1) fun j hj=>by
      have:=h (j + 1) (by simp; omega)
      rw [show i + 1 + j = i + (j + 1) by omega,this]; rfl
    have h0:L.getD i d = x:=h 0 (by simp)
    simp only [vu,zA0]
    cases hp:p x with
    | false=>simp only [cond_false,Bool.false_and]; exact ih
    | true =>
      simp only [cond_true,Bool.true_and,zA0,Int.toNat_natCast,h0]
      cases hq:q x with
      | false=>exact ih
      | true=>simp only [cond_true,List.map_cons,Int.toNat_natCast,h0,ih]
theorem zUI {l:List zo} {g:zo × Unit→Option (Bool × Unit)}:y8 (some (l,some g,()),()) = some (true,()):=rfl
theorem zWz {l:List zo} {g:zo × Unit→Option (Bool × Unit)} {p:zo→Bool} (hg:∀ x,g (x,()) = some (p x,())) {i:Nat} (hi:i < l.length):jA (some (l,some g,()),(i:Int),()) = some (p (l.getD i qb),()):=by
  rw [zR]
  simp only [jA,zoP,zUI,Option.bind_some,cond_true]
  rw [decide_eq_true (by omega),ltT hi,zn hi,zS,hg]
  simp only [cond_true,Option.bind_some]
theorem zR6 {l:List zo} {g:zo × Unit→Option (Bool × Unit)} {p:zo→Bool} (hl:l.length ≤ lim) (hg:∀ x,g (x,()) = some (p x,())):va (some (l,some g,()),()) = some (vu p 0 l,()):=by
  have hl':l.length ≤ Go.maxLen:=by unfold lim at hl; unfold Go.maxLen; omega
  have:=zhx (B:=zc1 jA) (α:=List Int) hl' (fun i o=>(some (l,some g,()),(l.length:Int),i,o)) (fun i o=>some (o ++ vu p i (l.drop i),())) (fun i o=>o.length ≤ i) (fun k i o hi hI hk=>by
    simp only [zc1]
    rw [ltT hi,zWz hg hi,set1,zia qb hi]
    simp only [cond_true,Option.bind_some,vu]
    rw [decide_eq_true (by simp; omega)]
    cases hp:p (l.getD i qb) with
    | false =>
      simp only [cond_false]
      exact hk o (by omega)
    | true =>
      simp only [cond_true]
      rw [hk _ (by simp; omega)]
      simp) (fun k o _=>by
    simp only [zc1]
    rw [ltF,List.drop_of_length_le (Nat.le_refl _)]
    simp [vu]) [] (Nat.le_refl _)
  refine Eq.trans ?_ (this.trans ?_)
  · rfl
  · simp
theorem z8I {l:List zj} {g:zj × Unit→Option (Bool × Unit)}:y9 (some (l,some g,()),()) = some (true,()):=rfl
theorem qaB {l:List zj} {g:zj × Unit→Option (Bool × Unit)} {p:zj→Bool} (hg:∀ x,g (x,()) = some (p x,())) {i:Nat} (hi:i < l.length):zcl (some (l,some g,()),(i:Int),()) = some (p (l.getD i zP),()):=by
  rw [zR]
  simp only [zcl,zxP,z8I,Option.bind_some,cond_true]
  rw [decide_eq_true (by omega),ltT hi,zn hi,zS,hg]
  simp only [cond_true,Option.bind_some]
theorem z50 {l:List zj} {g:zj × Unit→Option (Bool × Unit)} {p:zj→Bool} (hl:l.length ≤ lim) (hg:∀ x,g (x,()) = some (p x,())):ze7 (some (l,some g,()),()) = some (vu p 0 l,()):=by
  have hl':l.length ≤ Go.maxLen:=by unfold lim at hl; unfold Go.maxLen; omega
  have:=zhx (B:=zc3 zcl) (α:=List Int) hl' (fun i o=>(some (l,some g,()),(l.length:Int),i,o)) (fun i o=>some (o ++ vu p i (l.drop i),())) (fun i o=>o.length ≤ i) (fun k i o hi hI hk=>by
    simp only [zc3]
    rw [ltT hi,qaB hg hi,set1,zia zP hi]
    simp only [cond_true,Option.bind_some,vu]
    rw [decide_eq_true (by simp; omega)]
    cases hp:p (l.getD i zP) with
    | false =>
      simp only [cond_false]
      exact hk o (by omega)
    | true =>
      simp only [cond_true]
      rw [hk _ (by simp; omega)]
      simp) (fun k o _=>by
    simp only [zc3]
    rw [ltF,List.drop_of_length_le (Nat.le_refl _)]
    simp [vu]) [] (Nat.le_refl _)
  refine Eq.trans ?_ (this.trans ?_)
  · rfl
  · simp
def zvK (l:List zo) (c:Int):Int × Int × Unit:=bif jR c then zAZ 0 ((l.filter fun x=>x.1 && (x.2.2.2.1.1:Int) == c).map fun x=>x.2.2.2.1.2.1) else (0,1,())
theorem qaC (l:List zo) (hl:l.length ≤ lim):znM (l,()) = some (some (l,some zhJ,()),()):=by
  simp only [znM,zNf,vi,zmw,zR3 hl,Option.bind_some]
  rfl
theorem z51 (x:zo):zhJ (x,()) = some (x.1,()):=by
  rw [zR]; rfl
theorem z8J {l:List zo} (hl:l.length ≤ lim) (h:∀ x ∈ l,zq6 x) (c:Int):zgu (l,c,()) = some (zvK l c):=by
  have hl':l.length ≤ Go.maxLen:=by unfold lim at hl; unfold Go.maxLen; omega
  simp only [zgu,zxQ,zgW,Option.bind_some]
  unfold zvK
  cases hc:jR c with
  | false=>rfl
  | true =>
    simp only [cond_true]
    rw [qaC l hl,Option.bind_some,zR6 hl z51,Option.bind_some]
    have hsl:=zFH (p:=fun x:zo=>x.1) l 0
    have hsm:=zFI (p:=fun x:zo=>x.1) l 0
    have hloop:=yu (B:=zk1 vn) (l:=vu (fun x:zo=>x.1) 0 l) (α:=List Int) (0:Int) (fun i o=>o.length ≤ i ∧ ∀ x ∈ o,0 ≤ x ∧ x < U64) (fun i o=>(l,c,vu (fun x:zo=>x.1) 0 l,((vu (fun x:zo=>x.1) 0 l).length:Int),i,o))
      (fun rest o=>some (zAZ 0 (o ++ (rest.filter fun z=>((l.getD z.toNat qb).2.2.2.1.1:Int) == c).map fun z=>(l.getD z.toNat qb).2.2.2.1.2.1))) (by omega) (fun k i x rest o hi hI hx hm hr hk=>by
        simp only [zk1]
        obtain ⟨j,rfl,-,hj⟩:=hsm x hm
        rw [ltT hi,zn hi,zS,hx,zn (by omega),zn (by omega),Int.toNat_natCast,set1]
        have hxx:=(h (l.getD j qb) (qg (by omega))).1
        simp only [cond_true,zA0,Int.toNat_natCast]
        rw [decide_eq_true (by simp; omega)]
        simp only [cond_true]
        cases hq:((l.getD j qb).2.2.2.1.1:Int) == c with
        | false =>
          exact hk o ⟨by omega,hI.2⟩
        | true =>
          simp only [cond_true,List.map_cons,Int.toNat_natCast]
          refine (hk _ ⟨by simp; omega,fun x hx=>?_⟩).trans ?_
          · rcases List.mem_append.1 hx with hx | hx
            · exact hI.2 x hx
            · rcases List.mem_singleton.1 hx with rfl
              exact hxx
          · rw [List.append_assoc]; rfl) (fun k o hI=>by
        simp only [zk1]
        rw [ltF]
        simp only [cond_false]
        rw [zFG (by omega) hI.2,List.filter_nil,List.map_nil,List.append_nil]
        rfl) [] ⟨Nat.le_refl _,fun x hx=>by cases hx⟩
    refine hloop.trans ?_
    rw [List.nil_append,zEN (q:=fun x:zo=>(x.2.2.2.1.1:Int) == c) (g:=fun x:zo=>x.2.2.2.1.2.1) qb l l 0 fun j _=>by rw [Nat.zero_add]]
theorem z8K {l:List zo} (hl:l.length ≤ Go.maxLen) (h:∀ x ∈ l,zq6 x) (c:Int):zgV (l,c,()) = some (zvK l c):=by
  simp only [zgV,zyd]
  unfold zvK
  cases hc:jR c with
  | false=>unfold jR at hc; grind
  | true =>
    have hloop:=yu (B:=zlg qz) (l:=l) (α:=Int) qb (fun _ s=>0 ≤ s ∧ s ≤ M62) (fun i s=>(l,c,s,i)) (fun rest s=>some (zAZ s ((rest.filter fun x=>x.1 && (x.2.2.2.1.1:Int) == c).map fun x=>x.2.2.2.1.2.1))) hl (fun k i x rest s hi hI hx hm hr hk=>by
      simp only [zlg]
      have hxx:=(h x hm).1
      rw [ltT hi]
      simp only [zn hi,zS,hx,cond_true,zA0]
      unfold M62 at *
      unfold U64 at *
      rw [zlD (by unfold U64; omega) (by unfold U64; omega)]
      cases hl:x.1 with
      | false=>exact hk s hI
      | true =>
        cases hq:(x.2.2.2.1.1:Int) == c with
        | false=>exact hk s hI
        | true =>
          simp only [cond_true,Option.bind_some,zQy,Bool.and_self,List.map_cons,zAZ]
          unfold M62
          by_cases hb:s + x.2.2.2.1.2.1 > 4611686018427387904
          · rw [decide_eq_true hb]; rfl
          · rw [decide_eq_false hb]
            exact hk (s + x.2.2.2.1.2.1) (by omega)) (fun k s _=>by simp only [zlg]; rw [ltF]; rfl) 0 (by unfold M62; omega)
    refine Eq.trans ?_ hloop
    unfold jR at hc
    grind
end Go.Proofs.YtaokpakfhdeiiaaGreatDoor
end
section
namespace Go.Proofs.YtaokpakfhdeiiaaGreatDoor
open Go.Ev
def zYk (x:Int):Bool:=decide (0 ≤ x ∧ x ≤ 2)
theorem z3b (x:Int):zbO (x,()) = some (!zYk x,()):=by simp only [zbO,zAC,zYk]; grind
def zJD (r:zd) (i:Nat) (row:List Int):Bool:=decide (row.length = r.2.2.1.length) && (row.all zYk && row.getD (Int.toNat (r.2.2.2.1.getD i qj).2.1) (0:Int) == 2)
def zfg (r:zd) (l:List (List Int)):Bool:=decide (l.length = r.2.2.2.1.length) && ql (fun i=>zJD r i (l.getD i [])) 0 (l.length - 0)
structure zlE (r:zd):Prop where
  labels:1 ≤ r.1.length ∧ r.1.length ≤ 8
  lines:1 ≤ r.2.1.length ∧ r.2.1.length ≤ 8
  accounts:1 ≤ r.2.2.1.length ∧ r.2.2.1.length ≤ 8
  guilds:r.2.2.2.1.length ≤ 8
  quotas:r.2.2.2.2.1.length = r.1.length
  heads:∀ i,i < r.2.2.2.1.length→0 ≤ (r.2.2.2.1.getD i qj).2.1 ∧ (r.2.2.2.1.getD i qj).2.1 < (r.2.2.1.length:Int)
theorem j9 {r:zd} (h:qn r = true):zlE r:=by
  simp only [qn,Bool.and_eq_true] at h
  obtain ⟨h1,h2,h3,h4,h5,-⟩:=h
  simp only [zex,zBZ,zlK,zAX,zlC,within,Bool.and_eq_true,decide_eq_true_eq,z02,ju] at h1 h2 h3 h4 h5
  refine ⟨by omega,by omega,by omega,h4.1,by omega,fun i hi=>?_⟩
  have:=h4.2.1 i (by omega) (by omega)
  simp only [zYj,within,Bool.and_eq_true,decide_eq_true_eq] at this
  omega
theorem ixR {n:Nat} {x:Int} {ρ:Type} {y:Option ρ} (h:0 ≤ x ∧ x < (n:Int)):inR x (n:Int) y = y:=qdo h.1 h.2
theorem zUJ {r:zd} (hr:jC r) (l:List (List Int)):zch (r,l,()) = some (qn r && zfg r l,()):=by
  rw [zR]
  simp only [zch,zxF,znA r hr,Option.bind_some]
  cases hb:qn r with
  | false=>rfl
  | true =>
    have ok:=j9 hb
    rw [zs0]
    unfold zfg
    by_cases hn:l.length = r.2.2.2.1.length
    · have hg:=ok.guilds
      have hloop:zAD zQ K0 (some zbO,l,(l.length:Int),0,r) = bif ql (fun i=>zJD r i (l.getD i [])) 0 (l.length - 0) then some (true,()) else some (false,()) :=
        qG (i0:=0) (n:=l.length) (by unfold Go.maxLen; omega) (Nat.zero_le _) (fun i=>(some zbO,l,(l.length:Int),i,r)) (fun k i h1 h2=>by
          simp only [zqO]
          rw [ltT h2,zn h2,Int.toNat_natCast,zs0]
          unfold zJD
          by_cases hm:(l.getD i []).length = r.2.2.1.length
          · have ha:=ok.accounts
            have hh:=ok.heads i (by omega)
            rw [zed (p:=fun x=>!zYk x) (l:=l.getD i []) (by unfold Go.maxLen; omega) fun x _=>z3b x,zn (by omega),zS,ixR (by rw [hm]; exact hh)]
            have:=zaK (l:=l.getD i []) (p:=zYk)
            simp only [Option.bind_some,cond_true]
            grind
          · grind) (fun k=>by simp only [zqO]; rw [ltF]; rfl)
      rw [hloop]
      grind
    · grind
theorem z52 {r:zd} (hr:jC r) (l:List (List Int)):zhP (r,l,()) = some (qn r && zfg r l,()):=by
  rw [zR]
  simp only [zhP,ztt,zEM r hr,Option.bind_some]
  cases hb:qn r with
  | false=>rfl
  | true =>
    have ok:=j9 hb
    rw [zs0]
    unfold zfg
    by_cases hn:l.length = r.2.2.2.1.length
    · have hg:=ok.guilds
      have ha:=ok.accounts
      have inner:∀ k0 (i:Nat),i < l.length→(l.getD i []).length = r.2.2.1.length→zo0 K0 k0 (l,(i:Int),0,r) = bif (l.getD i []).all zYk then k0 (l,wI ((i:Int) + 1),r) else some (false,()):=fun k0 i hi hm =>
        yK (l:=l.getD i []) (0:Int) (fun j=>(l,(i:Int),j,r)) (by unfold Go.maxLen; omega) (fun k j x h1 h2 _=>by
          simp only [zoZ]
          have h2':List.getD (l.getD i []) j (0:Int) = x:=h2
          simp only [zn hi,Int.toNat_natCast,ltT h1,zn h1,h2',cond_true,zYk]
          grind) (fun k=>by
          simp only [zoZ]
          simp only [zn hi,Int.toNat_natCast]
          rw [ltF]; rfl)
      have hloop:zx8 K0 (l,0,r) = bif ql (fun i=>zJD r i (l.getD i [])) 0 (l.length - 0) then some (true,()) else some (false,()) :=
        qG (i0:=0) (n:=l.length) (by unfold Go.maxLen; omega) (Nat.zero_le _) (fun i=>(l,i,r)) (fun k i h1 h2=>by
          simp only [ziL]
          rw [ltT h2]
          simp only [zn h2,Int.toNat_natCast]
          rw [zs0]
          unfold zJD
          by_cases hm:(l.getD i []).length = r.2.2.1.length
          · have hh:=ok.heads i (by omega)
            have hi:=inner k i h2 hm
            rw [zn (by omega),zS,ixR (by rw [hm]; exact hh),hi]
            simp only [cond_true]
            grind
          · grind) (fun k=>by simp only [ziL]; rw [ltF]; rfl)
      rw [hloop]
      grind
    · grind
theorem qdE (x:Int):zvF (x,()) = some (vI x,()):=by simp only [zvF,zT5,vI]; grind
theorem qaD (x:Int):znN (x,()) = some (vI x,()):=by simp only [znN,zNm,vI]; grind
theorem qcn (x:Int):zqP (x,()) = some (vI x,()):=by simp only [zqP,zQf,vI]; grind
theorem qaE (x:Int):znP (x,()) = some (vI x,()):=by simp only [znP,zNp,vI]; grind
def zyt (k a b:Int):Int × Int × Unit:=bif (k != 1 && k != 2) || (a == 0 || b == 0) then (0,1,()) else bif decide (a * b > M62) then (0,7,()) else bif k == 2 then (a,0,()) else (a * b,0,())
theorem zWA {k a b:Int} (ha:0 ≤ a ∧ a < U64) (hb:0 ≤ b ∧ b < U64):zdL (k,a,b,()) = some (zyt k a b):=by
  simp only [zdL,zM3,z8F ha hb,Option.bind_some,zPb,zyt]
  generalize a * b = p
  cases h:decide (p > M62) <;> simp only [cond_true,cond_false] <;> grind
theorem zUK {k a b:Int} (ha:0 ≤ a ∧ a < U64) (hb:0 ≤ b ∧ b < U64):zcq (k,a,b,()) = some (zyt k a b):=by
  simp only [zcq,zJj,z5X ha hb,Option.bind_some,zPb,zyt]
  generalize a * b = p
  cases h:decide (p > M62) <;> simp only [cond_true,cond_false] <;> grind
def zo5 (x:Int):Prop:=0 ≤ x ∧ x < U64
structure zq8 (x:zj):Prop where
  amount:zo5 x.2.2.2.2.2.2.1
  price:zo5 x.2.2.2.2.2.2.2.1
  held:zo5 x.2.2.2.2.2.2.2.2.1
def zvp (x:zj):Bool:=((zyt x.2.2.2.1 x.2.2.2.2.2.2.2.1 x.2.2.2.2.2.2.1).2.1 == 0 && (zyt x.2.2.2.1 x.2.2.2.2.2.2.2.1 x.2.2.2.2.2.2.1).1 == x.2.2.2.2.2.2.2.2.1) && ((vI x.2.1 && vI x.2.2.1) && ((jR x.2.2.2.2.1 && jR x.2.2.2.2.2.1) && ((x.2.2.2.2.1:Int) != x.2.2.2.2.2.1 && decide (0 ≤ x.2.2.2.2.2.2.2.2.2.1))))
theorem qco {x:zj} (h:zq8 x):zmo (x,()) = some (zvp x,()):=by
  rw [zR]
  simp only [zmo,zQe,zWA h.price h.amount,qdE,zgW,Option.bind_some,zvp]
  generalize zyt x.2.2.2.1 x.2.2.2.2.2.2.2.1 x.2.2.2.2.2.2.1 = n
  grind
theorem qaF {x:zj} (h:zq8 x):zjU (x,()) = some (zvp x,()):=by
  rw [zR]
  simp only [zjU,zNn,zUK h.price h.amount,qaD,Option.bind_some,zvp]
  generalize zyt x.2.2.2.1 x.2.2.2.2.2.2.2.1 x.2.2.2.2.2.2.1 = n
  unfold jR
  grind
def zA1 (x:zj):Bool:=bif x.1 then zvp x else eqI zi x (zb zi)
def zEO (l:List zj):List Int:=(l.filter fun x=>x.1).map fun x=>x.2.2.2.2.2.2.2.2.2.1
theorem qcp (o:List (Int × Int)) (x z v:Int):yT tI (yW tI o x v) z = (yT tI o z || z == x):=by
  induction o with
  | nil=>simp only [yW,yT]; show (bif z == x then true else false) = (false || z == x); cases z == x <;> rfl
  | cons e o ih =>
    obtain ⟨e1,e2⟩:=e
    have hx:∀ y:Int,eqI tI y e1 = (y == e1):=fun y=>rfl
    simp only [yW,yT,hx]
    cases h:x == e1 with
    | true =>
      have:=eq_of_beq h
      subst this
      simp only [cond_true,yT,hx]
      cases z == x <;> simp
    | false =>
      simp only [cond_false,yT,ih,hx]
      cases z == e1 <;> rfl
theorem z3R (o:List (Int × Int)) (x v:Int):(yW tI o x v).length = o.length + (bif yT tI o x then 0 else 1):=by
  induction o with
  | nil=>rfl
  | cons e o ih =>
    simp only [yW,yT]
    cases h:eqI tI x e.1 with
    | true=>simp only [cond_true,List.length_cons,Nat.add_zero]
    | false =>
      simp only [cond_false,List.length_cons,ih]
      generalize (bif yT tI o x then 0 else 1) = n
      omega
def zNC:List Int→List (Int × Int)→Nat
  | [],o=>o.length
  | x :: l,o=>zNC l (yW tI o x (wI (zfj tI (0:Int) o x + 1)))
theorem qba:∀ (l:List Int) (o:List (Int × Int)),zNC l o ≤ o.length + l.length
  | [],o=>Nat.le_refl _
  | x :: l,o=>by
    have h:=qba l (yW tI o x (wI (zfj tI (0:Int) o x + 1)))
    rw [z3R] at h
    simp only [zNC,List.length_cons]
    cases hm:yT tI o x <;> (rw [hm] at h; simp only [cond_true,cond_false] at h; omega)
theorem qbb:∀ (l:List Int) (o:List (Int × Int)),zNC l o = o.length + l.length ↔ (l.Pairwise (· ≠ ·) ∧ ∀ x ∈ l,yT tI o x = false)
  | [],o=>by simp [zNC]
  | x :: l,o=>by
    have h:=qba l (yW tI o x (wI (zfj tI (0:Int) o x + 1)))
    have ih:=qbb l (yW tI o x (wI (zfj tI (0:Int) o x + 1)))
    rw [z3R] at h ih
    simp only [zNC,List.length_cons,List.pairwise_cons]
    cases hm:yT tI o x with
    | true =>
      rw [hm] at h
      simp only [cond_true] at h
      constructor
      · intro h1; omega
      · rintro ⟨-,h1⟩
        have:=h1 x (by simp)
        rw [hm] at this; cases this
    | false =>
      rw [hm] at ih
      simp only [cond_false] at ih
      rw [show o.length + (l.length + 1) = o.length + 1 + l.length by omega,ih]
      simp only [qcp]
      constructor
      · rintro ⟨h1,h2⟩
        refine ⟨⟨fun z hz=>?_,h1⟩,fun z hz=>?_⟩
        · have:=h2 z hz
          simp only [Bool.or_eq_false_iff,beq_eq_false_iff_ne] at this
          exact fun e=>this.2 e.symm
        · rcases List.mem_cons.1 hz with rfl | hz
          · exact hm
          · have:=h2 z hz
            simp only [Bool.or_eq_false_iff] at this
            exact this.1
      · rintro ⟨⟨h1,h2⟩,h3⟩
        refine ⟨h2,fun z hz=>?_⟩
        simp only [Bool.or_eq_false_iff,beq_eq_false_iff_ne]
        exact ⟨h3 z (by simp [hz]),fun e=>h1 z hz e.symm⟩
def zh0 (l:List zj):Bool:=l.all zA1 && zNC (zEO l) [] == (zEO l).length
theorem z8L {l:List zj} (hl:l.length ≤ 1000000) (h:∀ x ∈ l,zq8 x):zpW (l,()) = some (zh0 l,()):=by
  have hloop:=yu (B:=zkW zmo) (l:=l) (α:=Nat × List (Int × Int)) zP (fun i s=>s.1 ≤ i) (fun i s=>((s.1:Int),l,(l.length:Int),i,s.2))
    (fun rest s=>some (rest.all zA1 && zNC (zEO rest) s.2 == s.1 + (zEO rest).length,())) (by unfold Go.maxLen; omega) (fun k i x rest s hi hI hx hm hr hk=>by
      obtain ⟨n,o⟩:=s
      simp only [zkW]
      have hn:n ≤ i:=hI
      have hw:wI ((n:Int) + 1) = ((n + 1:Nat):Int):=by
        unfold wI
        rw [IntWalk.i64_in _ (by omega)]; rfl
      rw [ltT hi,zn hi]
      simp only [zS,hx,cond_true,qco (h x hm),Option.bind_some,hw,zEO,zA0,List.all_cons,zA1]
      cases hlive:x.1 with
      | false =>
        simp only [cond_false]
        have:=hk (n,o) (by show n ≤ i + 1; omega)
        cases eqI zi x (zb zi) with
        | false=>rfl
        | true=>exact this
      | true =>
        simp only [cond_true,List.map_cons,zNC,List.length_cons]
        have:=hk (n + 1,yW tI o x.2.2.2.2.2.2.2.2.2.1 (wI (zfj tI (0:Int) o x.2.2.2.2.2.2.2.2.2.1 + 1))) (by show n + 1 ≤ i + 1; omega)
        cases zvp x with
        | false=>rfl
        | true =>
          refine this.trans ?_
          simp only [zEO,Bool.true_and]
          rw [show n + 1 + (List.map (fun x:zj=>x.2.2.2.2.2.2.2.2.2.1) (List.filter (fun x=>x.1) rest)).length = n + ((List.map (fun x:zj=>x.2.2.2.2.2.2.2.2.2.1) (List.filter (fun x=>x.1) rest)).length + 1) by omega]) (fun k s _=>by
      obtain ⟨n,o⟩:=s
      simp only [zkW]
      rw [ltF]
      simp only [cond_false,zEO,List.filter_nil,List.map_nil,zNC,List.length_nil,List.all_nil,Bool.true_and,Nat.add_zero]
      rw [qdA]
      cases o.length == n <;> rfl) (0,[]) (Nat.le_refl _)
  refine hloop.trans ?_
  unfold zh0
  rw [Nat.zero_add]
theorem qaG {l:List zj} (hl:l.length ≤ Go.maxLen) (n:Nat) (hn:n ≤ l.length) (b:Int):znO (l,(n:Int),b,()) = some (!ql (fun j=>!((l.getD j zP).1 && ((l.getD j zP).2.2.2.2.2.2.2.2.2.1:Int) == b)) 0 (n - 0),()):=by
  have hloop:=qG (B:=zm5) (i0:=0) (n:=n) (p:=fun j=>!((l.getD j zP).1 && ((l.getD j zP).2.2.2.2.2.2.2.2.2.1:Int) == b)) (fin:=some (false,())) (bad:=some (true,())) (by omega) (Nat.zero_le _) (fun i=>(l,(n:Int),b,i)) (fun k i h1 h2=>by
    simp only [zm5]
    rw [ltT h2]
    simp only [zn (show i < l.length by omega),zS,cond_true]
    grind) (fun k=>by simp only [zm5]; rw [ltF]; rfl)
  refine hloop.trans ?_
  cases ql (fun j=>!((l.getD j zP).1 && ((l.getD j zP).2.2.2.2.2.2.2.2.2.1:Int) == b)) 0 (n - 0) <;> rfl
theorem qcq {l:List zj}:(zEO l).Pairwise (· ≠ ·) ↔ ∀ i j:Nat,i < j→j < l.length→(l.getD i zP).1 = true→(l.getD j zP).1 = true→(l.getD i zP).2.2.2.2.2.2.2.2.2.1 ≠ (l.getD j zP).2.2.2.2.2.2.2.2.2.1:=by
  unfold zEO
  rw [List.pairwise_map,List.pairwise_filter,List.pairwise_iff_getElem]
  have e:∀ i (h:i < l.length),l.getD i zP = l[i]:=fun i h=>by simp [List.getD,h]
  constructor
  · intro h i j hij hj h1 h2
    rw [e i (by omega)] at h1 ⊢
    rw [e j hj] at h2 ⊢
    exact h i j (by omega) hj hij h1 h2
  · intro h i j hi hj hij h1 h2
    have:=h i j hij hj (by rw [e i hi]; exact h1) (by rw [e j hj]; exact h2)
    rw [e i hi,e j hj] at this
    exact this
theorem qcr (l:List zj):zh0 l = ql (fun i=>zA1 (l.getD i zP) && (!(l.getD i zP).1 || ql (fun j=>!((l.getD j zP).1 && ((l.getD j zP).2.2.2.2.2.2.2.2.2.1:Int) == (l.getD i zP).2.2.2.2.2.2.2.2.2.1)) 0 (i - 0))) 0 (l.length - 0):=by
  rw [Bool.eq_iff_iff,ju]
  unfold zh0
  have hc:=qbb (zEO l) []
  simp only [List.length_nil,Nat.zero_add] at hc
  simp only [Bool.and_eq_true,List.all_eq_true,beq_iff_eq,hc,qcq]
  constructor
  · rintro ⟨h1,h2,-⟩ i _ hi
    refine ⟨h1 _ (qg (by omega)),?_⟩
    cases hlive:(l.getD i zP).1 with
    | false=>rfl
    | true =>
      simp only [Bool.not_true,Bool.false_or,ju]
      intro j _ hj
      cases hj1:(l.getD j zP).1 with
      | false=>rfl
      | true =>
        have:=h2 j i (by omega) (by omega) hj1 hlive
        simp only [Bool.true_and,Bool.not_eq_true',beq_eq_false_iff_ne]
        exact this
  · intro h
    refine ⟨fun x hx=>?_,fun i j hij hj h1 h2=>?_,fun x _=>rfl⟩
    · obtain ⟨i,hi,rfl⟩:=List.mem_iff_getElem.1 hx
      have e:l.getD i zP = l[i]:=by simp [List.getD,hi]
      rw [← e]
      exact (h i (by omega) (by omega)).1
    · have:=(h j (by omega) (by omega)).2
      rw [h2] at this
      simp only [Bool.not_true,Bool.false_or,ju] at this
      have:=this i (by omega) (by omega)
      rw [h1] at this
      simp only [Bool.true_and,Bool.not_eq_true',beq_eq_false_iff_ne] at this
      exact this
theorem z53 {l:List zj} (hl:l.length ≤ Go.maxLen) (h:∀ x ∈ l,zq8 x):zm6 (l,()) = some (zh0 l,()):=by
  rw [zR,qcr]
  exact qG (B:=ziN zjU znO) (i0:=0) hl (Nat.zero_le _) (fun i=>(l,i)) (fun k i h1 h2=>by
    simp only [ziN]
    rw [ltT h2]
    simp only [zn h2,zS,cond_true]
    rw [qaF (h _ (qg h2)),qaG hl i (by omega)]
    simp only [Option.bind_some,zA1]
    grind) (fun k=>by simp only [ziN]; rw [ltF]; rfl)
structure zFP (x:zy):Prop where
  amount:zo5 x.2.2.2.2.2.2.2.1
  price:zo5 x.2.2.2.2.2.2.2.2.1
def zq9 (x:zy):Bool:=(decide (x.1 ≤ M62) && (vI x.2.1 && (vI x.2.2.1 && (vI x.2.2.2.1 && vI x.2.2.2.2.2.2.2.2.2.1)))) && bif (x.2.2.2.2.1:Int) == 3 then ((x.2.2.2.2.2.1:Int) == 0 && (x.2.2.2.2.2.2.1:Int) == 0) && ((x.2.2.2.2.2.2.2.1:Int) == 0 && (x.2.2.2.2.2.2.2.2.1:Int) == 0)
  else ((zyt x.2.2.2.2.1 x.2.2.2.2.2.2.2.1 x.2.2.2.2.2.2.2.2.1).2.1 == 0 && (x.2.2.2.2.2.2.2.2.2.1:Int) == 0) && ((x.2.2.2.2.2.1:Int) != x.2.2.2.2.2.2.1 && (jR x.2.2.2.2.2.1 && jR x.2.2.2.2.2.2.1))
theorem qdF (x:zy):eqI zl x (x.1,x.2.1,x.2.2.1,x.2.2.2.1,x.2.2.2.2.1,(zb zl).2.2.2.2.2.1,(zb zl).2.2.2.2.2.2.1,(zb zl).2.2.2.2.2.2.2.1,(zb zl).2.2.2.2.2.2.2.2.1,x.2.2.2.2.2.2.2.2.2.1,(zb zl).2.2.2.2.2.2.2.2.2.2) = (((x.2.2.2.2.2.1:Int) == 0 && (x.2.2.2.2.2.2.1:Int) == 0) && ((x.2.2.2.2.2.2.2.1:Int) == 0 && (x.2.2.2.2.2.2.2.2.1:Int) == 0)):=by
  show cond ((x.1:Int) == x.1) (cond ((x.2.1:Int) == x.2.1) (cond ((x.2.2.1:Int) == x.2.2.1) (cond ((x.2.2.2.1:Int) == x.2.2.2.1) (cond ((x.2.2.2.2.1:Int) == x.2.2.2.2.1) (cond ((x.2.2.2.2.2.1:Int) == 0) (cond ((x.2.2.2.2.2.2.1:Int) == 0) (cond ((x.2.2.2.2.2.2.2.1:Int) == 0) (cond ((x.2.2.2.2.2.2.2.2.1:Int) == 0) (cond ((x.2.2.2.2.2.2.2.2.2.1:Int) == x.2.2.2.2.2.2.2.2.2.1) true false) false) false) false) false) false) false) false) false) false = _
  simp only [beq_self_eq_true,cond_true]
  cases ((x.2.2.2.2.2.1:Int) == 0) <;> cases ((x.2.2.2.2.2.2.1:Int) == 0) <;> cases ((x.2.2.2.2.2.2.2.1:Int) == 0) <;> cases ((x.2.2.2.2.2.2.2.2.1:Int) == 0) <;> rfl
theorem qaH {x:zy} (h:zFP x):zjM (x,()) = some (zq9 x,()):=by
  rw [zR]
  simp only [zjM,zM4,zWA h.amount h.price,qcn,zgW,Option.bind_some,zq9]
  rw [qdF x]
  generalize zyt x.2.2.2.2.1 x.2.2.2.2.2.2.2.1 x.2.2.2.2.2.2.2.2.1 = n
  unfold M62
  grind
theorem qaI {x:zy} (h:zFP x):zjV (x,()) = some (zq9 x,()):=by
  rw [zR]
  simp only [zjV,zNq,zUK h.amount h.price,qaE,Option.bind_some,zq9]
  have hz:(x.2.2.2.2.2.2.2.2.2.1:Int) == 0→vI x.2.2.2.2.2.2.2.2.2.1 = true:=fun h=>by unfold vI; grind
  generalize zyt x.2.2.2.2.1 x.2.2.2.2.2.2.2.1 x.2.2.2.2.2.2.2.2.1 = n
  unfold M62 jR
  grind
def z07 (a b:zy):Int:=orV (zyo a.1 b.1) (zyo a.2.1 b.2.1)
theorem z54 (a b:zy):zeN (a,b,()) = some (z07 a b,()):=by
  simp only [zeN,zD9,zR4,zJx,Option.bind_some]
  show Option.bind (zaY ([zyo a.1 b.1,zyo a.2.1 b.2.1],())) _ = _
  rw [qfL]; rfl
theorem z3c (a b:zy):zdz (a,b,()) = some (!decide (z07 b a ≥ 0),()):=by
  rw [zR]
  simp only [zdz,zAU,z07,orV,zyo]
  grind
def zvq (l:List zy):Bool:=ql (fun i=>zq9 (l.getD i zaV) && (decide (i = 0) || !decide (z07 (l.getD (i - 1) zaV) (l.getD i zaV) ≥ 0))) 0 (l.length - 0)
theorem z55 {l:List zy} (hl:l.length ≤ Go.maxLen) (h:∀ x ∈ l,zFP x):zmW (l,()) = some (zvq l,()):=by
  rw [zR]
  exact qG (B:=zil zjM zeN) (i0:=0) hl (Nat.zero_le _) (fun i=>(l,l,(l.length:Int),i)) (fun k i h1 h2=>by
    simp only [zil]
    rw [ltT h2,zn h2,zS,qaH (h _ (qg h2))]
    by_cases h0:i = 0
    · subst h0
      simp only [cond_true,Option.bind_some]
      grind
    · rw [zvw (by omega) (by omega),zn (by omega),Int.toNat_natCast,z54]
      simp only [cond_true,Option.bind_some]
      grind) (fun k=>by simp only [zil]; rw [ltF]; rfl)
theorem z56 {l:List zy} (hl:l.length ≤ Go.maxLen) (h:∀ x ∈ l,zFP x):zm7 (l,()) = some (zvq l,()):=by
  rw [zR]
  exact qG (B:=ziP zjV zdz) (i0:=0) hl (Nat.zero_le _) (fun i=>(l,i)) (fun k i h1 h2=>by
    simp only [ziP]
    rw [ltT h2,zn h2,zS,qaI (h _ (qg h2))]
    by_cases h0:i = 0
    · subst h0
      simp only [cond_true,Option.bind_some]
      grind
    · rw [zvw (by omega) (by omega),zn h2,zn (by omega),Int.toNat_natCast,z3c]
      simp only [cond_true,Option.bind_some]
      grind) (fun k=>by simp only [ziP]; rw [ltF]; rfl)
end Go.Proofs.YtaokpakfhdeiiaaGreatDoor
end
section
namespace Go.Proofs.YtaokpakfhdeiiaaGreatDoor
open Go.Ev
def zQz (a:List Int):Prop:=∀ x ∈ a,zo5 x
theorem zgX {a:List Int} (h:zQz a) (i:Nat):zo5 (a.getD i 0):=by
  by_cases hi:i < a.length
  · exact h _ (qg hi)
  · rw [List.getD_eq_getElem?_getD,List.getElem?_eq_none (by omega)]
    unfold zo5 U64; decide
structure zPc (x:zg):Prop where
  trades:∀ t ∈ x.2.2.2.2.1,zq6 t
  purses:∀ a ∈ x.2.2.2.2.2.1,zQz a
  made:zQz x.2.2.2.2.2.2.2.1
  spent:zQz x.2.2.2.2.2.2.2.2.1
structure zdC (s:ze):Prop where
  shelves:∀ x ∈ s.2.1,zPc x
  orders:∀ x ∈ s.2.2.2.1,zq8 x
  entries:∀ x ∈ s.2.2.2.2.1,zFP x
def zqi (r:zd) (x:zg) (q:vU):Bool:=((decide ((x.1.length:Int) = q.1) && decide ((x.2.1.length:Int) = q.2.1)) && (decide ((x.2.2.1.length:Int) = q.2.2.1) && decide ((x.2.2.2.1.length:Int) = q.2.2.2.1))) && (decide ((x.2.2.2.2.1.length:Int) = q.2.2.2.2.1) && (decide (x.2.2.2.2.2.1.length = r.2.2.1.length) && decide (x.2.2.2.2.2.2.1.length = r.2.2.1.length)))
def zlF (r:zd) (s:ze):Bool:=(decide (s.2.1.length = r.1.length) && (decide ((s.2.2.2.1.length:Int) = r.2.2.2.2.2.1) && decide ((s.2.2.2.2.1.length:Int) ≤ r.2.2.2.2.2.2.1))) && ((decide (s.2.2.2.2.2.1.length = r.2.1.length) && decide (s.1 ≤ M62)) && ql (fun i=>zqi r (s.2.1.getD i za) (r.2.2.2.2.1.getD i zD)) 0 (s.2.1.length - 0))
theorem neI (a b:Int):(a != b) = !decide (a = b):=by
  rw [Bool.eq_iff_iff]; simp
theorem z57 {r:zd} (hr:jC r) (s:ze):zeL ((r,s,()),()) = some (qn r && zlF r s,()):=by
  rw [zR]
  simp only [zeL,ztl,znA r hr,Option.bind_some]
  cases hb:qn r with
  | false=>rfl
  | true =>
    have ok:=j9 hb
    have ok1:=ok.labels
    have ok2:=ok.quotas
    rw [zs0,zs0]
    unfold zlF M62
    by_cases hn:s.2.1.length = r.1.length
    · have hloop:zxv K0 ((r.2.2.1.length:Int),s.2.1,(s.2.1.length:Int),0,(r,s,())) = bif ql (fun i=>zqi r (s.2.1.getD i za) (r.2.2.2.2.1.getD i zD)) 0 (s.2.1.length - 0) then some (true,()) else some (false,()) :=
        qG (i0:=0) (n:=s.2.1.length) (by unfold Go.maxLen; omega) (Nat.zero_le _) (fun i=>((r.2.2.1.length:Int),s.2.1,(s.2.1.length:Int),i,(r,s,()))) (fun k i h1 h2=>by
          simp only [zoN]
          rw [ltT h2,zn h2,zn (by omega)]
          simp only [zS,neI,cond_true,zqi]
          generalize s.2.1.getD i za = x
          generalize r.2.2.2.2.1.getD i zD = q
          generalize k _ = kk
          grind (splits:=30)) (fun k=>by simp only [zoN]; rw [ltF]; rfl)
      rw [hloop]
      grind
    · grind
theorem z58 {r:zd} (hb:qn r = true) (s:ze):zhO (r,s,()) = some (zlF r s,()):=by
  rw [zR]
  simp only [zhO,zts]
  have ok:=j9 hb
  have ok1:=ok.labels
  have ok2:=ok.quotas
  rw [zs0,zs0]
  unfold zlF M62
  by_cases hn:s.2.1.length = r.1.length
  · have hloop:zx7 K0 (0,r,s) = bif ql (fun i=>zqi r (s.2.1.getD i za) (r.2.2.2.2.1.getD i zD)) 0 (s.2.1.length - 0) then some (true,()) else some (false,()) :=
      qG (i0:=0) (n:=s.2.1.length) (by unfold Go.maxLen; omega) (Nat.zero_le _) (fun i=>(i,r,s)) (fun k i h1 h2=>by
        simp only [zoY]
        rw [ltT h2,zn h2,zn (by omega)]
        simp only [zS,neI,cond_true,zqi]
        generalize s.2.1.getD i za = x
        generalize r.2.2.2.2.1.getD i zD = q
        generalize k _ = kk
        grind (splits:=30)) (fun k=>by simp only [zoY]; rw [ltF]; rfl)
    rw [hloop]
    grind
  · grind
structure zlG (r:zd) (s:ze):Prop where
  shelves:s.2.1.length = r.1.length
  orders:s.2.2.2.1.length ≤ 24
  entries:s.2.2.2.2.1.length ≤ 48
  people:s.2.2.2.2.2.1.length = r.2.1.length
  shelf:∀ x ∈ s.2.1,x.1.length ≤ 12 ∧ x.2.1.length ≤ 12 ∧ x.2.2.1.length ≤ 12 ∧ x.2.2.2.1.length ≤ 12 ∧ x.2.2.2.2.1.length ≤ 12 ∧ x.2.2.2.2.2.1.length = r.2.2.1.length ∧ x.2.2.2.2.2.2.1.length = r.2.2.1.length
theorem zYl:∀ (l:List vU) (n:Int),zyq n l = true→∀ q ∈ l,znU q = true
  | [],_,_,q,h=>by cases h
  | a :: l,n,h,q,hq=>by
    simp only [zyq,Bool.and_eq_true] at h
    rcases List.mem_cons.1 hq with rfl | hq
    · exact h.1
    · exact zYl l _ h.2.2 q hq
theorem zB1 {r:zd} {s:ze} (hb:qn r = true) (h:zlF r s = true):zlG r s:=by
  have ok:=j9 hb
  simp only [qn,Bool.and_eq_true] at hb
  obtain ⟨-,-,-,-,h5,h6⟩:=hb
  simp only [zlC,zFE,within,Bool.and_eq_true,decide_eq_true_eq] at h5 h6
  simp only [zlF,Bool.and_eq_true,decide_eq_true_eq,ju] at h
  obtain ⟨⟨h7,h8,h9⟩,⟨h10,-⟩,h11⟩:=h
  refine ⟨h7,by omega,by omega,h10,fun x hx=>?_⟩
  obtain ⟨i,hi,rfl⟩:=List.mem_iff_getElem.1 hx
  have h12:=h11 i (by omega) (by omega)
  have e:s.2.1.getD i za = s.2.1[i]:=by simp [List.getD,hi]
  rw [e] at h12
  have hq:=zYl _ _ h5.2.2.2 (r.2.2.2.2.1.getD i zD) (qg (by have:=ok.quotas; omega))
  simp only [znU,within,Bool.and_eq_true,decide_eq_true_eq] at hq
  simp only [zqi,Bool.and_eq_true,decide_eq_true_eq] at h12
  omega
def yw (x:zg):Bool:=(x.1.all znB) && (zO9 x.2.1 && (x.2.2.1.all zcx && (x.2.2.2.1.all zys && x.2.2.2.2.1.all zq7)))
theorem z08 {x:zg} (h:x.1.length ≤ 12 ∧ x.2.1.length ≤ 12 ∧ x.2.2.1.length ≤ 12 ∧ x.2.2.2.1.length ≤ 12 ∧ x.2.2.2.2.1.length ≤ 12):zei (x,()) = some (yw x,()):=by
  rw [zR]
  have hm:12 ≤ Go.maxLen:=by unfold Go.maxLen; omega
  simp only [zei,zxD]
  rw [z8y (by omega),z8A (by omega),z5U (by omega),z8E (by omega),z5Y (by omega)]
  simp only [Option.bind_some,yw]
  grind
theorem z59 {r:zd} {s:ze} (ok:zlE r) (sz:zlG r s):zeM ((r,s,()),()) = some (s.2.1.all yw,()):=by
  rw [zR]
  simp only [zeM,zD8]
  have h1:=ok.labels
  have h2:=sz.shelves
  rw [qah (p:=yw) (by unfold Go.maxLen; omega) fun x hx=>z08 (by have:=sz.shelf x hx; omega)]
  simp only [Option.bind_some]
def zcU (r:zd) (x:Int):Bool:=decide (0 ≤ x ∧ x < (r.2.2.1.length:Int))
def zbe (r:zd) (x:Int):Bool:=decide (0 ≤ x ∧ x < (r.1.length:Int))
theorem zey (r:zd) (s:ze) (x:Int):qu ((r,s,()),x,()) = some (zcU r x,()):=by simp only [qu,zxH,zcU]; grind
theorem zR7 (r:zd) (s:ze) (x:Int):zbm ((r,s,()),x,()) = some (zbe r x,()):=by simp only [zbm,zEd,zbe]; grind
theorem znV (r:zd) (x:Int):qE (r,x,()) = some (zcU r x,()):=by simp only [qE,zNr,zcU]; grind
def zjj (s:ze) (x:jI):Bool:=decide (0 ≤ x.1 ∧ x.1 < (s.2.1.length:Int)) && (decide (0 ≤ x.2.1 ∧ x.2.1 < ((s.2.1.getD x.1.toNat za).1.length:Int)) && ((s.2.1.getD x.1.toNat za).1.getD x.2.1.toNat zbh).1)
theorem zEP (s:ze) (x:jI):yb (s,x,()) = some (zjj s x,()):=by
  rw [zR]
  simp only [yb,zEb,zjj,ix]
  by_cases h1:0 ≤ x.1 ∧ x.1 < (s.2.1.length:Int)
  · rw [ixR h1,ixR h1]
    by_cases h2:0 ≤ x.2.1 ∧ x.2.1 < ((s.2.1.getD x.1.toNat za).1.length:Int)
    · rw [ixR h2]
      grind
    · grind
  · grind
theorem zEQ (s:ze) (x:jI):ye (s,x,()) = some (zjj s x,()):=by
  rw [zR]
  simp only [ye,zEy,zjj,ix]
  by_cases h1:0 ≤ x.1 ∧ x.1 < (s.2.1.length:Int)
  · rw [ixR h1,ixR h1]
    by_cases h2:0 ≤ x.2.1 ∧ x.2.1 < ((s.2.1.getD x.1.toNat za).1.length:Int)
    · rw [ixR h2]
      grind
    · grind
  · grind
def zA2 (r:zd) (s:ze) (x:zj):Bool:=!x.1 || (zbe r x.2.1 && (zcU r x.2.2.1 && decide (x.2.2.2.2.2.2.2.2.2.1 < (s.2.2.2.2.1.length:Int))))
def zA3 (r:zd) (s:ze) (x:zy):Bool:=decide (x.2.1 < (r.2.1.length:Int)) && ((x.2.2.1:Int) == r.2.1.getD x.2.1.toNat 0 && (zcU r x.2.2.2.1 && decide (x.1 ≤ s.1)))
def zA4 (r:zd) (x:Int):Bool:=x == -1 || zcU r x
theorem qcs (r:zd) (s:ze) (x:zj):zdj (x,some (r,s,()),()) = some (zA2 r s x,()):=by
  rw [zR]
  simp only [zdj,zu3,zey,zR7,Option.bind_some,zA2]
  grind
theorem qct (r:zd) (s:ze) {x:zy} (h:zq9 x = true):zdk (x,some (r,s,()),()) = some (zA3 r s x,()):=by
  rw [zR]
  simp only [zdk,zu4,zey,Option.bind_some,zA3,ix]
  have:0 ≤ x.2.1:=by unfold zq9 vI at h; grind
  by_cases h1:x.2.1 < (r.2.1.length:Int)
  · rw [ixR ⟨this,h1⟩]
    grind
  · grind
theorem qcu (r:zd) (s:ze) (x:Int):zdl (x,some (r,s,()),()) = some (zA4 r x,()):=by
  rw [zR]
  simp only [zdl,zu5,zey,Option.bind_some,zA4]
  grind
def zdD (r:zd) (s:ze):Bool:=zfg r s.2.2.1 && (zh0 s.2.2.2.1 && (zvq s.2.2.2.2.1 && (zjj s (zb zY) && (s.2.2.2.1.all (zA2 r s) && (s.2.2.2.2.1.all (zA3 r s) && s.2.2.2.2.2.1.all (zA4 r))))))
theorem zUL {l:List zy} (h:zvq l = true):∀ x ∈ l,zq9 x = true:=by
  intro x hx
  simp only [zvq,ju,Bool.and_eq_true] at h
  obtain ⟨i,hi,rfl⟩:=List.mem_iff_getElem.1 hx
  have e:l.getD i zaV = l[i]:=by simp [List.getD,hi]
  rw [← e]
  exact (h i (by omega) (by omega)).1
theorem qaJ {l:List zj} (h:zh0 l = true):∀ x ∈ l,zA1 x = true:=by
  intro x hx
  simp only [zh0,Bool.and_eq_true,List.all_eq_true] at h
  exact h.1 x hx
theorem z3d {r:zd} {s:ze} (hr:jC r) (hb:qn r = true) (hs:zdC s) (sz:zlG r s):zdn ((r,s,()),()) = some (zdD r s,()):=by
  rw [zR]
  have ok:=j9 hb
  have h1:=ok.lines
  have h2:=sz.orders
  have h3:=sz.entries
  have h4:=sz.people
  have hm:48 ≤ Go.maxLen:=by unfold Go.maxLen; omega
  simp only [zdn,zAE,zUJ hr,hb,Bool.true_and,Option.bind_some]
  unfold zdD
  cases zfg r s.2.2.1 with
  | false=>rfl
  | true =>
    rw [z8L (by omega) hs.orders,z55 (by omega) hs.entries,zEP]
    simp only [Option.bind_some,cond_true]
    cases zh0 s.2.2.2.1 with
    | false=>rfl
    | true =>
      cases he:zvq s.2.2.2.2.1 with
      | false=>rfl
      | true =>
        rw [qai (p:=zA2 r s) (by omega) fun x _=>qcs r s x,qaj (p:=zA3 r s) (by omega) fun x hx=>qct r s (zUL he x hx),qdx (p:=zA4 r) (by omega) fun x _=>qcu r s x]
        simp only [Option.bind_some,cond_true]
        grind
theorem z3e {r:zd} {s:ze} (hr:jC r) (hb:qn r = true) (hs:zdC s) (sz:zlG r s):zfV (r,s,()) = some (zdD r s,()):=by
  rw [zR]
  have ok:=j9 hb
  have h1:=ok.lines
  have h2:=sz.orders
  have h3:=sz.entries
  have h4:=sz.people
  have hm:48 ≤ Go.maxLen:=by unfold Go.maxLen; omega
  simp only [zfV,zqZ,z52 hr,hb,Bool.true_and,Option.bind_some]
  unfold zdD
  cases zfg r s.2.2.1 with
  | false=>rfl
  | true =>
    rw [z53 (by omega) hs.orders,z56 (by omega) hs.entries,zEQ]
    simp only [Option.bind_some,cond_true]
    cases ho:zh0 s.2.2.2.1 with
    | false=>rfl
    | true =>
      cases he:zvq s.2.2.2.2.1 with
      | false=>rfl
      | true =>
        cases zjj s (zb zY) with
        | false=>rfl
        | true =>
          simp only [cond_true,Bool.true_and]
          have l2:zgP qE K0 (0,r,s) = bif s.2.2.2.2.2.1.all (zA4 r) then some (true,()) else some (false,()) :=
            yK (l:=s.2.2.2.2.2.1) (0:Int) (fun i=>(i,r,s)) (by omega) (fun k i x hi hx _=>by
              simp only [zmF]
              rw [ltT hi]
              simp only [zn hi,zS,hx,znV,Option.bind_some,cond_true,zA4]
              grind) (fun k=>by simp only [zmF]; rw [ltF]; rfl)
          have l1:zgR qE K0 (0,r,s) = bif s.2.2.2.2.1.all (zA3 r s) then zgP qE K0 (0,r,s) else some (false,()) :=
            yK (l:=s.2.2.2.2.1) zaV (fun i=>(i,r,s)) (by omega) (fun k i x hi hx hmem=>by
              have hok:=zUL he x hmem
              have h0:0 ≤ x.2.1:=by unfold zq9 vI at hok; grind
              simp only [zgQ]
              rw [ltT hi]
              simp only [zn hi,zS,hx,znV,Option.bind_some,cond_true,zA3]
              by_cases h1:x.2.1 < (r.2.1.length:Int)
              · rw [ixR ⟨h0,h1⟩]
                grind
              · grind) (fun k=>by simp only [zgQ]; rw [ltF]; rfl)
          have l0:zvo qE K0 (0,r,s) = bif s.2.2.2.1.all (zA2 r s) then zgR qE K0 (0,r,s) else some (false,()) :=
            yK (l:=s.2.2.2.1) zP (fun i=>(i,r,s)) (by omega) (fun k i x hi hx hmem=>by
              have hok:=qaJ ho x hmem
              have h0:x.1 = true→0 ≤ x.2.1:=fun h=>by unfold zA1 zvp vI at hok; grind
              simp only [zgS]
              rw [ltT hi]
              simp only [zn hi,zS,hx,znV,Option.bind_some,cond_true,zA2,zbe]
              grind) (fun k=>by simp only [zgS]; rw [ltF]; rfl)
          rw [l0,l1,l2]
          grind
end Go.Proofs.YtaokpakfhdeiiaaGreatDoor
end
section
namespace Go.Proofs.YtaokpakfhdeiiaaGreatDoor
open Go.Ev
def zYm (r:zd) (a b:Int):Bool:=zbe r a && (zbe r b && zUH (r.1.getD a.toNat qm) (r.1.getD b.toNat qm))
theorem zPd {r:zd} (hr:jC r) (a:Int) (h:zbe r a = true):zJB (r.1.getD a.toNat qm):=by
  simp only [zbe,decide_eq_true_eq] at h
  exact hr.labels _ (qg (by omega))
theorem zWB {r:zd} (hr:jC r) (s:ze) (a b:Int):zdM ((r,s,()),a,b,()) = some (zYm r a b,()):=by
  rw [zR]
  simp only [zdM,zNb,zR7,Option.bind_some,zYm,ix]
  cases ha:zbe r a with
  | false=>rfl
  | true =>
    cases hb:zbe r b with
    | false=>rfl
    | true =>
      rw [qav (zPd hr a ha) (zPd hr b hb)]
      simp only [zbe,decide_eq_true_eq] at ha hb
      rw [ixR ha,ixR hb]
      simp only [Option.bind_some]
      grind
theorem zWC {r:zd} (hr:jC r) (a b:Int):vp (r,a,b,()) = some (zYm r a b,()):=by
  rw [zR]
  simp only [vp,zNz,zYm,ix]
  cases ha:zbe r a with
  | false=>unfold zbe at ha; grind
  | true =>
    cases hb:zbe r b with
    | false=>unfold zbe at ha hb; grind
    | true =>
      rw [qaw (zPd hr a ha) (zPd hr b hb)]
      simp only [zbe,decide_eq_true_eq] at ha hb
      rw [ixR ha,ixR hb]
      simp only [Option.bind_some]
      grind
def zfh (r:zd) (s:ze) (i:Int) (x:jI):Bool:=zjj s x && zYm r x.1 i
theorem zyu {r:zd} (hr:jC r) (s:ze) (i:Int) (x:jI):yQ (x,some (r,s,()),some i,()) = some (zfh r s i x,()):=by
  rw [zR]
  simp only [yQ,zxK,zEP,zWB hr,Option.bind_some,zfh]
  grind
theorem zER {r:zd} (hr:jC r) (s:ze) (i:Int) (x:jI):jm (r,s,x,i,()) = some (zfh r s i x,()):=by
  rw [zR]
  simp only [jm,zEG,zEQ,zWC hr,Option.bind_some,zfh]
  grind
def zqj (r:zd) (s:ze) (i:Int) (x:z5):Bool:=!x.1 || (zfh r s i x.2.1 && zfh r s i x.2.2.1)
def zqk (r:zd) (s:ze) (i:Int) (x:z3):Bool:=(x.2.2.1:Int) != 2 || zfh r s i x.2.2.2.2.1
def zJE (r:zd) (s:ze) (i:Int) (x:zg):Bool:=x.2.1.all (zqj r s i) && (x.2.2.1.all (zqk r s i) && x.2.2.2.2.2.2.1.all (zfh r s i))
theorem qdG {r:zd} (hr:jC r) (s:ze) (i:Int) (x:z5):zci (x,some (some fun z=>yQ (z.1,some (r,s,()),some i,())),()) = some (zqj r s i x,()):=by
  rw [zR]
  simp only [zci,zxM,zyu hr,Option.bind_some,zqj]
  grind
theorem qdH {r:zd} (hr:jC r) (s:ze) (i:Int) (x:z3):zcj (x,some (some fun z=>yQ (z.1,some (r,s,()),some i,())),()) = some (zqk r s i x,()):=by
  rw [zR]
  simp only [zcj,zxN,zyu hr,Option.bind_some,zqk]
  grind
theorem z6a {r:zd} {s:ze} (hr:jC r) (ok:zlE r) (sz:zlG r s):zhH ((r,s,()),()) = some (ql (fun i=>zJE r s (i:Int) (s.2.1.getD i za)) 0 (s.2.1.length - 0),()):=by
  rw [zR]
  have h1:=ok.labels
  have h2:=sz.shelves
  have h3:=ok.accounts
  exact qG (B:=zio zhG zci zdo zcj jy zel) (i0:=0) (n:=s.2.1.length) (by unfold Go.maxLen; omega) (Nat.zero_le _) (fun i=>(s.2.1,(s.2.1.length:Int),i,(r,s,()))) (fun k i _ h=>by
    have hm:12 ≤ Go.maxLen:=by unfold Go.maxLen; omega
    have hz:=sz.shelf _ (qg (d:=za) h)
    simp only [zio]
    have hbelow:zhG ((r,s,()),(i:Int),()) = some (some fun z=>yQ (z.1,some (r,s,()),some (i:Int),()),()):=rfl
    rw [ltT h,zn h,zS,hbelow,Option.bind_some,qcf (p:=zqj r s i) (by omega) fun x _=>qdG hr s i x,z0X (p:=zqk r s i) (by omega) fun x _=>qdH hr s i x,qdy (p:=zfh r s i) (by omega) fun x _=>zyu hr s i x]
    simp only [Option.bind_some,cond_true]
    unfold zJE
    grind) (fun k=>by simp only [zio]; rw [ltF]; rfl)
theorem qaK {σ ρ:Type} {B:(σ→Option ρ)→σ→Option ρ} {i0 n:Nat} (hn:n ≤ Go.maxLen) (h0:i0 ≤ n) {p:Nat→Bool} {fin bad:Option ρ} (st:Int→σ)
    (hin:∀ k (i:Nat),i0 ≤ i→i < n→B k (st i) = bif p i then k (st (wI (i + 1))) else bad) (hout:∀ k,B k (st n) = fin) (K:Nat) (hK:n - i0 < K):iter B K (st i0) = bif ql p i0 (n - i0) then fin else bad:=by
  have key:∀ (m i fuel:Nat),i0 ≤ i→i + m = n→m < fuel→iter B fuel (st i) = bif ql p i m then fin else bad:=by
    intro m
    induction m with
    | zero =>
      intro i fuel _ h1 h2
      obtain ⟨f,rfl⟩:∃ f,fuel = f + 1:=⟨fuel - 1,by omega⟩
      obtain rfl:i = n:=by omega
      exact hout _
    | succ m ih =>
      intro i fuel h1 h2 h3
      obtain ⟨f,rfl⟩:∃ f,fuel = f + 1:=⟨fuel - 1,by omega⟩
      show B (iter B f) (st i) = _
      rw [hin _ i h1 (by omega),wI,z6l (len:=n) (by omega) hn,show ((i:Int) + 1) = ((i + 1:Nat):Int) by omega,ih (i + 1) f (by omega) (by omega) (by omega)]
      simp only [ql]
      cases p i <;> rfl
  exact key (n - i0) i0 K (Nat.le_refl _) (by omega) hK
def zA5 (r:zd) (x:z3):Bool:=(x.2.2.1:Int) != 1 || zcU r x.2.2.2.1
def zA6 (r:zd) (i:Int) (x:qh):Bool:=!x.1 || (zYm r x.2.1 i && (zcU r x.2.2.1 && zcU r x.2.2.2.1))
def zA7 (r:zd) (x:zo):Bool:=!x.1 || (zcU r x.2.1 && zcU r x.2.2.1)
def zlH (r:zd) (i:Int) (x:zg):Bool:=x.2.2.1.all (zA5 r) && (x.2.2.2.1.all (zA6 r i) && x.2.2.2.2.1.all (zA7 r))
theorem qcv (r:zd) (s:ze) (x:z3):vf (x,some (r,s,()),()) = some (zA5 r x,()):=by
  rw [zR]
  simp only [vf,zu7,zey,Option.bind_some,zA5]
  grind
theorem qcw {r:zd} (hr:jC r) (s:ze) (i:Int) (x:qh):vg (x,some (r,s,()),some i,()) = some (zA6 r i x,()):=by
  rw [zR]
  simp only [vg,zu8,zey,zWB hr,Option.bind_some,zA6]
  grind
theorem qcx (r:zd) (s:ze) (x:zo):vh (x,some (r,s,()),()) = some (zA7 r x,()):=by
  rw [zR]
  simp only [vh,zu9,zey,Option.bind_some,zA7]
  grind
theorem z3f {r:zd} {s:ze} (hr:jC r) (ok:zlE r) (sz:zlG r s):zdp ((r,s,()),()) = some (ql (fun i=>zlH r (i:Int) (s.2.1.getD i za)) 0 s.2.1.length,()):=by
  rw [zR]
  have h1:=ok.labels
  have h2:=sz.shelves
  have hm:12 ≤ Go.maxLen:=by unfold Go.maxLen; omega
  have step:∀ k (i:Nat),i < s.2.1.length→vQ vf jy vg vP vh vo k (s.2.1,(s.2.1.length:Int),(i:Int),(r,s,())) = bif zlH r (i:Int) (s.2.1.getD i za) then k (s.2.1,(s.2.1.length:Int),wI ((i:Int) + 1),(r,s,())) else some (false,()):=fun k i h=>by
    have hz:=sz.shelf _ (qg (d:=za) h)
    simp only [vQ]
    rw [ltT h,zn h,zS,z0X (p:=zA5 r) (by omega) fun x _=>qcv r s x,qcg (p:=zA6 r i) (by omega) fun x _=>qcw hr s i x,qak (p:=zA7 r) (by omega) fun x _=>qcx r s x]
    simp only [Option.bind_some,cond_true]
    unfold zlH
    grind
  have hend:∀ k,vQ vf jy vg vP vh vo k (s.2.1,(s.2.1.length:Int),(s.2.1.length:Int),(r,s,())) = some (true,()):=fun k=>by simp only [vQ]; rw [ltF]; rfl
  have first:zdp ((r,s,()),()) = zY3 (vQ vf jy vg vP vh vo) (vQ vf jy vg vP vh vo) K0 (s.2.1,(s.2.1.length:Int),((0:Nat):Int),(r,s,())):=rfl
  have hw:wI (((0:Nat):Int) + 1) = ((1:Nat):Int):=rfl
  obtain ⟨m,hK⟩:=zU6
  have hf:∀ (B0 B1:(zbs→Option (Bool × Unit))→zbs→Option (Bool × Unit)) (x:zbs),zY3 B0 B1 K0 x = B0 (iter B1 (m + 7)) x:=fun B0 B1 x=>by rw [hK]; rfl
  have rest:=qaK (B:=vQ vf jy vg vP vh vo) (i0:=1) (n:=s.2.1.length) (by unfold Go.maxLen; omega) (by omega) (p:=fun i=>zlH r (i:Int) (s.2.1.getD i za)) (fun i=>(s.2.1,(s.2.1.length:Int),i,(r,s,()))) (fun k i _ h=>step k i h) hend (m + 7) (by unfold K0 Go.maxLen at hK; omega)
  rw [hf] at first
  rw [first,step _ 0 (by omega),hw]
  refine (congrArg (fun z=>bif zlH r ((0:Nat):Int) (s.2.1.getD 0 za) then z else some (false,())) rest).trans ?_
  obtain ⟨n,hn⟩:∃ n,s.2.1.length = n + 1:=⟨s.2.1.length - 1,by omega⟩
  rw [hn]
  simp only [ql,Nat.add_sub_cancel]
  cases zlH r ((0:Nat):Int) (s.2.1.getD 0 za) <;> rfl
theorem z8M {l:List zo} {g:zo × Unit→Option (Bool × Unit)} {p:zo→Bool} (hg:∀ x,g (x,()) = some (p x,())) (z:Int):jA (some (l,some g,()),z,()) = some (decide (0 ≤ z ∧ z < (l.length:Int)) && p (l.getD z.toNat qb),()):=by
  by_cases h:0 ≤ z ∧ z < (l.length:Int)
  · obtain ⟨n,rfl⟩:=Int.eq_ofNat_of_zero_le h.1
    rw [zWz hg (by omega),decide_eq_true h,Bool.true_and,Int.toNat_natCast]
  · rw [decide_eq_false h,Bool.false_and]
    simp only [jA,zoP,zUI,Option.bind_some,cond_true]
    grind
theorem z09 {α:Type} {p:α→Bool} (d:α) (L:List α) (q:Int→Bool):∀ (l:List α) (i:Nat),(∀ j,j < l.length→L.getD (i + j) d = l.getD j d)→(vu p i l).all q = ql (fun j=>!p (L.getD j d) || q (j:Int)) i l.length
  | [],_,_=>rfl
  | x :: l,i,h=>by
    have ih:=z09 (p:=p) d L q l (i + 1) fun j hj=>by
      have:=h (j + 1) (by simp; omega)
      rw [show i + 1 + j = i + (j + 1) by omega,this]; rfl
    have h0:L.getD i d = x:=h 0 (by simp)
    simp only [vu,List.length_cons,ql,h0]
    rw [← ih]
    cases p x <;> simp
def zvr (x:zg) (j:Nat) (t:z3):Bool:=(t.2.2.1:Int) != 3 || (decide (0 ≤ t.2.2.2.1 ∧ t.2.2.2.1 < (x.2.2.2.2.1.length:Int)) && ((x.2.2.2.2.1.getD (Int.toNat t.2.2.2.1) qb).1 && ((x.2.2.2.2.1.getD (Int.toNat t.2.2.2.1) qb).2.2.2.1.2.2.1:Int) == (j:Int)))
def zlL (x:zg) (j:Int) (t:zo):Bool:=(decide (t.2.2.2.1.2.2.1 < (x.2.2.1.length:Int)) && decide (t.2.2.2.2.1.2.2.1 < (x.2.2.1.length:Int))) && (decide (t.2.2.2.1.2.2.1 < 0) || (((x.2.2.1.getD (Int.toNat t.2.2.2.1.2.2.1) zL).2.2.1:Int) == 3 && ((x.2.2.1.getD (Int.toNat t.2.2.2.1.2.2.1) zL).2.2.2.1:Int) == j))
def zB2 (x:zg):Bool:=ql (fun j=>zvr x j (x.2.2.1.getD j zL)) 0 (x.2.2.1.length - 0) && ql (fun j=>!(x.2.2.2.2.1.getD j qb).1 || zlL x (j:Int) (x.2.2.2.2.1.getD j qb)) 0 x.2.2.2.2.1.length
theorem zLt (x:zo):yo (x,()) = some (x.1,()):=by
  rw [zR]; rfl
theorem z6b {r:zd} {s:ze} (ok:zlE r) (sz:zlG r s):zhI ((r,s,()),()) = some (ql (fun i=>zB2 (s.2.1.getD i za)) 0 (s.2.1.length - 0),()):=by
  rw [zR]
  have h1:=ok.labels
  have h2:=sz.shelves
  have hm:12 ≤ Go.maxLen:=by unfold Go.maxLen; omega
  have hlm:12 ≤ lim:=by unfold lim; omega
  have l2:∀ k0 (i:Nat) (x:zg),x.2.2.2.2.1.length ≤ 12→zit K0 k0 (s.2.1,(s.2.1.length:Int),(i:Int),vu (fun t:zo=>t.1) 0 x.2.2.2.2.1,((vu (fun t:zo=>t.1) 0 x.2.2.2.2.1).length:Int),0,x) = bif ql (fun j=>!(x.2.2.2.2.1.getD j qb).1 || zlL x (j:Int) (x.2.2.2.2.1.getD j qb)) 0 x.2.2.2.2.1.length then k0 (s.2.1,(s.2.1.length:Int),wI ((i:Int) + 1)) else some (false,()):=fun k0 i x hx=>by
    have hsl:=zFH (p:=fun t:zo=>t.1) x.2.2.2.2.1 0
    have hsm:=zFI (p:=fun t:zo=>t.1) x.2.2.2.2.1 0
    have:=yK (B:=fun k2=>zis k0 k2) (l:=vu (fun t:zo=>t.1) 0 x.2.2.2.2.1) (0:Int) (p:=fun z=>zlL x z (x.2.2.2.2.1.getD z.toNat qb)) (fin:=k0 (s.2.1,(s.2.1.length:Int),wI ((i:Int) + 1))) (bad:=some (false,())) (fun j=>(s.2.1,(s.2.1.length:Int),(i:Int),vu (fun t:zo=>t.1) 0 x.2.2.2.2.1,((vu (fun t:zo=>t.1) 0 x.2.2.2.2.1).length:Int),j,x)) (by omega) (fun k j z hj hz hmem=>by
      obtain ⟨n,rfl,-,hn⟩:=hsm z hmem
      simp only [zis]
      rw [ltT hj,zn hj,zS,hz,zn (by omega),zn (by omega),Int.toNat_natCast]
      simp only [cond_true,zlL,neI]
      by_cases ha:(x.2.2.2.2.1.getD n qb).2.2.2.1.2.2.1 < (x.2.2.1.length:Int)
      · by_cases hb:0 ≤ (x.2.2.2.2.1.getD n qb).2.2.2.1.2.2.1
        · rw [ixR ⟨hb,ha⟩,ixR ⟨hb,ha⟩]
          grind
        · grind
      · grind) (fun k=>by simp only [zis]; rw [ltF]; rfl)
    refine this.trans ?_
    rw [z09 (p:=fun t:zo=>t.1) qb x.2.2.2.2.1 (fun z=>zlL x z (x.2.2.2.2.1.getD z.toNat qb)) x.2.2.2.2.1 0 fun j _=>by rw [Nat.zero_add]]
    simp only [Int.toNat_natCast]
  have l1:∀ k0 (i:Nat) (x:zg),x.2.2.1.length ≤ 12→x.2.2.2.2.1.length ≤ 12→ziu jA va K0 k0 (some (x.2.2.2.2.1,some yo,()),s.2.1,(s.2.1.length:Int),(i:Int),x.2.2.1,(x.2.2.1.length:Int),0,x) = bif zB2 x then k0 (s.2.1,(s.2.1.length:Int),wI ((i:Int) + 1)) else some (false,()):=fun k0 i x hx hx2=>by
    have:=qG (B:=fun k1=>zen jA va (zit K0 k0) k0 k1) (i0:=0) (n:=x.2.2.1.length) (p:=fun j=>zvr x j (x.2.2.1.getD j zL)) (fin:=bif ql (fun j=>!(x.2.2.2.2.1.getD j qb).1 || zlL x (j:Int) (x.2.2.2.2.1.getD j qb)) 0 x.2.2.2.2.1.length then k0 (s.2.1,(s.2.1.length:Int),wI ((i:Int) + 1)) else some (false,())) (bad:=some (false,())) (by omega) (Nat.zero_le _) (fun j=>(some (x.2.2.2.2.1,some yo,()),s.2.1,(s.2.1.length:Int),(i:Int),x.2.2.1,(x.2.2.1.length:Int),j,x)) (fun k j _ hj=>by
      simp only [zen]
      rw [ltT hj,zn hj,zS,z8M zLt]
      simp only [cond_true,Option.bind_some,zvr,neI]
      by_cases ha:0 ≤ (x.2.2.1.getD j zL).2.2.2.1 ∧ (x.2.2.1.getD j zL).2.2.2.1 < (x.2.2.2.2.1.length:Int)
      · rw [ixR ha]
        grind
      · grind) (fun k=>by
      simp only [zen]
      rw [ltF,zR6 (by omega) zLt,Option.bind_some]
      exact l2 k0 i x hx2)
    refine this.trans ?_
    unfold zB2
    cases ql (fun j=>zvr x j (x.2.2.1.getD j zL)) 0 (x.2.2.1.length - 0) <;> rfl
  exact qG (B:=fun k0=>zeo vi yo (ziu jA va K0 k0) k0) (i0:=0) (n:=s.2.1.length) (by omega) (Nat.zero_le _) (fun i=>(s.2.1,(s.2.1.length:Int),i)) (fun k i _ h=>by
    have hz:=sz.shelf _ (qg (d:=za) h)
    simp only [zeo]
    have hq:vi ((s.2.1.getD i za).2.2.2.2.1,some yo,()) = some (some ((s.2.1.getD i za).2.2.2.2.1,some yo,()),()):=by
      simp only [vi,zmw,zR3 (show (s.2.1.getD i za).2.2.2.2.1.length ≤ lim by omega),Option.bind_some]
      rfl
    rw [ltT h,zn h,zS,hq,Option.bind_some]
    exact l1 k i _ (by omega) (by omega)) (fun k=>by simp only [zeo]; rw [ltF]; rfl)
end Go.Proofs.YtaokpakfhdeiiaaGreatDoor
end
section
namespace Go.Proofs.YtaokpakfhdeiiaaGreatDoor
open Go.Ev
def zFQ (r:zd) (s:ze) (i:Int) (x:zg) (j:Nat) (t:z3):Bool:=!t.1 || bif (t.2.2.1:Int) == 1 then zcU r t.2.2.2.1 else bif (t.2.2.1:Int) == 2 then zfh r s i t.2.2.2.2.1 else decide (t.2.2.2.1 < (x.2.2.2.2.1.length:Int)) && ((x.2.2.2.2.1.getD (Int.toNat t.2.2.2.1) qb).1 && ((x.2.2.2.2.1.getD (Int.toNat t.2.2.2.1) qb).2.2.2.1.2.2.1:Int) == (j:Int))
theorem z8N {r:zd} (hr:jC r) {s:ze} {i j:Nat} (hi:i < s.2.1.length) (hj:j < (s.2.1.getD i za).2.2.1.length) (hok:zcx ((s.2.1.getD i za).2.2.1.getD j zL) = true) :
    zcs (r,s,(i:Int),(j:Int),()) = some (zFQ r s i (s.2.1.getD i za) j ((s.2.1.getD i za).2.2.1.getD j zL),()):=by
  rw [zR]
  simp only [zcs,zJn]
  rw [zn hi,zS,zn hj,Int.toNat_natCast]
  simp only [znV,zER hr,Option.bind_some,zFQ]
  generalize s.2.1.getD i za = x at *
  have ht:(x.2.2.1.getD j zL).1 = true→((x.2.2.1.getD j zL).2.2.1 == (1:Int)) = false→((x.2.2.1.getD j zL).2.2.1 == (2:Int)) = false→0 ≤ (x.2.2.1.getD j zL).2.2.2.1:=fun h1 h2 h3=>by
    unfold zcx zAY vI at hok; grind
  generalize x.2.2.1.getD j zL = t at *
  cases h1:t.1 with
  | false=>rfl
  | true =>
    cases h2:(t.2.2.1:Int) == 1 with
    | true=>cases hw:zcU r t.2.2.2.1 <;> rfl
    | false =>
      cases h3:(t.2.2.1:Int) == 2 with
      | true=>cases hw:zfh r s i t.2.2.2.2.1 <;> rfl
      | false =>
        have h0:=ht h1 h2 h3
        by_cases h4:t.2.2.2.1 < (x.2.2.2.2.1.length:Int)
        · rw [ixR ⟨h0,h4⟩,ixR ⟨h0,h4⟩]
          grind
        · grind
def zFR (r:zd) (x:zg) (j:Nat) (t:zo):Bool:=!t.1 || ((zcU r t.2.1 && zcU r t.2.2.1) && ((decide (t.2.2.2.1.2.2.1 < (x.2.2.1.length:Int)) && decide (t.2.2.2.2.1.2.2.1 < (x.2.2.1.length:Int))) && (decide (t.2.2.2.1.2.2.1 < 0) || ((x.2.2.1.getD (Int.toNat t.2.2.2.1.2.2.1) zL).1 && (((x.2.2.1.getD (Int.toNat t.2.2.2.1.2.2.1) zL).2.2.1:Int) == 3 && ((x.2.2.1.getD (Int.toNat t.2.2.2.1.2.2.1) zL).2.2.2.1:Int) == (j:Int))))))
theorem z8O (r:zd) (x:zg) {j:Nat} (hj:j < x.2.2.2.2.1.length):zab (r,x,(j:Int),()) = some (zFR r x j (x.2.2.2.2.1.getD j qb),()):=by
  rw [zR]
  simp only [zab,zJo]
  rw [zn hj,zS]
  simp only [znV,Option.bind_some,zFR]
  generalize x.2.2.2.2.1.getD j qb = t
  cases h1:t.1 with
  | false=>rfl
  | true =>
    by_cases ha:t.2.2.2.1.2.2.1 < (x.2.2.1.length:Int)
    · by_cases hb:0 ≤ t.2.2.2.1.2.2.1
      · rw [ixR ⟨hb,ha⟩]
        grind
      · grind
    · grind
def zQA (r:zd) (s:ze) (i:Int) (x:zg):Bool:=x.2.1.all (zqj r s i) && (ql (fun j=>zFQ r s i x j (x.2.2.1.getD j zL)) 0 (x.2.2.1.length - 0) && (ql (fun j=>zFR r x j (x.2.2.2.2.1.getD j qb)) 0 (x.2.2.2.2.1.length - 0) && (x.2.2.2.1.all (zA6 r i) && x.2.2.2.2.2.2.1.all (zfh r s i))))
theorem z3g {r:zd} {s:ze} (hr:jC r) (ok:zlE r) (hs:zdC s) (sz:zlG r s) {i:Nat} (hi:i < s.2.1.length):zcR (r,s,(i:Int),()) = some (yw (s.2.1.getD i za) && zQA r s i (s.2.1.getD i za),()):=by
  rw [zR]
  have hm:12 ≤ Go.maxLen:=by unfold Go.maxLen; omega
  have hz:=sz.shelf _ (qg (d:=za) hi)
  have hin:=hs.shelves _ (qg (d:=za) hi)
  have h3:=ok.accounts
  simp only [zcR,ztu]
  have hitem:=fun (j:Nat) (hj:j < (s.2.1.getD i za).2.2.1.length) (hok:zcx ((s.2.1.getD i za).2.2.1.getD j zL) = true)=>z8N hr hi hj hok
  rw [zn hi,zS]
  generalize s.2.1.getD i za = x at *
  rw [z5R (by omega),z5S (by omega),z5V (by omega),z5W (by omega),z5Z (by omega) hin.trades]
  simp only [Option.bind_some]
  unfold yw
  cases x.1.all znB with
  | false=>rfl
  | true =>
    cases zO9 x.2.1 with
    | false=>rfl
    | true =>
      cases hit:x.2.2.1.all zcx with
      | false=>rfl
      | true =>
        cases x.2.2.2.1.all zys with
        | false=>rfl
        | true =>
          cases x.2.2.2.2.1.all zq7 with
          | false=>rfl
          | true =>
            have l4:zi6 jm K0 ((i:Int),0,r,s,x) = bif x.2.2.2.2.2.2.1.all (zfh r s i) then some (true,()) else some (false,()) :=
              yK (l:=x.2.2.2.2.2.2.1) zki (fun j=>((i:Int),j,r,s,x)) (by omega) (fun k j y hj hy _=>by
                simp only [zo1]
                rw [ltT hj,zn hj,zS,hy,zER hr]
                simp only [Option.bind_some,cond_true]) (fun k=>by simp only [zo1]; rw [ltF]; rfl)
            have l3:zi8 jm vp qE K0 ((i:Int),0,r,s,x) = bif x.2.2.2.1.all (zA6 r i) then zi6 jm K0 ((i:Int),0,r,s,x) else some (false,()) :=
              yK (l:=x.2.2.2.1) zaE (fun j=>((i:Int),j,r,s,x)) (by omega) (fun k j y hj hy _=>by
                simp only [zi7]
                rw [ltT hj,zn hj,zS,hy,zWC hr]
                simp only [znV,Option.bind_some,cond_true,zA6]
                grind) (fun k=>by simp only [zi7]; rw [ltF]; rfl)
            have l2:zja jm zab vp qE K0 ((i:Int),0,r,s,x) = bif ql (fun j=>zFR r x j (x.2.2.2.2.1.getD j qb)) 0 (x.2.2.2.2.1.length - 0) then zi8 jm vp qE K0 ((i:Int),0,r,s,x) else some (false,()) :=
              qG (i0:=0) (n:=x.2.2.2.2.1.length) (by omega) (Nat.zero_le _) (fun j=>((i:Int),j,r,s,x)) (fun k j _ hj=>by
                simp only [zi9]
                rw [ltT hj,z8O r x hj]
                simp only [Option.bind_some,cond_true]) (fun k=>by simp only [zi9]; rw [ltF]; rfl)
            have l1:zjc jm zcs zab vp qE K0 ((i:Int),0,r,s,x) = bif ql (fun j=>zFQ r s i x j (x.2.2.1.getD j zL)) 0 (x.2.2.1.length - 0) then zja jm zab vp qE K0 ((i:Int),0,r,s,x) else some (false,()) :=
              qG (i0:=0) (n:=x.2.2.1.length) (by omega) (Nat.zero_le _) (fun j=>((i:Int),j,r,s,x)) (fun k j _ hj=>by
                simp only [zjb]
                rw [ltT hj,hitem j hj (List.all_eq_true.1 hit _ (qg hj))]
                simp only [Option.bind_some,cond_true]) (fun k=>by simp only [zjb]; rw [ltF]; rfl)
            have l0:zya jm zcs zab vp qE K0 ((i:Int),0,r,s,x) = bif x.2.1.all (zqj r s i) then zjc jm zcs zab vp qE K0 ((i:Int),0,r,s,x) else some (false,()) :=
              yK (l:=x.2.1) qQ (fun j=>((i:Int),j,r,s,x)) (by omega) (fun k j y hj hy _=>by
                simp only [zjd]
                rw [ltT hj,zn hj,zS,hy]
                simp only [zER hr,Option.bind_some,cond_true,zqj]
                grind) (fun k=>by simp only [zjd]; rw [ltF]; rfl)
            simp only [cond_true]
            rw [l0,l1,l2,l3,l4]
            unfold zQA
            grind
def zyv (r:zd) (s:ze) (i:Int) (x:zg):Bool:=zJE r s i x && (zlH r i x && zB2 x)
theorem zYn {α:Type} {d:α} {l:List α} {p:α→Bool}:l.all p = true ↔ ∀ j,j < l.length→p (l.getD j d) = true:=by
  rw [List.all_eq_true]
  constructor
  · exact fun h j hj=>h _ (qg hj)
  · intro h x hx
    obtain ⟨i,hi,rfl⟩:=List.mem_iff_getElem.1 hx
    have:=h i hi
    simpa [List.getD,hi] using this
theorem z3S {t:z3} (h:zcx t = true) (h1:t.1 = false):t.2.2.1 = 0:=by
  unfold zcx at h
  rw [h1,cond_false] at h
  have e:eqI zI t (zb zI) = cond (t.1 == false) (cond (ByteArray.toList t.2.1 == ByteArray.toList (zb zI).2.1) (cond ((t.2.2.1:Int) == 0) (cond ((t.2.2.2.1:Int) == 0) (cond (eqI zY t.2.2.2.2.1 (zb zY)) true false) false) false) false) false:=rfl
  rw [e] at h
  cases hk:(t.2.2.1:Int) == 0 with
  | true=>exact eq_of_beq hk
  | false =>
    rw [hk] at h
    revert h
    cases (t.1 == false) <;> cases (ByteArray.toList t.2.1 == ByteArray.toList (zb zI).2.1) <;> intro h <;> cases h
theorem z1a {r:zd} {s:ze} {i:Int} {x:zg} {j:Nat} {t:z3} (h:zcx t = true):zFQ r s i x j t = (zqk r s i t && (zA5 r t && zvr x j t)):=by
  unfold zFQ zqk zA5 zvr
  cases h1:t.1 with
  | false =>
    have:=z3S h h1
    rw [this]; rfl
  | true =>
    unfold zcx zAY vI at h
    rw [h1] at h
    generalize zcU r t.2.2.2.1 = a at *
    generalize zfh r s i t.2.2.2.2.1 = b at *
    grind
theorem qcy {r:zd} {x:zg} (hit:x.2.2.1.all zcx = true) {j:Nat} {t:zo}:zFR r x j t = (zA7 r t && (!t.1 || zlL x (j:Int) t)):=by
  unfold zFR zA7 zlL
  have hi:0 ≤ t.2.2.2.1.2.2.1→t.2.2.2.1.2.2.1 < (x.2.2.1.length:Int)→((x.2.2.1.getD (Int.toNat t.2.2.2.1.2.2.1) zL).2.2.1 == (3:Int)) = true→(x.2.2.1.getD (Int.toNat t.2.2.2.1.2.2.1) zL).1 = true:=fun h1 h2 h3=>by
    have h4:=List.all_eq_true.1 hit _ (qg (d:=zL) (show (Int.toNat t.2.2.2.1.2.2.1) < x.2.2.1.length by omega))
    cases h5:(x.2.2.1.getD (Int.toNat t.2.2.2.1.2.2.1) zL).1 with
    | true=>rfl
    | false =>
      have:=z3S h4 h5
      rw [this] at h3
      exact absurd h3 (by decide)
  generalize x.2.2.1.getD (Int.toNat t.2.2.2.1.2.2.1) zL = y at *
  cases t.1 with
  | false=>rfl
  | true=>grind
end Go.Proofs.YtaokpakfhdeiiaaGreatDoor
end
